/- The functions that the statement AuditNames runs, in the small code (part 0); each is what the framework makes of the program. -/
import Derived.Test.YtdikcadindibcaaFw27
import Derived.Test.YtdikcadindibcaaRows
namespace Go.Proofs.Ytdikcadindibcaa.An
open Go Go.Pf
-- parcener/parcenerlaw05.AuditNames
def lit7 : AFn := ⟨0, [.tmp 0],
 (.seq
 (.ops [⟨some 0, (.mv (.c (.bool false))), none⟩]
 [] [0])
 (.seq
 (.ops [⟨some 49, (.call (.f 32) [(.c (.int .i64 (1))), (.c (.int .i64 (0))), (.c (.int .i64 (1)))]), none⟩,
 ⟨some 50, (.call (.f 32) [(.c (.int .i64 (1))), (.c (.int .i64 (0))), (.c (.int .i64 (2)))]), none⟩,
 ⟨some 51, (.buildD 8 (.agg [(.int .i64 (0)), (.int .u8 (0)), (.int .i64 (0)), (.int .i64 (0)), (.int .i64 (0)), (.int .i64 (0)), (.int .i64 (0)), (.int .i64 (0))]) 2 [(0, (.t 49)), (1, (.t 50))]), none⟩,
 ⟨some 52, (.call (.f 22) [(.c (.int .i64 (3))), (.t 51)]), none⟩,
 ⟨some 48, (.mv (.t 52)), none⟩,
 ⟨some 53, (.ext (.t 48) 0), none⟩,
 ⟨some 54, (.ext (.t 48) 1), none⟩,
 ⟨some 1, (.mv (.t 53)), none⟩,
 ⟨some 2, (.mv (.t 54)), none⟩]
 [] [48, 49, 50, 51, 52, 53, 54])
 (.seq
 (.ops [⟨some 56, (.call (.f 32) [(.c (.int .i64 (0))), (.c (.int .i64 (1))), (.c (.int .i64 (2)))]), none⟩,
 ⟨some 57, (.call (.f 33) [(.c (.int .i64 (0))), (.c (.int .i64 (4))), (.c (.int .i64 (1)))]), none⟩,
 ⟨some 58, (.buildD 8 (.agg [(.int .i64 (0)), (.int .u8 (0)), (.int .i64 (0)), (.int .i64 (0)), (.int .i64 (0)), (.int .i64 (0)), (.int .i64 (0)), (.int .i64 (0))]) 2 [(0, (.t 56)), (1, (.t 57))]), none⟩,
 ⟨some 59, (.call (.f 15) [(.c (.int .i64 (4))), (.t 58)]), none⟩,
 ⟨some 55, (.mv (.t 59)), none⟩,
 ⟨some 60, (.ext (.t 55) 0), none⟩,
 ⟨some 61, (.ext (.t 55) 1), none⟩,
 ⟨some 3, (.allocL (.agg [.nils, .nils])), none⟩,
 ⟨none, (.store 2 (.t 3) (.t 60)), none⟩,
 ⟨some 4, (.mv (.t 61)), none⟩]
 [] [55, 56, 57, 58, 59, 60, 61])
 (.seq
 (.ops [⟨some 63, (.call (.f 32) [(.c (.int .i64 (1))), (.c (.int .i64 (1))), (.c (.int .i64 (3)))]), none⟩,
 ⟨some 64, (.buildD 8 (.agg [(.int .i64 (0)), (.int .u8 (0)), (.int .i64 (0)), (.int .i64 (0)), (.int .i64 (0)), (.int .i64 (0)), (.int .i64 (0)), (.int .i64 (0))]) 1 [(0, (.t 63))]), none⟩,
 ⟨some 65, (.call (.f 15) [(.c (.int .i64 (4))), (.t 64)]), none⟩,
 ⟨some 62, (.mv (.t 65)), none⟩,
 ⟨some 66, (.ext (.t 62) 0), none⟩,
 ⟨some 67, (.ext (.t 62) 1), none⟩,
 ⟨some 5, (.allocL (.agg [.nils, .nils])), none⟩,
 ⟨none, (.store 2 (.t 5) (.t 66)), none⟩,
 ⟨some 6, (.mv (.t 67)), none⟩]
 [] [62, 63, 64, 65, 66, 67])
 (.seq
 (.ops [⟨some 69, (.call (.f 33) [(.c (.int .i64 (0))), (.c (.int .i64 (2))), (.c (.int .i64 (2)))]), none⟩,
 ⟨some 70, (.call (.f 33) [(.c (.int .i64 (1))), (.c (.int .i64 (4))), (.c (.int .i64 (3)))]), none⟩,
 ⟨some 71, (.call (.f 33) [(.c (.int .i64 (0))), (.c (.int .i64 (4))), (.c (.int .i64 (6)))]), none⟩,
 ⟨some 72, (.buildD 8 (.agg [(.int .i64 (0)), (.int .u8 (0)), (.int .i64 (0)), (.int .i64 (0)), (.int .i64 (0)), (.int .i64 (0)), (.int .i64 (0)), (.int .i64 (0))]) 3 [(0, (.t 69)), (1, (.t 70)), (2, (.t 71))]), none⟩,
 ⟨some 73, (.call (.f 22) [(.c (.int .i64 (4))), (.t 72)]), none⟩,
 ⟨some 68, (.mv (.t 73)), none⟩,
 ⟨some 74, (.ext (.t 68) 0), none⟩,
 ⟨some 75, (.ext (.t 68) 1), none⟩,
 ⟨some 7, (.mv (.t 74)), none⟩,
 ⟨some 8, (.mv (.t 75)), none⟩]
 [] [68, 69, 70, 71, 72, 73, 74, 75])
 (.seq
 (.ops [⟨some 77, (.call (.f 15) [(.c (.int .i64 (1))), (.c .nils)]), none⟩,
 ⟨some 76, (.mv (.t 77)), none⟩,
 ⟨some 78, (.ext (.t 76) 0), none⟩,
 ⟨some 79, (.ext (.t 76) 1), none⟩,
 ⟨some 9, (.allocL (.agg [.nils, .nils])), none⟩,
 ⟨none, (.store 2 (.t 9) (.t 78)), none⟩,
 ⟨some 10, (.mv (.t 79)), none⟩]
 [] [76, 77, 78, 79])
 (.seq
 (.ops [⟨some 80, (.build [(.int .i64 (0)), (.int .i64 (0))] [(0, 1, (.c (.int .i64 (1)))), (1, 1, (.c (.int .i64 (2))))]), none⟩,
 ⟨some 11, (.allocL (.agg [(.int .i64 (0)), (.int .i64 (0))])), none⟩,
 ⟨none, (.store 2 (.t 11) (.t 80)), none⟩]
 [] [80])
 (.seq
 (.ops [⟨some 82, (.call (.f 34) [(.c (.int .i64 (0)))]), none⟩,
 ⟨some 83, (.load true 2 (.t 11)), none⟩,
 ⟨some 84, (.load true 2 (.t 11)), none⟩,
 ⟨some 85, (.build [(.int .i64 (0)), (.int .u8 (0)), (.int .i64 (0)), (.int .i64 (0)), (.int .i64 (0)), (.int .i64 (0)), (.int .i64 (0)), (.int .i64 (0))] [(1, 1, (.c (.int .u8 (2)))), (2, 2, (.t 82)), (4, 2, (.t 83)), (6, 2, (.t 84))]), none⟩,
 ⟨some 86, (.buildD 8 (.agg [(.int .i64 (0)), (.int .u8 (0)), (.int .i64 (0)), (.int .i64 (0)), (.int .i64 (0)), (.int .i64 (0)), (.int .i64 (0)), (.int .i64 (0))]) 1 [(0, (.t 85))]), none⟩,
 ⟨some 87, (.call (.f 15) [(.c (.int .i64 (1))), (.t 86)]), none⟩,
 ⟨some 81, (.mv (.t 87)), none⟩,
 ⟨some 88, (.ext (.t 81) 0), none⟩,
 ⟨some 89, (.ext (.t 81) 1), none⟩,
 ⟨some 12, (.allocL (.agg [.nils, .nils])), none⟩,
 ⟨none, (.store 2 (.t 12) (.t 88)), none⟩,
 ⟨some 13, (.mv (.t 89)), none⟩]
 [(0, 1), (0, 2), (1, 2), (7, 8), (0, 9), (1, 9), (2, 9), (3, 9), (4, 9), (5, 9), (6, 9), (7, 9), (8, 9), (8, 10)] [81, 82, 83, 84, 85, 86, 87, 88, 89])
 (.seq
 (.ops [⟨some 90, (.mv (.t 2)), none⟩,
 ⟨some 91, (.bin .eql (.t 90) (.c (.int .i64 (0)))), none⟩,
 ⟨some 92, (.mv (.t 91)), none⟩,
 ⟨some 93, (.mv (.t 1)), some (92, true)⟩,
 ⟨some 94, (.bin .eql (.t 93) (.c (.int .i64 (1)))), some (92, true)⟩,
 ⟨some 95, (.pick (.t 92) (.t 94) (.c (.bool false))), none⟩,
 ⟨some 96, (.mv (.t 95)), none⟩,
 ⟨some 97, (.mv (.t 4)), some (96, true)⟩,
 ⟨some 98, (.bin .eql (.t 97) (.c (.int .i64 (0)))), some (96, true)⟩,
 ⟨some 99, (.pick (.t 96) (.t 98) (.c (.bool false))), none⟩,
 ⟨some 100, (.mv (.t 99)), none⟩,
 ⟨some 101, (.fad 1 (.t 3)), some (100, true)⟩,
 ⟨some 102, (.load false 1 (.t 101)), some (100, true)⟩,
 ⟨some 103, (.call (.f 34) [(.c (.int .i64 (0)))]), some (100, true)⟩,
 ⟨some 104, (.call (.f 34) [(.c (.int .i64 (1)))]), some (100, true)⟩,
 ⟨some 105, (.call (.f 34) [(.c (.int .i64 (1)))]), some (100, true)⟩,
 ⟨some 106, (.buildD 2 (.agg [(.int .i64 (0)), (.int .i64 (0))]) 3 [(0, (.t 103)), (1, (.t 104)), (2, (.t 105))]), some (100, true)⟩,
 ⟨some 107, (.call (.f 26) [(.t 102), (.t 106)]), some (100, true)⟩,
 ⟨some 108, (.pick (.t 100) (.t 107) (.c (.bool false))), none⟩,
 ⟨some 109, (.mv (.t 108)), none⟩,
 ⟨some 110, (.mv (.t 6)), some (109, true)⟩,
 ⟨some 111, (.bin .eql (.t 110) (.c (.int .i64 (0)))), some (109, true)⟩,
 ⟨some 112, (.pick (.t 109) (.t 111) (.c (.bool false))), none⟩,
 ⟨some 113, (.mv (.t 112)), none⟩,
 ⟨some 114, (.fad 1 (.t 5)), some (113, true)⟩,
 ⟨some 115, (.load false 1 (.t 114)), some (113, true)⟩,
 ⟨some 116, (.call (.f 34) [(.c (.int .i64 (0)))]), some (113, true)⟩,
 ⟨some 117, (.call (.f 34) [(.c (.int .i64 (0)))]), some (113, true)⟩,
 ⟨some 118, (.call (.f 34) [(.c (.int .i64 (1)))]), some (113, true)⟩,
 ⟨some 119, (.call (.f 34) [(.c (.int .i64 (1)))]), some (113, true)⟩,
 ⟨some 120, (.buildD 2 (.agg [(.int .i64 (0)), (.int .i64 (0))]) 4 [(0, (.t 116)), (1, (.t 117)), (2, (.t 118)), (3, (.t 119))]), some (113, true)⟩,
 ⟨some 121, (.call (.f 26) [(.t 115), (.t 120)]), some (113, true)⟩,
 ⟨some 122, (.pick (.t 113) (.t 121) (.c (.bool false))), none⟩,
 ⟨some 123, (.mv (.t 122)), none⟩,
 ⟨some 124, (.mv (.t 8)), some (123, true)⟩,
 ⟨some 125, (.bin .eql (.t 124) (.c (.int .i64 (0)))), some (123, true)⟩,
 ⟨some 126, (.pick (.t 123) (.t 125) (.c (.bool false))), none⟩,
 ⟨some 127, (.mv (.t 126)), none⟩,
 ⟨some 128, (.mv (.t 7)), some (127, true)⟩,
 ⟨some 129, (.bin .eql (.t 128) (.c (.int .i64 (2)))), some (127, true)⟩,
 ⟨some 130, (.pick (.t 127) (.t 129) (.c (.bool false))), none⟩,
 ⟨some 131, (.mv (.t 130)), none⟩,
 ⟨some 132, (.mv (.t 10)), some (131, true)⟩,
 ⟨some 133, (.bin .eql (.t 132) (.c (.int .i64 (0)))), some (131, true)⟩,
 ⟨some 134, (.pick (.t 131) (.t 133) (.c (.bool false))), none⟩,
 ⟨some 135, (.mv (.t 134)), none⟩,
 ⟨some 136, (.fad 1 (.t 9)), some (135, true)⟩,
 ⟨some 137, (.load false 1 (.t 136)), some (135, true)⟩,
 ⟨some 138, (.call (.f 34) [(.c (.int .i64 (0)))]), some (135, true)⟩,
 ⟨some 139, (.call (.f 34) [(.c (.int .i64 (0)))]), some (135, true)⟩,
 ⟨some 140, (.buildD 2 (.agg [(.int .i64 (0)), (.int .i64 (0))]) 2 [(0, (.t 138)), (1, (.t 139))]), some (135, true)⟩,
 ⟨some 141, (.call (.f 26) [(.t 137), (.t 140)]), some (135, true)⟩,
 ⟨some 142, (.pick (.t 135) (.t 141) (.c (.bool false))), none⟩,
 ⟨some 143, (.mv (.t 142)), none⟩,
 ⟨some 144, (.mv (.t 13)), some (143, true)⟩,
 ⟨some 145, (.bin .eql (.t 144) (.c (.int .i64 (0)))), some (143, true)⟩,
 ⟨some 146, (.pick (.t 143) (.t 145) (.c (.bool false))), none⟩,
 ⟨some 147, (.mv (.t 146)), none⟩,
 ⟨some 148, (.fad 1 (.t 12)), some (147, true)⟩,
 ⟨some 149, (.load false 1 (.t 148)), some (147, true)⟩,
 ⟨some 150, (.call (.f 34) [(.c (.int .i64 (0)))]), some (147, true)⟩,
 ⟨some 151, (.load true 2 (.t 11)), some (147, true)⟩,
 ⟨some 152, (.load true 2 (.t 11)), some (147, true)⟩,
 ⟨some 153, (.buildD 2 (.agg [(.int .i64 (0)), (.int .i64 (0))]) 3 [(0, (.t 150)), (1, (.t 151)), (2, (.t 152))]), some (147, true)⟩,
 ⟨some 154, (.call (.f 26) [(.t 149), (.t 153)]), some (147, true)⟩,
 ⟨some 155, (.pick (.t 147) (.t 154) (.c (.bool false))), none⟩,
 ⟨some 14, (.mv (.t 155)), none⟩]
 [(11, 13), (12, 13), (11, 14), (12, 14), (11, 15), (12, 15), (11, 16), (12, 16), (24, 26), (25, 26), (24, 27), (25, 27), (24, 28), (25, 28), (24, 29), (25, 29), (24, 30), (25, 30), (46, 48), (47, 48), (46, 49), (47, 49), (46, 50), (47, 50), (58, 60), (59, 60), (58, 61), (59, 61), (60, 61), (58, 62), (59, 62), (60, 62), (61, 62), (58, 63), (59, 63)] [1, 2, 3, 4, 5, 6, 7, 8, 9, 10, 12, 13, 90, 91, 92, 93, 94, 95, 96, 97, 98, 99, 100, 101, 102, 103, 104, 105, 106, 107, 108, 109, 110, 111, 112, 113, 114, 115, 116, 117, 118, 119, 120, 121, 122, 123, 124, 125, 126, 127, 128, 129, 130, 131, 132, 133, 134, 135, 136, 137, 138, 139, 140, 141, 142, 143, 144, 145, 146, 147, 148, 149, 150, 151, 152, 153, 154, 155])
 (.seq
 (.ops [⟨some 157, (.call (.f 15) [(.c (.int .i64 (0))), (.c .nils)]), none⟩,
 ⟨some 156, (.mv (.t 157)), none⟩,
 ⟨some 158, (.ext (.t 156) 0), none⟩,
 ⟨some 159, (.ext (.t 156) 1), none⟩,
 ⟨some 15, (.allocL (.agg [.nils, .nils])), none⟩,
 ⟨none, (.store 2 (.t 15) (.t 158)), none⟩,
 ⟨some 16, (.mv (.t 159)), none⟩]
 [] [15, 156, 157, 158, 159])
 (.seq
 (.ops [⟨some 161, (.call (.f 12) [(.c (.int .i64 (1001))), (.c .nils)]), none⟩,
 ⟨some 160, (.mv (.t 161)), none⟩,
 ⟨some 162, (.ext (.t 160) 0), none⟩,
 ⟨some 163, (.ext (.t 160) 1), none⟩,
 ⟨some 17, (.mv (.t 162)), none⟩,
 ⟨some 18, (.mv (.t 163)), none⟩]
 [] [17, 160, 161, 162, 163])
 (.seq
 (.ops [⟨some 165, (.mkSl true 8 64 (.agg [(.int .i64 (0)), (.int .u8 (0)), (.int .i64 (0)), (.int .i64 (0)), (.int .i64 (0)), (.int .i64 (0)), (.int .i64 (0)), (.int .i64 (0))]) (.c (.int .i64 (41))) (.c (.int .i64 (41)))), none⟩,
 ⟨some 166, (.call (.f 22) [(.c (.int .i64 (1))), (.t 165)]), none⟩,
 ⟨some 164, (.mv (.t 166)), none⟩,
 ⟨some 167, (.ext (.t 164) 0), none⟩,
 ⟨some 168, (.ext (.t 164) 1), none⟩,
 ⟨some 19, (.mv (.t 167)), none⟩,
 ⟨some 20, (.mv (.t 168)), none⟩]
 [] [19, 164, 165, 166, 167, 168])
 (.seq
 (.ops [⟨some 170, (.build [(.int .i64 (0)), (.int .u8 (0)), (.int .i64 (0)), (.int .i64 (0)), (.int .i64 (0)), (.int .i64 (0)), (.int .i64 (0)), (.int .i64 (0))] []), none⟩,
 ⟨some 171, (.buildD 8 (.agg [(.int .i64 (0)), (.int .u8 (0)), (.int .i64 (0)), (.int .i64 (0)), (.int .i64 (0)), (.int .i64 (0)), (.int .i64 (0)), (.int .i64 (0))]) 1 [(0, (.t 170))]), none⟩,
 ⟨some 172, (.call (.f 12) [(.c (.int .i64 (1))), (.t 171)]), none⟩,
 ⟨some 169, (.mv (.t 172)), none⟩,
 ⟨some 173, (.ext (.t 169) 0), none⟩,
 ⟨some 174, (.ext (.t 169) 1), none⟩,
 ⟨some 21, (.mv (.t 173)), none⟩,
 ⟨some 22, (.mv (.t 174)), none⟩]
 [] [21, 169, 170, 171, 172, 173, 174])
 (.seq
 (.ops [⟨some 176, (.call (.f 33) [(.c (.int .i64 (0))), (.c (.int .i64 (2))), (.c (.int .i64 (1)))]), none⟩,
 ⟨some 177, (.buildD 8 (.agg [(.int .i64 (0)), (.int .u8 (0)), (.int .i64 (0)), (.int .i64 (0)), (.int .i64 (0)), (.int .i64 (0)), (.int .i64 (0)), (.int .i64 (0))]) 1 [(0, (.t 176))]), none⟩,
 ⟨some 178, (.call (.f 12) [(.c (.int .i64 (1))), (.t 177)]), none⟩,
 ⟨some 175, (.mv (.t 178)), none⟩,
 ⟨some 179, (.ext (.t 175) 0), none⟩,
 ⟨some 180, (.ext (.t 175) 1), none⟩,
 ⟨some 23, (.mv (.t 179)), none⟩,
 ⟨some 24, (.mv (.t 180)), none⟩]
 [] [23, 175, 176, 177, 178, 179, 180])
 (.seq
 (.ops [⟨some 182, (.call (.f 33) [(.c (.int .i64 (2))), (.c (.int .i64 (1))), (.c (.int .i64 (0)))]), none⟩,
 ⟨some 183, (.buildD 8 (.agg [(.int .i64 (0)), (.int .u8 (0)), (.int .i64 (0)), (.int .i64 (0)), (.int .i64 (0)), (.int .i64 (0)), (.int .i64 (0)), (.int .i64 (0))]) 1 [(0, (.t 182))]), none⟩,
 ⟨some 184, (.call (.f 12) [(.c (.int .i64 (2))), (.t 183)]), none⟩,
 ⟨some 181, (.mv (.t 184)), none⟩,
 ⟨some 185, (.ext (.t 181) 0), none⟩,
 ⟨some 186, (.ext (.t 181) 1), none⟩,
 ⟨some 25, (.mv (.t 185)), none⟩,
 ⟨some 26, (.mv (.t 186)), none⟩]
 [] [25, 181, 182, 183, 184, 185, 186])
 (.seq
 (.ops [⟨some 188, (.call (.f 33) [(.c (.int .i64 (0))), (.c (.int .i64 (1))), (.c (.int .i64 (-1)))]), none⟩,
 ⟨some 189, (.buildD 8 (.agg [(.int .i64 (0)), (.int .u8 (0)), (.int .i64 (0)), (.int .i64 (0)), (.int .i64 (0)), (.int .i64 (0)), (.int .i64 (0)), (.int .i64 (0))]) 1 [(0, (.t 188))]), none⟩,
 ⟨some 190, (.call (.f 12) [(.c (.int .i64 (2))), (.t 189)]), none⟩,
 ⟨some 187, (.mv (.t 190)), none⟩,
 ⟨some 191, (.ext (.t 187) 0), none⟩,
 ⟨some 192, (.ext (.t 187) 1), none⟩,
 ⟨some 27, (.mv (.t 191)), none⟩,
 ⟨some 28, (.mv (.t 192)), none⟩]
 [] [27, 187, 188, 189, 190, 191, 192])
 (.seq
 (.ops [⟨some 194, (.call (.f 32) [(.c (.int .i64 (1))), (.c (.int .i64 (1))), (.c (.int .i64 (0)))]), none⟩,
 ⟨some 195, (.buildD 8 (.agg [(.int .i64 (0)), (.int .u8 (0)), (.int .i64 (0)), (.int .i64 (0)), (.int .i64 (0)), (.int .i64 (0)), (.int .i64 (0)), (.int .i64 (0))]) 1 [(0, (.t 194))]), none⟩,
 ⟨some 196, (.call (.f 12) [(.c (.int .i64 (2))), (.t 195)]), none⟩,
 ⟨some 193, (.mv (.t 196)), none⟩,
 ⟨some 197, (.ext (.t 193) 0), none⟩,
 ⟨some 198, (.ext (.t 193) 1), none⟩,
 ⟨some 29, (.mv (.t 197)), none⟩,
 ⟨some 30, (.mv (.t 198)), none⟩]
 [] [29, 193, 194, 195, 196, 197, 198])
 (.seq
 (.ops [⟨some 200, (.call (.f 34) [(.c (.int .i64 (0)))]), none⟩,
 ⟨some 201, (.call (.f 34) [(.c (.int .i64 (1)))]), none⟩,
 ⟨some 202, (.build [(.int .i64 (0)), (.int .i64 (0))] [(0, 1, (.c (.int .i64 (1)))), (1, 1, (.c (.int .i64 (1000000001))))]), none⟩,
 ⟨some 203, (.build [(.int .i64 (0)), (.int .u8 (0)), (.int .i64 (0)), (.int .i64 (0)), (.int .i64 (0)), (.int .i64 (0)), (.int .i64 (0)), (.int .i64 (0))] [(1, 1, (.c (.int .u8 (1)))), (2, 2, (.t 200)), (4, 2, (.t 201)), (6, 2, (.t 202))]), none⟩,
 ⟨some 204, (.buildD 8 (.agg [(.int .i64 (0)), (.int .u8 (0)), (.int .i64 (0)), (.int .i64 (0)), (.int .i64 (0)), (.int .i64 (0)), (.int .i64 (0)), (.int .i64 (0))]) 1 [(0, (.t 203))]), none⟩,
 ⟨some 205, (.call (.f 15) [(.c (.int .i64 (2))), (.t 204)]), none⟩,
 ⟨some 199, (.mv (.t 205)), none⟩,
 ⟨some 206, (.ext (.t 199) 0), none⟩,
 ⟨some 207, (.ext (.t 199) 1), none⟩,
 ⟨some 31, (.allocL (.agg [.nils, .nils])), none⟩,
 ⟨none, (.store 2 (.t 31) (.t 206)), none⟩,
 ⟨some 32, (.mv (.t 207)), none⟩]
 [] [31, 199, 200, 201, 202, 203, 204, 205, 206, 207])
 (.seq
 (.ops [⟨some 209, (.call (.f 33) [(.c (.int .i64 (0))), (.c (.int .i64 (1))), (.c (.int .i64 (1000000000001)))]), none⟩,
 ⟨some 210, (.buildD 8 (.agg [(.int .i64 (0)), (.int .u8 (0)), (.int .i64 (0)), (.int .i64 (0)), (.int .i64 (0)), (.int .i64 (0)), (.int .i64 (0)), (.int .i64 (0))]) 1 [(0, (.t 209))]), none⟩,
 ⟨some 211, (.call (.f 22) [(.c (.int .i64 (2))), (.t 210)]), none⟩,
 ⟨some 208, (.mv (.t 211)), none⟩,
 ⟨some 212, (.ext (.t 208) 0), none⟩,
 ⟨some 213, (.ext (.t 208) 1), none⟩,
 ⟨some 33, (.mv (.t 212)), none⟩,
 ⟨some 34, (.mv (.t 213)), none⟩]
 [] [33, 208, 209, 210, 211, 212, 213])
 (.seq
 (.ops [⟨some 215, (.call (.f 33) [(.c (.int .i64 (0))), (.c (.int .i64 (1))), (.c (.int .i64 (1000000000000)))]), none⟩,
 ⟨some 216, (.buildD 8 (.agg [(.int .i64 (0)), (.int .u8 (0)), (.int .i64 (0)), (.int .i64 (0)), (.int .i64 (0)), (.int .i64 (0)), (.int .i64 (0)), (.int .i64 (0))]) 1 [(0, (.t 215))]), none⟩,
 ⟨some 217, (.call (.f 15) [(.c (.int .i64 (2))), (.t 216)]), none⟩,
 ⟨some 214, (.mv (.t 217)), none⟩,
 ⟨some 218, (.ext (.t 214) 0), none⟩,
 ⟨some 219, (.ext (.t 214) 1), none⟩,
 ⟨some 35, (.allocL (.agg [.nils, .nils])), none⟩,
 ⟨none, (.store 2 (.t 35) (.t 218)), none⟩,
 ⟨some 36, (.mv (.t 219)), none⟩]
 [] [214, 215, 216, 217, 218, 219])
 (.seq
 (.ops [⟨some 220, (.mv (.t 16)), none⟩,
 ⟨some 221, (.bin .eql (.t 220) (.c (.int .i64 (2)))), none⟩,
 ⟨some 222, (.mv (.t 221)), none⟩,
 ⟨some 223, (.mv (.t 18)), some (222, true)⟩,
 ⟨some 224, (.bin .eql (.t 223) (.c (.int .i64 (2)))), some (222, true)⟩,
 ⟨some 225, (.pick (.t 222) (.t 224) (.c (.bool false))), none⟩,
 ⟨some 226, (.mv (.t 225)), none⟩,
 ⟨some 227, (.mv (.t 20)), some (226, true)⟩,
 ⟨some 228, (.bin .eql (.t 227) (.c (.int .i64 (4)))), some (226, true)⟩,
 ⟨some 229, (.pick (.t 226) (.t 228) (.c (.bool false))), none⟩,
 ⟨some 230, (.mv (.t 229)), none⟩,
 ⟨some 231, (.mv (.t 22)), some (230, true)⟩,
 ⟨some 232, (.bin .eql (.t 231) (.c (.int .i64 (8)))), some (230, true)⟩,
 ⟨some 233, (.pick (.t 230) (.t 232) (.c (.bool false))), none⟩,
 ⟨some 234, (.mv (.t 233)), none⟩,
 ⟨some 235, (.mv (.t 24)), some (234, true)⟩,
 ⟨some 236, (.bin .eql (.t 235) (.c (.int .i64 (8)))), some (234, true)⟩,
 ⟨some 237, (.pick (.t 234) (.t 236) (.c (.bool false))), none⟩,
 ⟨some 238, (.mv (.t 237)), none⟩,
 ⟨some 239, (.mv (.t 26)), some (238, true)⟩,
 ⟨some 240, (.bin .eql (.t 239) (.c (.int .i64 (8)))), some (238, true)⟩,
 ⟨some 241, (.pick (.t 238) (.t 240) (.c (.bool false))), none⟩,
 ⟨some 242, (.mv (.t 241)), none⟩,
 ⟨some 243, (.mv (.t 28)), some (242, true)⟩,
 ⟨some 244, (.bin .eql (.t 243) (.c (.int .i64 (8)))), some (242, true)⟩,
 ⟨some 245, (.pick (.t 242) (.t 244) (.c (.bool false))), none⟩,
 ⟨some 246, (.mv (.t 245)), none⟩,
 ⟨some 247, (.mv (.t 30)), some (246, true)⟩,
 ⟨some 248, (.bin .eql (.t 247) (.c (.int .i64 (8)))), some (246, true)⟩,
 ⟨some 249, (.pick (.t 246) (.t 248) (.c (.bool false))), none⟩,
 ⟨some 250, (.mv (.t 249)), none⟩,
 ⟨some 251, (.mv (.t 32)), some (250, true)⟩,
 ⟨some 252, (.bin .eql (.t 251) (.c (.int .i64 (16)))), some (250, true)⟩,
 ⟨some 253, (.pick (.t 250) (.t 252) (.c (.bool false))), none⟩,
 ⟨some 254, (.mv (.t 253)), none⟩,
 ⟨some 255, (.mv (.t 34)), some (254, true)⟩,
 ⟨some 256, (.bin .eql (.t 255) (.c (.int .i64 (16)))), some (254, true)⟩,
 ⟨some 257, (.pick (.t 254) (.t 256) (.c (.bool false))), none⟩,
 ⟨some 258, (.mv (.t 257)), none⟩,
 ⟨some 259, (.mv (.t 36)), some (258, true)⟩,
 ⟨some 260, (.bin .eql (.t 259) (.c (.int .i64 (0)))), some (258, true)⟩,
 ⟨some 261, (.pick (.t 258) (.t 260) (.c (.bool false))), none⟩,
 ⟨some 262, (.mv (.t 261)), none⟩,
 ⟨some 263, (.fad 1 (.t 35)), some (262, true)⟩,
 ⟨some 264, (.load false 1 (.t 263)), some (262, true)⟩,
 ⟨some 265, (.len (.t 264)), some (262, true)⟩,
 ⟨some 266, (.bin .eql (.t 265) (.c (.int .i64 (3)))), some (262, true)⟩,
 ⟨some 267, (.pick (.t 262) (.t 266) (.c (.bool false))), none⟩,
 ⟨some 268, (.mv (.t 267)), none⟩,
 ⟨some 269, (.fad 1 (.t 35)), some (268, true)⟩,
 ⟨some 270, (.load false 1 (.t 269)), some (268, true)⟩,
 ⟨some 271, (.iad 2 (.t 270) (.c (.int .i64 (2)))), some (268, true)⟩,
 ⟨some 272, (.load true 2 (.t 271)), some (268, true)⟩,
 ⟨some 273, (.call (.f 34) [(.c (.int .i64 (1000000000000)))]), some (268, true)⟩,
 ⟨some 274, (.eqA false 2 [(0, (some .i64)), (1, (some .i64))] (.t 272) (.t 273)), some (268, true)⟩,
 ⟨some 275, (.pick (.t 268) (.t 274) (.c (.bool false))), none⟩,
 ⟨some 37, (.mv (.t 275)), none⟩]
 [(49, 53), (50, 53), (51, 53), (52, 53)] [16, 18, 20, 22, 24, 26, 28, 30, 32, 34, 35, 36, 220, 221, 222, 223, 224, 225, 226, 227, 228, 229, 230, 231, 232, 233, 234, 235, 236, 237, 238, 239, 240, 241, 242, 243, 244, 245, 246, 247, 248, 249, 250, 251, 252, 253, 254, 255, 256, 257, 258, 259, 260, 261, 262, 263, 264, 265, 266, 267, 268, 269, 270, 271, 272, 273, 274, 275])
 (.seq
 (.ops [⟨some 276, (.call (.f 34) [(.c (.int .i64 (0)))]), none⟩,
 ⟨some 277, (.call (.f 34) [(.c (.int .i64 (1)))]), none⟩,
 ⟨some 278, (.call (.f 34) [(.c (.int .i64 (2)))]), none⟩,
 ⟨some 279, (.buildD 2 (.agg [(.int .i64 (0)), (.int .i64 (0))]) 3 [(0, (.t 276)), (1, (.t 277)), (2, (.t 278))]), none⟩,
 ⟨some 280, (.call (.f 34) [(.c (.int .i64 (0)))]), none⟩,
 ⟨some 281, (.call (.f 34) [(.c (.int .i64 (0)))]), none⟩,
 ⟨some 282, (.call (.f 34) [(.c (.int .i64 (4)))]), none⟩,
 ⟨some 283, (.buildD 2 (.agg [(.int .i64 (0)), (.int .i64 (0))]) 3 [(0, (.t 280)), (1, (.t 281)), (2, (.t 282))]), none⟩,
 ⟨some 284, (.build [.nils, .nils] [(0, 1, (.t 279)), (1, 1, (.t 283))]), none⟩,
 ⟨some 38, (.allocL (.agg [.nils, .nils])), none⟩,
 ⟨none, (.store 2 (.t 38) (.t 284)), none⟩]
 [] [276, 277, 278, 279, 280, 281, 282, 283, 284])
 (.seq
 (.ops [⟨some 286, (.load true 2 (.t 38)), none⟩,
 ⟨some 287, (.call (.f 33) [(.c (.int .i64 (0))), (.c (.int .i64 (1))), (.c (.int .i64 (0)))]), none⟩,
 ⟨some 288, (.call (.f 32) [(.c (.int .i64 (0))), (.c (.int .i64 (4))), (.c (.int .i64 (2)))]), none⟩,
 ⟨some 289, (.call (.f 32) [(.c (.int .i64 (0))), (.c (.int .i64 (0))), (.c (.int .i64 (1)))]), none⟩,
 ⟨some 290, (.buildD 8 (.agg [(.int .i64 (0)), (.int .u8 (0)), (.int .i64 (0)), (.int .i64 (0)), (.int .i64 (0)), (.int .i64 (0)), (.int .i64 (0)), (.int .i64 (0))]) 3 [(0, (.t 287)), (1, (.t 288)), (2, (.t 289))]), none⟩,
 ⟨some 291, (.call (.f 29) [(.c (.int .i64 (2))), (.t 286), (.t 290)]), none⟩,
 ⟨some 285, (.mv (.t 291)), none⟩,
 ⟨some 292, (.ext (.t 285) 0), none⟩,
 ⟨some 293, (.ext (.t 285) 1), none⟩,
 ⟨some 39, (.mv (.t 292)), none⟩,
 ⟨some 40, (.mv (.t 293)), none⟩]
 [(0, 1), (0, 2), (0, 3), (0, 4), (7, 8), (8, 9)] [285, 286, 287, 288, 289, 290, 291, 292, 293])
 (.seq
 (.ops [⟨some 295, (.load true 2 (.t 38)), none⟩,
 ⟨some 296, (.call (.f 29) [(.c (.int .i64 (3))), (.t 295), (.c .nils)]), none⟩,
 ⟨some 294, (.mv (.t 296)), none⟩,
 ⟨some 297, (.ext (.t 294) 0), none⟩,
 ⟨some 298, (.ext (.t 294) 1), none⟩,
 ⟨some 41, (.mv (.t 297)), none⟩,
 ⟨some 42, (.mv (.t 298)), none⟩]
 [] [41, 294, 295, 296, 297, 298])
 (.seq
 (.ops [⟨some 300, (.load true 2 (.t 38)), none⟩,
 ⟨some 301, (.call (.f 34) [(.c (.int .i64 (0)))]), none⟩,
 ⟨some 302, (.load true 2 (.t 11)), none⟩,
 ⟨some 303, (.build [(.int .i64 (0)), (.int .u8 (0)), (.int .i64 (0)), (.int .i64 (0)), (.int .i64 (0)), (.int .i64 (0)), (.int .i64 (0)), (.int .i64 (0))] [(1, 1, (.c (.int .u8 (1)))), (2, 2, (.t 301)), (4, 2, (.t 302))]), none⟩,
 ⟨some 304, (.buildD 8 (.agg [(.int .i64 (0)), (.int .u8 (0)), (.int .i64 (0)), (.int .i64 (0)), (.int .i64 (0)), (.int .i64 (0)), (.int .i64 (0)), (.int .i64 (0))]) 1 [(0, (.t 303))]), none⟩,
 ⟨some 305, (.call (.f 29) [(.c (.int .i64 (2))), (.t 300), (.t 304)]), none⟩,
 ⟨some 299, (.mv (.t 305)), none⟩,
 ⟨some 306, (.ext (.t 299) 0), none⟩,
 ⟨some 307, (.ext (.t 299) 1), none⟩,
 ⟨some 43, (.mv (.t 306)), none⟩,
 ⟨some 44, (.mv (.t 307)), none⟩]
 [(0, 1), (0, 2), (1, 2), (0, 3), (0, 4), (7, 8), (8, 9)] [11, 43, 299, 300, 301, 302, 303, 304, 305, 306, 307])
 (.seq
 (.ops [⟨some 309, (.load true 2 (.t 38)), none⟩,
 ⟨some 310, (.call (.f 34) [(.c (.int .i64 (0)))]), none⟩,
 ⟨some 311, (.call (.f 34) [(.c (.int .i64 (2)))]), none⟩,
 ⟨some 312, (.call (.f 34) [(.c (.int .i64 (4)))]), none⟩,
 ⟨some 313, (.build [(.int .i64 (0)), (.int .u8 (0)), (.int .i64 (0)), (.int .i64 (0)), (.int .i64 (0)), (.int .i64 (0)), (.int .i64 (0)), (.int .i64 (0))] [(1, 1, (.c (.int .u8 (1)))), (2, 2, (.t 310)), (4, 2, (.t 311)), (6, 2, (.t 312))]), none⟩,
 ⟨some 314, (.call (.f 33) [(.c (.int .i64 (1))), (.c (.int .i64 (2))), (.c (.int .i64 (3)))]), none⟩,
 ⟨some 315, (.buildD 8 (.agg [(.int .i64 (0)), (.int .u8 (0)), (.int .i64 (0)), (.int .i64 (0)), (.int .i64 (0)), (.int .i64 (0)), (.int .i64 (0)), (.int .i64 (0))]) 2 [(0, (.t 313)), (1, (.t 314))]), none⟩,
 ⟨some 316, (.call (.f 29) [(.c (.int .i64 (2))), (.t 309), (.t 315)]), none⟩,
 ⟨some 308, (.mv (.t 316)), none⟩,
 ⟨some 317, (.ext (.t 308) 0), none⟩,
 ⟨some 318, (.ext (.t 308) 1), none⟩,
 ⟨some 45, (.mv (.t 317)), none⟩,
 ⟨some 46, (.mv (.t 318)), none⟩]
 [(0, 1), (0, 2), (0, 3), (0, 4), (0, 5), (4, 5), (0, 6), (9, 10), (10, 11)] [38, 308, 309, 310, 311, 312, 313, 314, 315, 316, 317, 318])
 (.seq
 (.ops [⟨some 319, (.mv (.t 40)), none⟩,
 ⟨some 320, (.bin .eql (.t 319) (.c (.int .i64 (0)))), none⟩,
 ⟨some 321, (.mv (.t 320)), none⟩,
 ⟨some 322, (.mv (.t 39)), some (321, true)⟩,
 ⟨some 323, (.bin .eql (.t 322) (.c (.int .i64 (2)))), some (321, true)⟩,
 ⟨some 324, (.pick (.t 321) (.t 323) (.c (.bool false))), none⟩,
 ⟨some 325, (.mv (.t 324)), none⟩,
 ⟨some 326, (.mv (.t 42)), some (325, true)⟩,
 ⟨some 327, (.bin .eql (.t 326) (.c (.int .i64 (8)))), some (325, true)⟩,
 ⟨some 328, (.pick (.t 325) (.t 327) (.c (.bool false))), none⟩,
 ⟨some 329, (.mv (.t 328)), none⟩,
 ⟨some 330, (.mv (.t 44)), some (329, true)⟩,
 ⟨some 331, (.bin .eql (.t 330) (.c (.int .i64 (8)))), some (329, true)⟩,
 ⟨some 332, (.pick (.t 329) (.t 331) (.c (.bool false))), none⟩,
 ⟨some 333, (.mv (.t 332)), none⟩,
 ⟨some 334, (.mv (.t 46)), some (333, true)⟩,
 ⟨some 335, (.bin .eql (.t 334) (.c (.int .i64 (0)))), some (333, true)⟩,
 ⟨some 336, (.pick (.t 333) (.t 335) (.c (.bool false))), none⟩,
 ⟨some 337, (.mv (.t 336)), none⟩,
 ⟨some 338, (.mv (.t 45)), some (337, true)⟩,
 ⟨some 339, (.bin .eql (.t 338) (.c (.int .i64 (1)))), some (337, true)⟩,
 ⟨some 340, (.pick (.t 337) (.t 339) (.c (.bool false))), none⟩,
 ⟨some 47, (.mv (.t 340)), none⟩]
 [] [39, 40, 42, 44, 45, 46, 319, 320, 321, 322, 323, 324, 325, 326, 327, 328, 329, 330, 331, 332, 333, 334, 335, 336, 337, 338, 339, 340])
 (.seq
 (.ops [⟨some 341, (.mv (.c (.bool true))), none⟩,
 ⟨some 342, (.mv (.t 14)), some (341, true)⟩,
 ⟨some 343, (.pick (.t 341) (.t 342) (.c (.bool false))), none⟩,
 ⟨some 344, (.mv (.t 343)), none⟩,
 ⟨some 345, (.mv (.t 37)), some (344, true)⟩,
 ⟨some 346, (.pick (.t 344) (.t 345) (.c (.bool false))), none⟩,
 ⟨some 347, (.mv (.t 346)), none⟩,
 ⟨some 348, (.mv (.t 47)), some (347, true)⟩,
 ⟨some 349, (.pick (.t 347) (.t 348) (.c (.bool false))), none⟩,
 ⟨some 350, (.mv (.t 349)), none⟩,
 ⟨some 351, (.call (.f 11) []), some (350, true)⟩,
 ⟨some 352, (.pick (.t 350) (.t 351) (.c (.bool false))), none⟩,
 ⟨some 0, (.mv (.t 352)), none⟩]
 [] [14, 37, 47, 341, 342, 343, 344, 345, 346, 347, 348, 349, 350, 351, 352])
 .ret))))))))))))))))))))))))))))⟩
def loc7 : List Nat := [51, 58, 64, 72, 86, 106, 120, 140, 153, 171, 177, 183, 189, 195, 204, 210, 216, 279, 283, 290, 304, 315, 3, 5, 9, 11, 12, 15, 31, 35, 38]
def fg7 : List (Nat × List Nat) := [(27, [14, 37, 47, 341, 342, 343, 344, 345, 346, 347, 348, 349, 350, 351, 352]), (26, [39, 40, 42, 44, 45, 46, 319, 320, 321, 322, 323, 324, 325, 326, 327, 328, 329, 330, 331, 332, 333, 334, 335, 336, 337, 338, 339, 340]), (25, [38, 308, 309, 310, 311, 312, 313, 314, 315, 316, 317, 318]), (24, [11, 43, 299, 300, 301, 302, 303, 304, 305, 306, 307]), (23, [41, 294, 295, 296, 297, 298]), (22, [285, 286, 287, 288, 289, 290, 291, 292, 293]), (21, [276, 277, 278, 279, 280, 281, 282, 283, 284]), (20, [16, 18, 20, 22, 24, 26, 28, 30, 32, 34, 35, 36, 220, 221, 222, 223, 224, 225, 226, 227, 228, 229, 230, 231, 232, 233, 234, 235, 236, 237, 238, 239, 240, 241, 242, 243, 244, 245, 246, 247, 248, 249, 250, 251, 252, 253, 254, 255, 256, 257, 258, 259, 260, 261, 262, 263, 264, 265, 266, 267, 268, 269, 270, 271, 272, 273, 274, 275]), (19, [214, 215, 216, 217, 218, 219]), (18, [33, 208, 209, 210, 211, 212, 213]), (17, [31, 199, 200, 201, 202, 203, 204, 205, 206, 207]), (16, [29, 193, 194, 195, 196, 197, 198]), (15, [27, 187, 188, 189, 190, 191, 192]), (14, [25, 181, 182, 183, 184, 185, 186]), (13, [23, 175, 176, 177, 178, 179, 180]), (12, [21, 169, 170, 171, 172, 173, 174]), (11, [19, 164, 165, 166, 167, 168]), (10, [17, 160, 161, 162, 163]), (9, [15, 156, 157, 158, 159]), (8, [1, 2, 3, 4, 5, 6, 7, 8, 9, 10, 12, 13, 90, 91, 92, 93, 94, 95, 96, 97, 98, 99, 100, 101, 102, 103, 104, 105, 106, 107, 108, 109, 110, 111, 112, 113, 114, 115, 116, 117, 118, 119, 120, 121, 122, 123, 124, 125, 126, 127, 128, 129, 130, 131, 132, 133, 134, 135, 136, 137, 138, 139, 140, 141, 142, 143, 144, 145, 146, 147, 148, 149, 150, 151, 152, 153, 154, 155]), (7, [81, 82, 83, 84, 85, 86, 87, 88, 89]), (6, [80]), (5, [76, 77, 78, 79]), (4, [68, 69, 70, 71, 72, 73, 74, 75]), (3, [62, 63, 64, 65, 66, 67]), (2, [55, 56, 57, 58, 59, 60, 61]), (1, [48, 49, 50, 51, 52, 53, 54]), (0, [0])]
theorem comp7 : compFn Try.prog loc7 (fun i => (fg7.lookup i).getD []) Try.f7 = some lit7 := by kernel_rfl

-- parcener/parcenerlaw05.alive
def lit11 : AFn := ⟨0, [.tmp 0],
 (.seq
 (.ops [⟨some 0, (.mv (.c (.bool false))), none⟩]
 [] [0])
 (.seq
 (.ops [⟨some 10, (.call (.f 33) [(.c (.int .i64 (0))), (.c (.int .i64 (1))), (.c (.int .i64 (1)))]), none⟩,
 ⟨some 11, (.call (.f 32) [(.c (.int .i64 (0))), (.c (.int .i64 (3))), (.c (.int .i64 (2)))]), none⟩,
 ⟨some 12, (.buildD 8 (.agg [(.int .i64 (0)), (.int .u8 (0)), (.int .i64 (0)), (.int .i64 (0)), (.int .i64 (0)), (.int .i64 (0)), (.int .i64 (0)), (.int .i64 (0))]) 2 [(0, (.t 10)), (1, (.t 11))]), none⟩,
 ⟨some 13, (.call (.f 15) [(.c (.int .i64 (2))), (.t 12)]), none⟩,
 ⟨some 9, (.mv (.t 13)), none⟩,
 ⟨some 14, (.ext (.t 9) 0), none⟩,
 ⟨some 15, (.ext (.t 9) 1), none⟩,
 ⟨some 1, (.allocL (.agg [.nils, .nils])), none⟩,
 ⟨none, (.store 2 (.t 1) (.t 14)), none⟩,
 ⟨some 2, (.mv (.t 15)), none⟩]
 [] [9, 10, 11, 12, 13, 14, 15])
 (.seq
 (.ops [⟨some 17, (.call (.f 33) [(.c (.int .i64 (0))), (.c (.int .i64 (1))), (.c (.int .i64 (1)))]), none⟩,
 ⟨some 18, (.call (.f 32) [(.c (.int .i64 (0))), (.c (.int .i64 (1))), (.c (.int .i64 (2)))]), none⟩,
 ⟨some 19, (.buildD 8 (.agg [(.int .i64 (0)), (.int .u8 (0)), (.int .i64 (0)), (.int .i64 (0)), (.int .i64 (0)), (.int .i64 (0)), (.int .i64 (0)), (.int .i64 (0))]) 2 [(0, (.t 17)), (1, (.t 18))]), none⟩,
 ⟨some 20, (.call (.f 15) [(.c (.int .i64 (2))), (.t 19)]), none⟩,
 ⟨some 16, (.mv (.t 20)), none⟩,
 ⟨some 21, (.ext (.t 16) 0), none⟩,
 ⟨some 22, (.ext (.t 16) 1), none⟩,
 ⟨some 3, (.allocL (.agg [.nils, .nils])), none⟩,
 ⟨none, (.store 2 (.t 3) (.t 21)), none⟩,
 ⟨some 4, (.mv (.t 22)), none⟩]
 [] [3, 16, 17, 18, 19, 20, 21, 22])
 (.seq
 (.ops [⟨some 24, (.call (.f 33) [(.c (.int .i64 (0))), (.c (.int .i64 (1))), (.c (.int .i64 (1)))]), none⟩,
 ⟨some 25, (.call (.f 32) [(.c (.int .i64 (0))), (.c (.int .i64 (1))), (.c (.int .i64 (2)))]), none⟩,
 ⟨some 26, (.buildD 8 (.agg [(.int .i64 (0)), (.int .u8 (0)), (.int .i64 (0)), (.int .i64 (0)), (.int .i64 (0)), (.int .i64 (0)), (.int .i64 (0)), (.int .i64 (0))]) 2 [(0, (.t 24)), (1, (.t 25))]), none⟩,
 ⟨some 27, (.call (.f 22) [(.c (.int .i64 (2))), (.t 26)]), none⟩,
 ⟨some 23, (.mv (.t 27)), none⟩,
 ⟨some 28, (.ext (.t 23) 0), none⟩,
 ⟨some 29, (.ext (.t 23) 1), none⟩,
 ⟨some 5, (.mv (.t 28)), none⟩,
 ⟨some 6, (.mv (.t 29)), none⟩]
 [] [23, 24, 25, 26, 27, 28, 29])
 (.seq
 (.ops [⟨some 31, (.call (.f 32) [(.c (.int .i64 (0))), (.c (.int .i64 (1))), (.c (.int .i64 (2)))]), none⟩,
 ⟨some 32, (.buildD 8 (.agg [(.int .i64 (0)), (.int .u8 (0)), (.int .i64 (0)), (.int .i64 (0)), (.int .i64 (0)), (.int .i64 (0)), (.int .i64 (0)), (.int .i64 (0))]) 1 [(0, (.t 31))]), none⟩,
 ⟨some 33, (.call (.f 15) [(.c (.int .i64 (2))), (.t 32)]), none⟩,
 ⟨some 30, (.mv (.t 33)), none⟩,
 ⟨some 34, (.ext (.t 30) 0), none⟩,
 ⟨some 35, (.ext (.t 30) 1), none⟩,
 ⟨some 7, (.allocL (.agg [.nils, .nils])), none⟩,
 ⟨none, (.store 2 (.t 7) (.t 34)), none⟩,
 ⟨some 8, (.mv (.t 35)), none⟩]
 [] [30, 31, 32, 33, 34, 35])
 (.seq
 (.ops [⟨some 36, (.mv (.t 2)), none⟩,
 ⟨some 37, (.bin .eql (.t 36) (.c (.int .i64 (0)))), none⟩,
 ⟨some 38, (.mv (.t 37)), none⟩,
 ⟨some 39, (.load true 2 (.t 1)), some (38, true)⟩,
 ⟨some 40, (.call (.f 34) [(.c (.int .i64 (0)))]), some (38, true)⟩,
 ⟨some 41, (.call (.f 34) [(.c (.int .i64 (1)))]), some (38, true)⟩,
 ⟨some 42, (.call (.f 34) [(.c (.int .i64 (2)))]), some (38, true)⟩,
 ⟨some 43, (.buildD 2 (.agg [(.int .i64 (0)), (.int .i64 (0))]) 3 [(0, (.t 40)), (1, (.t 41)), (2, (.t 42))]), some (38, true)⟩,
 ⟨some 44, (.call (.f 34) [(.c (.int .i64 (0)))]), some (38, true)⟩,
 ⟨some 45, (.call (.f 34) [(.c (.int .i64 (1)))]), some (38, true)⟩,
 ⟨some 46, (.call (.f 34) [(.c (.int .i64 (3)))]), some (38, true)⟩,
 ⟨some 47, (.buildD 2 (.agg [(.int .i64 (0)), (.int .i64 (0))]) 3 [(0, (.t 44)), (1, (.t 45)), (2, (.t 46))]), some (38, true)⟩,
 ⟨some 48, (.build [.nils, .nils] [(0, 1, (.t 43)), (1, 1, (.t 47))]), some (38, true)⟩,
 ⟨some 49, (.call (.f 27) [(.t 39), (.t 48)]), some (38, true)⟩,
 ⟨some 50, (.pick (.t 38) (.t 49) (.c (.bool false))), none⟩,
 ⟨some 51, (.mv (.t 50)), none⟩,
 ⟨some 52, (.mv (.t 4)), some (51, true)⟩,
 ⟨some 53, (.bin .eql (.t 52) (.c (.int .i64 (6)))), some (51, true)⟩,
 ⟨some 54, (.pick (.t 51) (.t 53) (.c (.bool false))), none⟩,
 ⟨some 55, (.mv (.t 54)), none⟩,
 ⟨some 56, (.mv (.t 6)), some (55, true)⟩,
 ⟨some 57, (.bin .eql (.t 56) (.c (.int .i64 (0)))), some (55, true)⟩,
 ⟨some 58, (.pick (.t 55) (.t 57) (.c (.bool false))), none⟩,
 ⟨some 59, (.mv (.t 58)), none⟩,
 ⟨some 60, (.mv (.t 5)), some (59, true)⟩,
 ⟨some 61, (.bin .eql (.t 60) (.c (.int .i64 (1)))), some (59, true)⟩,
 ⟨some 62, (.pick (.t 59) (.t 61) (.c (.bool false))), none⟩,
 ⟨some 63, (.mv (.t 62)), none⟩,
 ⟨some 64, (.mv (.t 8)), some (63, true)⟩,
 ⟨some 65, (.bin .eql (.t 64) (.c (.int .i64 (0)))), some (63, true)⟩,
 ⟨some 66, (.pick (.t 63) (.t 65) (.c (.bool false))), none⟩,
 ⟨some 67, (.mv (.t 66)), none⟩,
 ⟨some 68, (.load true 2 (.t 7)), some (67, true)⟩,
 ⟨some 69, (.call (.f 34) [(.c (.int .i64 (0)))]), some (67, true)⟩,
 ⟨some 70, (.call (.f 34) [(.c (.int .i64 (2)))]), some (67, true)⟩,
 ⟨some 71, (.buildD 2 (.agg [(.int .i64 (0)), (.int .i64 (0))]) 2 [(0, (.t 69)), (1, (.t 70))]), some (67, true)⟩,
 ⟨some 72, (.call (.f 34) [(.c (.int .i64 (0)))]), some (67, true)⟩,
 ⟨some 73, (.call (.f 34) [(.c (.int .i64 (1)))]), some (67, true)⟩,
 ⟨some 74, (.buildD 2 (.agg [(.int .i64 (0)), (.int .i64 (0))]) 2 [(0, (.t 72)), (1, (.t 73))]), some (67, true)⟩,
 ⟨some 75, (.build [.nils, .nils] [(0, 1, (.t 71)), (1, 1, (.t 74))]), some (67, true)⟩,
 ⟨some 76, (.call (.f 27) [(.t 68), (.t 75)]), some (67, true)⟩,
 ⟨some 77, (.pick (.t 67) (.t 76) (.c (.bool false))), none⟩,
 ⟨some 0, (.mv (.t 77)), none⟩]
 [(3, 4), (3, 5), (3, 6), (3, 7), (3, 8), (7, 8), (3, 9), (7, 9), (3, 10), (7, 10), (3, 11), (7, 11), (3, 12), (32, 33), (32, 34), (32, 35), (32, 36), (35, 36), (32, 37), (35, 37), (32, 38), (35, 38), (32, 39)] [1, 2, 4, 5, 6, 7, 8, 36, 37, 38, 39, 40, 41, 42, 43, 44, 45, 46, 47, 48, 49, 50, 51, 52, 53, 54, 55, 56, 57, 58, 59, 60, 61, 62, 63, 64, 65, 66, 67, 68, 69, 70, 71, 72, 73, 74, 75, 76, 77])
 .ret))))))⟩
def loc11 : List Nat := [12, 19, 26, 32, 43, 47, 71, 74, 1, 3, 7]
def fg11 : List (Nat × List Nat) := [(5, [1, 2, 4, 5, 6, 7, 8, 36, 37, 38, 39, 40, 41, 42, 43, 44, 45, 46, 47, 48, 49, 50, 51, 52, 53, 54, 55, 56, 57, 58, 59, 60, 61, 62, 63, 64, 65, 66, 67, 68, 69, 70, 71, 72, 73, 74, 75, 76, 77]), (4, [30, 31, 32, 33, 34, 35]), (3, [23, 24, 25, 26, 27, 28, 29]), (2, [3, 16, 17, 18, 19, 20, 21, 22]), (1, [9, 10, 11, 12, 13, 14, 15]), (0, [0])]
theorem comp11 : compFn Try.prog loc11 (fun i => (fg11.lookup i).getD []) Try.f11 = some lit11 := by kernel_rfl

-- parcener/audit.Points
def lit12 : AFn := ⟨2, [.tmp 4, .tmp 5],
 (.seq
 (.ops [⟨some 4, (.mv (.c .nils)), none⟩,
 ⟨some 5, (.mv (.c (.int .i64 (0)))), none⟩]
 [] [4, 5])
 (.seq
 (.ops [⟨some 9, (.mv (.t 0)), none⟩,
 ⟨some 10, (.mv (.t 1)), none⟩,
 ⟨some 11, (.call (.f 41) [(.t 9), (.t 10)]), none⟩,
 ⟨some 8, (.mv (.t 11)), none⟩,
 ⟨some 12, (.ext (.t 8) 0), none⟩,
 ⟨some 13, (.ext (.t 8) 1), none⟩,
 ⟨some 6, (.mv (.t 12)), none⟩,
 ⟨some 7, (.mv (.t 13)), none⟩]
 [] [1, 8, 9, 10, 11, 12, 13])
 (.seq
 (.seq
 (.ops [⟨some 14, (.mv (.t 7)), none⟩,
 ⟨some 15, (.bin .neq (.t 14) (.c (.int .i64 (0)))), none⟩]
 [] [14])
 (.cond (.t 15)
 (.seq
 (.ops [⟨some 16, (.mv (.t 7)), none⟩,
 ⟨some 4, (.mv (.c .nils)), none⟩,
 ⟨some 5, (.mv (.t 16)), none⟩]
 [] [0, 6, 7, 15, 16])
 .ret)
 .skip))
 (.seq
 (.ops [⟨some 17, (.mv (.t 0)), none⟩,
 ⟨some 18, (.mv (.t 6)), none⟩,
 ⟨some 19, (.call (.f 42) [(.t 17), (.t 18)]), none⟩,
 ⟨some 4, (.mv (.t 19)), none⟩,
 ⟨some 5, (.mv (.c (.int .i64 (0)))), none⟩]
 [] [0, 6, 7, 15, 17, 18, 19])
 .ret))))⟩
def loc12 : List Nat := []
def fg12 : List (Nat × List Nat) := [(4, [0, 6, 7, 15, 17, 18, 19]), (3, [0, 6, 7, 15, 16]), (2, [14]), (1, [1, 8, 9, 10, 11, 12, 13]), (0, [4, 5])]
theorem comp12 : compFn Try.prog loc12 (fun i => (fg12.lookup i).getD []) Try.f12 = some lit12 := by kernel_rfl

-- parcener/audit.Guess
def lit15 : AFn := ⟨2, [.cell 4 true 2, .tmp 5],
 (.seq
 (.ops [⟨some 4, (.allocL (.agg [.nils, .nils])), none⟩,
 ⟨some 5, (.mv (.c (.int .i64 (0)))), none⟩]
 [] [5])
 (.seq
 (.ops [⟨some 16, (.mv (.t 0)), none⟩,
 ⟨some 17, (.mv (.t 1)), none⟩,
 ⟨some 18, (.call (.f 41) [(.t 16), (.t 17)]), none⟩,
 ⟨some 15, (.mv (.t 18)), none⟩,
 ⟨some 19, (.ext (.t 15) 0), none⟩,
 ⟨some 20, (.ext (.t 15) 1), none⟩,
 ⟨some 6, (.mv (.t 19)), none⟩,
 ⟨some 7, (.mv (.t 20)), none⟩]
 [] [1, 15, 16, 17, 18, 19, 20])
 (.seq
 (.seq
 (.ops [⟨some 21, (.mv (.t 7)), none⟩,
 ⟨some 22, (.bin .neq (.t 21) (.c (.int .i64 (0)))), none⟩]
 [] [21])
 (.cond (.t 22)
 (.seq
 (.ops [⟨some 23, (.build [.nils, .nils] []), none⟩,
 ⟨some 24, (.mv (.t 7)), none⟩,
 ⟨none, (.store 2 (.t 4) (.t 23)), none⟩,
 ⟨some 5, (.mv (.t 24)), none⟩]
 [] [0, 6, 7, 22, 23, 24])
 .ret)
 .skip))
 (.seq
 (.ops [⟨some 26, (.mv (.t 6)), none⟩,
 ⟨some 27, (.call (.f 47) [(.t 26)]), none⟩,
 ⟨some 25, (.mv (.t 27)), none⟩,
 ⟨some 28, (.ext (.t 25) 0), none⟩,
 ⟨some 29, (.ext (.t 25) 1), none⟩,
 ⟨some 8, (.mv (.t 28)), none⟩,
 ⟨some 7, (.mv (.t 29)), none⟩]
 [] [22, 25, 26, 27, 28, 29])
 (.seq
 (.seq
 (.ops [⟨some 30, (.mv (.t 7)), none⟩,
 ⟨some 31, (.bin .neq (.t 30) (.c (.int .i64 (0)))), none⟩]
 [] [30])
 (.cond (.t 31)
 (.seq
 (.ops [⟨some 32, (.build [.nils, .nils] []), none⟩,
 ⟨some 33, (.mv (.t 7)), none⟩,
 ⟨none, (.store 2 (.t 4) (.t 32)), none⟩,
 ⟨some 5, (.mv (.t 33)), none⟩]
 [] [0, 6, 7, 8, 31, 32, 33])
 .ret)
 .skip))
 (.seq
 (.ops [⟨some 34, (.mv (.t 0)), none⟩,
 ⟨some 35, (.mv (.t 6)), none⟩,
 ⟨some 36, (.call (.f 42) [(.t 34), (.t 35)]), none⟩,
 ⟨some 37, (.build [.nils, .nils] [(0, 1, (.t 36))]), none⟩,
 ⟨some 9, (.allocL (.agg [.nils, .nils])), none⟩,
 ⟨none, (.store 2 (.t 9) (.t 37)), none⟩]
 [] [0, 7, 31, 34, 35, 36, 37])
 (.seq
 (.ops [⟨some 38, (.fad 0 (.t 9)), none⟩,
 ⟨some 39, (.load false 1 (.t 38)), none⟩,
 ⟨some 40, (.mv (.t 6)), none⟩,
 ⟨some 41, (.mv (.t 8)), none⟩,
 ⟨some 42, (.call (.f 48) [(.t 39), (.t 40), (.t 41)]), none⟩,
 ⟨some 10, (.mv (.t 42)), none⟩]
 [] [6, 38, 39, 40, 41, 42])
 (.seq
 (.seq
 (.ops [⟨some 43, (.mv (.t 10)), none⟩,
 ⟨some 44, (.eqN false (.t 43)), none⟩]
 [] [43])
 (.cond (.t 44)
 (.seq
 (.ops [⟨some 45, (.build [.nils, .nils] []), none⟩,
 ⟨none, (.store 2 (.t 4) (.t 45)), none⟩,
 ⟨some 5, (.mv (.c (.int .i64 (6)))), none⟩]
 [] [8, 9, 10, 44, 45])
 .ret)
 .skip))
 (.seq
 (.seq
 (.ops [⟨some 46, (.mv (.t 10)), none⟩,
 ⟨some 47, (.len (.t 46)), none⟩,
 ⟨some 48, (.mv (.c (.int .i64 (0)))), none⟩]
 [] [44])
 (.block 0
 (.loop
 (.seq
 (.ops [⟨some 49, (.bin .lss (.t 48) (.t 47)), none⟩]
 [] [])
 (.seq
 (.cond (.t 49)
 .skip
 (.exit 0))
 (.seq
 (.block 1
 (.seq
 (.ops [⟨some 50, (.iad 1 (.t 46) (.t 48)), none⟩,
 ⟨some 51, (.load false 1 (.t 50)), none⟩,
 ⟨some 12, (.mv (.t 51)), none⟩]
 [] [49, 50, 51])
 (.seq
 (.ops [⟨some 53, (.mv (.t 12)), none⟩,
 ⟨some 54, (.mv (.t 8)), none⟩,
 ⟨some 55, (.mv (.t 10)), none⟩,
 ⟨some 56, (.len (.t 55)), none⟩,
 ⟨some 57, (.bin .add (.t 56) (.c (.int .i64 (1)))), none⟩,
 ⟨some 58, (.bin .mul (.t 54) (.t 57)), none⟩,
 ⟨some 59, (.call (.f 49) [(.t 53), (.t 58)]), none⟩,
 ⟨some 52, (.mv (.t 59)), none⟩,
 ⟨some 60, (.ext (.t 52) 0), none⟩,
 ⟨some 61, (.ext (.t 52) 1), none⟩,
 ⟨some 13, (.allocL (.agg [(.int .i64 (0)), (.int .i64 (0))])), none⟩,
 ⟨none, (.store 2 (.t 13) (.t 60)), none⟩,
 ⟨some 14, (.mv (.t 61)), none⟩]
 [] [12, 14, 52, 53, 54, 55, 56, 57, 58, 59, 60, 61])
 (.ops [⟨some 62, (.fad 1 (.t 9)), none⟩,
 ⟨some 63, (.load false 1 (.t 62)), none⟩,
 ⟨some 64, (.load true 2 (.t 13)), none⟩,
 ⟨some 65, (.buildD 2 (.agg [(.int .i64 (0)), (.int .i64 (0))]) 1 [(0, (.t 64))]), none⟩,
 ⟨some 66, (.app true 2 16 (.t 63) (.t 65)), none⟩,
 ⟨some 67, (.fad 1 (.t 9)), none⟩,
 ⟨none, (.store 1 (.t 67) (.t 66)), none⟩]
 [] [13, 62, 63, 64, 65, 66, 67]))))
 (.ops [⟨some 68, (.bin .add (.t 48) (.c (.int .i64 (1)))), none⟩,
 ⟨some 48, (.mv (.t 68)), none⟩]
 [] [68])))))))
 (.seq
 (.ops [⟨some 69, (.load true 2 (.t 9)), none⟩,
 ⟨none, (.store 2 (.t 4) (.t 69)), none⟩,
 ⟨some 5, (.mv (.c (.int .i64 (0)))), none⟩]
 [] [8, 9, 10, 46, 47, 48, 49, 69])
 .ret))))))))))⟩
def loc15 : List Nat := [65, 4, 9, 13]
def fg15 : List (Nat × List Nat) := [(17, [8, 9, 10, 46, 47, 48, 49, 69]), (16, [68]), (15, [13, 62, 63, 64, 65, 66, 67]), (14, [12, 14, 52, 53, 54, 55, 56, 57, 58, 59, 60, 61]), (13, [49, 50, 51]), (11, [44]), (10, [8, 9, 10, 44, 45]), (9, [43]), (8, [6, 38, 39, 40, 41, 42]), (7, [0, 7, 31, 34, 35, 36, 37]), (6, [0, 6, 7, 8, 31, 32, 33]), (5, [30]), (4, [22, 25, 26, 27, 28, 29]), (3, [0, 6, 7, 22, 23, 24]), (2, [21]), (1, [1, 15, 16, 17, 18, 19, 20]), (0, [5])]
theorem comp15 : compFn Try.prog loc15 (fun i => (fg15.lookup i).getD []) Try.f15 = some lit15 := by kernel_rfl

-- parcener/audit.First
def lit22 : AFn := ⟨2, [.tmp 4, .tmp 5],
 (.seq
 (.ops [⟨some 4, (.mv (.c (.int .i64 (0)))), none⟩,
 ⟨some 5, (.mv (.c (.int .i64 (0)))), none⟩]
 [] [4, 5])
 (.seq
 (.ops [⟨some 13, (.mv (.t 0)), none⟩,
 ⟨some 14, (.mv (.t 1)), none⟩,
 ⟨some 15, (.call (.f 41) [(.t 13), (.t 14)]), none⟩,
 ⟨some 12, (.mv (.t 15)), none⟩,
 ⟨some 16, (.ext (.t 12) 0), none⟩,
 ⟨some 17, (.ext (.t 12) 1), none⟩,
 ⟨some 6, (.mv (.t 16)), none⟩,
 ⟨some 7, (.mv (.t 17)), none⟩]
 [] [1, 12, 13, 14, 15, 16, 17])
 (.seq
 (.seq
 (.ops [⟨some 18, (.mv (.t 7)), none⟩,
 ⟨some 19, (.bin .neq (.t 18) (.c (.int .i64 (0)))), none⟩]
 [] [18])
 (.cond (.t 19)
 (.seq
 (.ops [⟨some 20, (.mv (.t 7)), none⟩,
 ⟨some 4, (.mv (.c (.int .i64 (0)))), none⟩,
 ⟨some 5, (.mv (.t 20)), none⟩]
 [] [0, 6, 7, 19, 20])
 .ret)
 .skip))
 (.seq
 (.ops [⟨some 22, (.mv (.t 6)), none⟩,
 ⟨some 23, (.call (.f 47) [(.t 22)]), none⟩,
 ⟨some 21, (.mv (.t 23)), none⟩,
 ⟨some 24, (.ext (.t 21) 0), none⟩,
 ⟨some 25, (.ext (.t 21) 1), none⟩,
 ⟨some 8, (.mv (.t 24)), none⟩,
 ⟨some 7, (.mv (.t 25)), none⟩]
 [] [19, 21, 22, 23, 24, 25])
 (.seq
 (.seq
 (.ops [⟨some 26, (.mv (.t 7)), none⟩,
 ⟨some 27, (.bin .neq (.t 26) (.c (.int .i64 (0)))), none⟩]
 [] [26])
 (.cond (.t 27)
 (.seq
 (.ops [⟨some 28, (.mv (.t 7)), none⟩,
 ⟨some 4, (.mv (.c (.int .i64 (0)))), none⟩,
 ⟨some 5, (.mv (.t 28)), none⟩]
 [] [0, 6, 7, 8, 27, 28])
 .ret)
 .skip))
 (.seq
 (.ops [⟨some 29, (.mv (.t 6)), none⟩,
 ⟨some 30, (.len (.t 29)), none⟩,
 ⟨some 31, (.bin .add (.t 30) (.c (.int .i64 (1)))), none⟩,
 ⟨some 9, (.mv (.c (.int .i64 (0)))), none⟩,
 ⟨some 10, (.mv (.t 31)), none⟩]
 [] [7, 27, 29, 30, 31])
 (.seq
 (.block 0
 (.loop
 (.seq
 (.seq
 (.ops [⟨some 32, (.mv (.t 10)), none⟩,
 ⟨some 33, (.mv (.t 9)), none⟩,
 ⟨some 34, (.bin .sub (.t 32) (.t 33)), none⟩,
 ⟨some 35, (.bin .gtr (.t 34) (.c (.int .i64 (1)))), none⟩]
 [] [32, 33, 34])
 (.cond (.t 35)
 .skip
 (.exit 0)))
 (.block 1
 (.seq
 (.ops [⟨some 36, (.mv (.t 9)), none⟩,
 ⟨some 37, (.mv (.t 10)), none⟩,
 ⟨some 38, (.bin .add (.t 36) (.t 37)), none⟩,
 ⟨some 39, (.bin .quo (.t 38) (.c (.int .i64 (2)))), none⟩,
 ⟨some 11, (.mv (.t 39)), none⟩]
 [] [35, 36, 37, 38, 39])
 (.seq
 (.ops [⟨some 40, (.mv (.t 0)), none⟩,
 ⟨some 41, (.mv (.t 6)), none⟩,
 ⟨some 42, (.mv (.t 11)), none⟩,
 ⟨some 43, (.slc 7 (.t 41) none (some (.t 42)) none), none⟩,
 ⟨some 44, (.call (.f 42) [(.t 40), (.t 43)]), none⟩,
 ⟨some 45, (.mv (.t 6)), none⟩,
 ⟨some 46, (.mv (.t 11)), none⟩,
 ⟨some 47, (.slc 7 (.t 45) none (some (.t 46)) none), none⟩,
 ⟨some 48, (.mv (.t 8)), none⟩,
 ⟨some 49, (.call (.f 48) [(.t 44), (.t 47), (.t 48)]), none⟩,
 ⟨some 50, (.eqN false (.t 49)), none⟩]
 [(0, 1), (0, 2), (1, 2), (0, 3), (0, 5), (1, 5), (2, 5), (3, 5), (4, 5), (0, 6), (1, 6), (2, 6), (3, 6), (4, 6), (5, 6), (0, 7), (1, 7), (2, 7), (3, 7), (4, 7), (0, 8), (1, 8), (2, 8), (3, 8), (4, 8), (5, 8), (6, 8), (7, 8)] [40, 41, 42, 43, 44, 45, 46, 47, 48, 49])
 (.cond (.t 50)
 (.ops [⟨some 51, (.mv (.t 11)), none⟩,
 ⟨some 10, (.mv (.t 51)), none⟩]
 [] [11, 50, 51])
 (.ops [⟨some 52, (.mv (.t 11)), none⟩,
 ⟨some 9, (.mv (.t 52)), none⟩]
 [] [11, 50, 52]))))))))
 (.seq
 (.ops [⟨some 53, (.mv (.t 9)), none⟩,
 ⟨some 4, (.mv (.t 53)), none⟩,
 ⟨some 5, (.mv (.c (.int .i64 (0)))), none⟩]
 [] [0, 6, 8, 9, 10, 35, 53])
 .ret))))))))⟩
def loc22 : List Nat := []
def fg22 : List (Nat × List Nat) := [(13, [0, 6, 8, 9, 10, 35, 53]), (12, [11, 50, 52]), (11, [11, 50, 51]), (10, [40, 41, 42, 43, 44, 45, 46, 47, 48, 49]), (9, [35, 36, 37, 38, 39]), (8, [32, 33, 34]), (7, [7, 27, 29, 30, 31]), (6, [0, 6, 7, 8, 27, 28]), (5, [26]), (4, [19, 21, 22, 23, 24, 25]), (3, [0, 6, 7, 19, 20]), (2, [18]), (1, [1, 12, 13, 14, 15, 16, 17]), (0, [4, 5])]
theorem comp22 : compFn Try.prog loc22 (fun i => (fg22.lookup i).getD []) Try.f22 = some lit22 := by kernel_rfl

-- parcener/parcenerref05.SameList
def lit26 : AFn := ⟨2, [.tmp 4],
 (.seq
 (.ops [⟨some 4, (.mv (.c (.bool false))), none⟩]
 [] [4])
 (.seq
 (.seq
 (.ops [⟨some 6, (.mv (.t 0)), none⟩,
 ⟨some 7, (.len (.t 6)), none⟩,
 ⟨some 8, (.mv (.t 1)), none⟩,
 ⟨some 9, (.len (.t 8)), none⟩,
 ⟨some 10, (.bin .neq (.t 7) (.t 9)), none⟩]
 [] [6, 7, 8, 9])
 (.cond (.t 10)
 (.seq
 (.ops [⟨some 4, (.mv (.c (.bool false))), none⟩]
 [] [0, 1, 10])
 .ret)
 .skip))
 (.seq
 (.seq
 (.ops [⟨some 5, (.mv (.c (.int .i64 (0)))), none⟩]
 [] [10])
 (.block 0
 (.loop
 (.seq
 (.seq
 (.ops [⟨some 11, (.mv (.t 5)), none⟩,
 ⟨some 12, (.mv (.t 0)), none⟩,
 ⟨some 13, (.len (.t 12)), none⟩,
 ⟨some 14, (.bin .lss (.t 11) (.t 13)), none⟩]
 [] [11, 12, 13])
 (.cond (.t 14)
 .skip
 (.exit 0)))
 (.seq
 (.block 1
 (.seq
 (.ops [⟨some 17, (.mv (.t 0)), none⟩,
 ⟨some 18, (.mv (.t 5)), none⟩,
 ⟨some 19, (.iad 2 (.t 17) (.t 18)), none⟩,
 ⟨some 20, (.load true 2 (.t 19)), none⟩,
 ⟨some 21, (.mv (.t 1)), none⟩,
 ⟨some 22, (.mv (.t 5)), none⟩,
 ⟨some 23, (.iad 2 (.t 21) (.t 22)), none⟩,
 ⟨some 24, (.load true 2 (.t 23)), none⟩,
 ⟨some 25, (.eqA true 2 [(0, (some .i64)), (1, (some .i64))] (.t 20) (.t 24)), none⟩]
 [(0, 1), (0, 4), (1, 4), (2, 4), (3, 4), (0, 5), (1, 5), (2, 5), (3, 5), (4, 5), (0, 6), (1, 6), (2, 6), (3, 6), (0, 7), (1, 7), (2, 7), (3, 7)] [14, 17, 18, 19, 20, 21, 22, 23, 24])
 (.cond (.t 25)
 (.seq
 (.ops [⟨some 4, (.mv (.c (.bool false))), none⟩]
 [] [0, 1, 5, 25])
 .ret)
 .skip)))
 (.ops [⟨some 15, (.mv (.t 5)), none⟩,
 ⟨some 16, (.bin .add (.t 15) (.c (.int .i64 (1)))), none⟩,
 ⟨some 5, (.mv (.t 16)), none⟩]
 [] [15, 16, 25]))))))
 (.seq
 (.ops [⟨some 4, (.mv (.c (.bool true))), none⟩]
 [] [0, 1, 5, 14])
 .ret))))⟩
def loc26 : List Nat := []
def fg26 : List (Nat × List Nat) := [(8, [0, 1, 5, 14]), (5, [15, 16, 25]), (7, [0, 1, 5, 25]), (6, [14, 17, 18, 19, 20, 21, 22, 23, 24]), (4, [11, 12, 13]), (3, [10]), (2, [0, 1, 10]), (1, [6, 7, 8, 9]), (0, [4])]
theorem comp26 : compFn Try.prog loc26 (fun i => (fg26.lookup i).getD []) Try.f26 = some lit26 := by kernel_rfl

-- parcener/parcenerref05.Same
def lit27 : AFn := ⟨2, [.tmp 4],
 (.seq
 (.ops [⟨some 2, (.boxL (.t 0)), none⟩,
 ⟨some 3, (.boxL (.t 1)), none⟩,
 ⟨some 4, (.mv (.c (.bool false))), none⟩]
 [] [0, 1, 4])
 (.seq
 (.ops [⟨some 5, (.fad 0 (.t 2)), none⟩,
 ⟨some 6, (.load false 1 (.t 5)), none⟩,
 ⟨some 7, (.fad 0 (.t 3)), none⟩,
 ⟨some 8, (.load false 1 (.t 7)), none⟩,
 ⟨some 9, (.call (.f 26) [(.t 6), (.t 8)]), none⟩,
 ⟨some 10, (.mv (.t 9)), none⟩,
 ⟨some 11, (.fad 1 (.t 2)), some (10, true)⟩,
 ⟨some 12, (.load false 1 (.t 11)), some (10, true)⟩,
 ⟨some 13, (.fad 1 (.t 3)), some (10, true)⟩,
 ⟨some 14, (.load false 1 (.t 13)), some (10, true)⟩,
 ⟨some 15, (.call (.f 26) [(.t 12), (.t 14)]), some (10, true)⟩,
 ⟨some 16, (.pick (.t 10) (.t 15) (.c (.bool false))), none⟩,
 ⟨some 4, (.mv (.t 16)), none⟩]
 [] [2, 3, 5, 6, 7, 8, 9, 10, 11, 12, 13, 14, 15, 16])
 .ret))⟩
def loc27 : List Nat := [2, 3]
def fg27 : List (Nat × List Nat) := [(1, [2, 3, 5, 6, 7, 8, 9, 10, 11, 12, 13, 14, 15, 16]), (0, [0, 1, 4])]
theorem comp27 : compFn Try.prog loc27 (fun i => (fg27.lookup i).getD []) Try.f27 = some lit27 := by kernel_rfl

-- parcener/audit.Fits
def lit29 : AFn := ⟨3, [.tmp 6, .tmp 7],
 (.seq
 (.ops [⟨some 4, (.boxL (.t 1)), none⟩,
 ⟨some 6, (.mv (.c (.int .i64 (0)))), none⟩,
 ⟨some 7, (.mv (.c (.int .i64 (0)))), none⟩]
 [] [1, 6, 7])
 (.seq
 (.ops [⟨some 20, (.mv (.t 0)), none⟩,
 ⟨some 21, (.mv (.t 2)), none⟩,
 ⟨some 22, (.call (.f 41) [(.t 20), (.t 21)]), none⟩,
 ⟨some 19, (.mv (.t 22)), none⟩,
 ⟨some 23, (.ext (.t 19) 0), none⟩,
 ⟨some 24, (.ext (.t 19) 1), none⟩,
 ⟨some 8, (.mv (.t 23)), none⟩,
 ⟨some 9, (.mv (.t 24)), none⟩]
 [] [19, 20, 21, 22, 23, 24])
 (.seq
 (.seq
 (.ops [⟨some 25, (.mv (.t 9)), none⟩,
 ⟨some 26, (.bin .neq (.t 25) (.c (.int .i64 (0)))), none⟩]
 [] [25])
 (.cond (.t 26)
 (.seq
 (.ops [⟨some 27, (.mv (.t 9)), none⟩,
 ⟨some 6, (.mv (.c (.int .i64 (0)))), none⟩,
 ⟨some 7, (.mv (.t 27)), none⟩]
 [] [0, 2, 4, 8, 9, 26, 27])
 .ret)
 .skip))
 (.seq
 (.seq
 (.ops [⟨some 28, (.mv (.t 0)), none⟩,
 ⟨some 29, (.load true 2 (.t 4)), none⟩,
 ⟨some 30, (.call (.f 58) [(.t 28), (.t 29)]), none⟩,
 ⟨some 31, (.un .not (.t 30)), none⟩]
 [] [9, 26, 28, 29, 30])
 (.cond (.t 31)
 (.seq
 (.ops [⟨some 6, (.mv (.c (.int .i64 (0)))), none⟩,
 ⟨some 7, (.mv (.c (.int .i64 (8)))), none⟩]
 [] [0, 2, 4, 8, 31])
 .ret)
 .skip))
 (.seq
 (.seq
 (.ops [⟨some 32, (.mv (.t 0)), none⟩,
 ⟨some 33, (.mv (.t 8)), none⟩,
 ⟨some 34, (.call (.f 42) [(.t 32), (.t 33)]), none⟩,
 ⟨some 35, (.len (.t 34)), none⟩,
 ⟨some 36, (.mv (.c (.int .i64 (0)))), none⟩]
 [] [0, 31, 32, 33])
 (.block 0
 (.loop
 (.seq
 (.ops [⟨some 37, (.bin .lss (.t 36) (.t 35)), none⟩]
 [] [])
 (.seq
 (.cond (.t 37)
 .skip
 (.exit 0))
 (.seq
 (.block 1
 (.seq
 (.ops [⟨some 38, (.iad 2 (.t 34) (.t 36)), none⟩,
 ⟨some 39, (.load true 2 (.t 38)), none⟩,
 ⟨some 11, (.allocL (.agg [(.int .i64 (0)), (.int .i64 (0))])), none⟩,
 ⟨none, (.store 2 (.t 11) (.t 39)), none⟩]
 [] [37, 38, 39])
 (.seq
 (.ops [⟨some 40, (.fad 0 (.t 4)), none⟩,
 ⟨some 41, (.load false 1 (.t 40)), none⟩,
 ⟨some 42, (.load true 2 (.t 11)), none⟩,
 ⟨some 43, (.call (.f 59) [(.t 41), (.t 42)]), none⟩,
 ⟨some 44, (.un .not (.t 43)), none⟩]
 [] [11, 40, 41, 42, 43])
 (.cond (.t 44)
 (.seq
 (.ops [⟨some 6, (.mv (.c (.int .i64 (0)))), none⟩,
 ⟨some 7, (.mv (.c (.int .i64 (2)))), none⟩]
 [] [2, 4, 8, 34, 35, 36, 44])
 .ret)
 .skip))))
 (.ops [⟨some 45, (.bin .add (.t 36) (.c (.int .i64 (1)))), none⟩,
 ⟨some 36, (.mv (.t 45)), none⟩]
 [] [44, 45])))))))
 (.seq
 (.seq
 (.ops [⟨some 46, (.mv (.t 8)), none⟩,
 ⟨some 47, (.len (.t 46)), none⟩,
 ⟨some 48, (.mv (.c (.int .i64 (0)))), none⟩]
 [] [8, 34, 35, 36, 37])
 (.block 2
 (.loop
 (.seq
 (.ops [⟨some 49, (.bin .lss (.t 48) (.t 47)), none⟩]
 [] [])
 (.seq
 (.cond (.t 49)
 .skip
 (.exit 2))
 (.seq
 (.block 3
 (.seq
 (.ops [⟨some 50, (.mv (.t 48)), none⟩,
 ⟨some 51, (.iad 7 (.t 46) (.t 48)), none⟩,
 ⟨some 52, (.load true 7 (.t 51)), none⟩,
 ⟨some 13, (.allocL (.agg [(.int .i64 (0)), (.int .i64 (0)), (.int .i64 (0)), (.int .i64 (0)), (.int .i64 (0)), (.int .i64 (0)), (.bool false)])), none⟩,
 ⟨some 12, (.mv (.t 50)), none⟩,
 ⟨none, (.store 7 (.t 13) (.t 52)), none⟩]
 [] [49, 50, 51, 52])
 (.seq
 (.ops [⟨some 53, (.fad 0 (.t 4)), none⟩,
 ⟨some 54, (.load false 1 (.t 53)), none⟩,
 ⟨some 55, (.fad 0 (.t 13)), none⟩,
 ⟨some 56, (.load true 2 (.t 55)), none⟩,
 ⟨some 57, (.call (.f 60) [(.t 54), (.t 56)]), none⟩,
 ⟨some 58, (.fad 0 (.t 4)), none⟩,
 ⟨some 59, (.load false 1 (.t 58)), none⟩,
 ⟨some 60, (.fad 2 (.t 13)), none⟩,
 ⟨some 61, (.load true 2 (.t 60)), none⟩,
 ⟨some 62, (.call (.f 60) [(.t 59), (.t 61)]), none⟩,
 ⟨some 14, (.mv (.t 57)), none⟩,
 ⟨some 15, (.mv (.t 62)), none⟩]
 [(0, 2), (1, 2), (0, 3), (1, 3), (0, 5), (1, 5), (2, 5), (3, 5), (4, 5), (0, 6), (1, 6), (2, 6), (3, 6), (4, 6), (0, 7), (1, 7), (2, 7), (3, 7), (4, 7), (5, 7), (6, 7), (0, 8), (1, 8), (2, 8), (3, 8), (4, 8), (5, 8), (6, 8)] [53, 54, 55, 56, 57, 58, 59, 60, 61, 62])
 (.seq
 (.ops [⟨some 64, (.fad 1 (.t 4)), none⟩,
 ⟨some 65, (.load false 1 (.t 64)), none⟩,
 ⟨some 66, (.mv (.t 14)), none⟩,
 ⟨some 67, (.iad 2 (.t 65) (.t 66)), none⟩,
 ⟨some 68, (.load true 2 (.t 67)), none⟩,
 ⟨some 69, (.fad 4 (.t 13)), none⟩,
 ⟨some 70, (.load true 2 (.t 69)), none⟩,
 ⟨some 71, (.call (.f 61) [(.t 68), (.t 70)]), none⟩,
 ⟨some 63, (.mv (.t 71)), none⟩,
 ⟨some 72, (.ext (.t 63) 0), none⟩,
 ⟨some 73, (.ext (.t 63) 1), none⟩,
 ⟨some 16, (.allocL (.agg [(.int .i64 (0)), (.int .i64 (0))])), none⟩,
 ⟨none, (.store 2 (.t 16) (.t 72)), none⟩,
 ⟨some 17, (.mv (.t 73)), none⟩]
 [(0, 2), (1, 2), (0, 5), (1, 5), (2, 5), (3, 5), (4, 5), (0, 6), (1, 6), (2, 6), (3, 6), (4, 6), (9, 10), (0, 11), (1, 11), (2, 11), (3, 11), (4, 11), (5, 11), (6, 11), (7, 11), (8, 11), (9, 11), (10, 11), (10, 12)] [63, 64, 65, 66, 67, 68, 69, 70, 71, 72, 73])
 (.seq
 (.seq
 (.ops [⟨some 74, (.mv (.t 17)), none⟩,
 ⟨some 75, (.bin .neq (.t 74) (.c (.int .i64 (0)))), none⟩]
 [] [74])
 (.cond (.t 75)
 (.seq
 (.ops [⟨some 76, (.mv (.t 17)), none⟩,
 ⟨some 6, (.mv (.c (.int .i64 (0)))), none⟩,
 ⟨some 7, (.mv (.t 76)), none⟩]
 [] [2, 4, 12, 13, 14, 15, 16, 17, 46, 47, 48, 75, 76])
 .ret)
 .skip))
 (.seq
 (.ops [⟨some 77, (.load true 2 (.t 16)), none⟩,
 ⟨some 78, (.fad 1 (.t 4)), none⟩,
 ⟨some 79, (.load false 1 (.t 78)), none⟩,
 ⟨some 80, (.mv (.t 15)), none⟩,
 ⟨some 81, (.iad 2 (.t 79) (.t 80)), none⟩,
 ⟨some 82, (.load true 2 (.t 81)), none⟩,
 ⟨some 83, (.eqA false 2 [(0, (some .i64)), (1, (some .i64))] (.t 77) (.t 82)), none⟩,
 ⟨some 18, (.mv (.t 83)), none⟩]
 [(0, 1), (0, 2), (0, 3), (1, 3), (2, 3), (0, 4), (0, 5)] [16, 17, 75, 77, 78, 79, 80, 81, 82, 83])
 (.seq
 (.seq
 (.ops [⟨some 84, (.mv (.t 18)), none⟩,
 ⟨some 85, (.mv (.t 84)), none⟩,
 ⟨some 86, (.fad 6 (.t 13)), some (85, true)⟩,
 ⟨some 87, (.load false 1 (.t 86)), some (85, true)⟩,
 ⟨some 88, (.pick (.t 85) (.t 87) (.c (.bool false))), none⟩]
 [] [84, 85, 86, 87])
 (.cond (.t 88)
 (.ops [⟨some 89, (.fad 4 (.t 13)), none⟩,
 ⟨some 90, (.fad 0 (.t 89)), none⟩,
 ⟨some 91, (.load false 1 (.t 90)), none⟩,
 ⟨some 92, (.bin .eql (.t 91) (.c (.int .i64 (0)))), none⟩,
 ⟨some 93, (.mv (.t 92)), none⟩,
 ⟨some 94, (.mv (.t 14)), some (93, true)⟩,
 ⟨some 95, (.mv (.t 15)), some (93, true)⟩,
 ⟨some 96, (.bin .eql (.t 94) (.t 95)), some (93, true)⟩,
 ⟨some 97, (.pick (.t 93) (.t 96) (.c (.bool false))), none⟩,
 ⟨some 98, (.mv (.t 97)), none⟩,
 ⟨some 99, (.fad 4 (.t 13)), some (98, false)⟩,
 ⟨some 100, (.fad 0 (.t 99)), some (98, false)⟩,
 ⟨some 101, (.load false 1 (.t 100)), some (98, false)⟩,
 ⟨some 102, (.bin .gtr (.t 101) (.c (.int .i64 (0)))), some (98, false)⟩,
 ⟨some 103, (.mv (.t 102)), some (98, false)⟩,
 ⟨some 104, (.fad 1 (.t 4)), some (103, true)⟩,
 ⟨some 105, (.load false 1 (.t 104)), some (103, true)⟩,
 ⟨some 106, (.mv (.t 15)), some (103, true)⟩,
 ⟨some 107, (.bin .sub (.t 106) (.c (.int .i64 (1)))), some (103, true)⟩,
 ⟨some 108, (.iad 2 (.t 105) (.t 107)), some (103, true)⟩,
 ⟨some 109, (.load true 2 (.t 108)), some (103, true)⟩,
 ⟨some 110, (.fad 1 (.t 4)), some (103, true)⟩,
 ⟨some 111, (.load false 1 (.t 110)), some (103, true)⟩,
 ⟨some 112, (.mv (.t 15)), some (103, true)⟩,
 ⟨some 113, (.iad 2 (.t 111) (.t 112)), some (103, true)⟩,
 ⟨some 114, (.load true 2 (.t 113)), some (103, true)⟩,
 ⟨some 115, (.eqA true 2 [(0, (some .i64)), (1, (some .i64))] (.t 109) (.t 114)), some (103, true)⟩,
 ⟨some 116, (.pick (.t 103) (.t 115) (.c (.bool false))), some (98, false)⟩,
 ⟨some 117, (.pick (.t 98) (.c (.bool true)) (.t 116)), none⟩,
 ⟨some 18, (.mv (.t 117)), none⟩]
 [(5, 6), (15, 17), (16, 17), (15, 18), (16, 18), (15, 21), (16, 21), (17, 21), (18, 21), (19, 21), (20, 21), (15, 22), (16, 22), (17, 22), (18, 22), (19, 22), (20, 22), (15, 23), (16, 23), (17, 23), (18, 23), (19, 23), (20, 23), (21, 23), (22, 23), (15, 24), (16, 24), (17, 24), (18, 24), (19, 24), (20, 24), (15, 25), (16, 25), (17, 25), (18, 25), (19, 25), (20, 25)] [13, 14, 15, 88, 89, 90, 91, 92, 93, 94, 95, 96, 97, 98, 99, 100, 101, 102, 103, 104, 105, 106, 107, 108, 109, 110, 111, 112, 113, 114, 115, 116, 117])
 .skip))
 (.seq
 (.ops [⟨some 118, (.mv (.t 18)), none⟩,
 ⟨some 119, (.un .not (.t 118)), none⟩]
 [] [13, 14, 15, 18, 88, 118])
 (.cond (.t 119)
 (.seq
 (.ops [⟨some 120, (.mv (.t 12)), none⟩,
 ⟨some 6, (.mv (.t 120)), none⟩,
 ⟨some 7, (.mv (.c (.int .i64 (0)))), none⟩]
 [] [2, 4, 12, 46, 47, 48, 119, 120])
 .ret)
 .skip)))))))))
 (.ops [⟨some 121, (.bin .add (.t 48) (.c (.int .i64 (1)))), none⟩,
 ⟨some 48, (.mv (.t 121)), none⟩]
 [] [12, 119, 121])))))))
 (.seq
 (.ops [⟨some 122, (.mv (.t 2)), none⟩,
 ⟨some 123, (.len (.t 122)), none⟩,
 ⟨some 6, (.mv (.t 123)), none⟩,
 ⟨some 7, (.mv (.c (.int .i64 (0)))), none⟩]
 [] [2, 4, 46, 47, 48, 49, 122, 123])
 .ret)))))))⟩
def loc29 : List Nat := [4, 11, 13, 16]
def fg29 : List (Nat × List Nat) := [(25, [2, 4, 46, 47, 48, 49, 122, 123]), (24, [12, 119, 121]), (23, [2, 4, 12, 46, 47, 48, 119, 120]), (22, [13, 14, 15, 18, 88, 118]), (21, [13, 14, 15, 88, 89, 90, 91, 92, 93, 94, 95, 96, 97, 98, 99, 100, 101, 102, 103, 104, 105, 106, 107, 108, 109, 110, 111, 112, 113, 114, 115, 116, 117]), (20, [84, 85, 86, 87]), (19, [16, 17, 75, 77, 78, 79, 80, 81, 82, 83]), (18, [2, 4, 12, 13, 14, 15, 16, 17, 46, 47, 48, 75, 76]), (17, [74]), (16, [63, 64, 65, 66, 67, 68, 69, 70, 71, 72, 73]), (15, [53, 54, 55, 56, 57, 58, 59, 60, 61, 62]), (14, [49, 50, 51, 52]), (12, [8, 34, 35, 36, 37]), (11, [44, 45]), (10, [2, 4, 8, 34, 35, 36, 44]), (9, [11, 40, 41, 42, 43]), (8, [37, 38, 39]), (6, [0, 31, 32, 33]), (5, [0, 2, 4, 8, 31]), (4, [9, 26, 28, 29, 30]), (3, [0, 2, 4, 8, 9, 26, 27]), (2, [25]), (1, [19, 20, 21, 22, 23, 24]), (0, [1, 6, 7])]
theorem comp29 : compFn Try.prog loc29 (fun i => (fg29.lookup i).getD []) Try.f29 = some lit29 := by kernel_rfl

-- parcener/parcenerlaw05.mark
def lit32 : AFn := ⟨3, [.cell 6 true 8],
 (.seq
 (.ops [⟨some 6, (.allocL (.agg [(.int .i64 (0)), (.int .u8 (0)), (.int .i64 (0)), (.int .i64 (0)), (.int .i64 (0)), (.int .i64 (0)), (.int .i64 (0)), (.int .i64 (0))])), none⟩]
 [] [])
 (.seq
 (.ops [⟨some 7, (.mv (.t 0)), none⟩,
 ⟨some 8, (.call (.f 34) [(.t 7)]), none⟩,
 ⟨some 9, (.mv (.t 1)), none⟩,
 ⟨some 10, (.call (.f 34) [(.t 9)]), none⟩,
 ⟨some 11, (.mv (.t 2)), none⟩,
 ⟨some 12, (.call (.f 34) [(.t 11)]), none⟩,
 ⟨some 13, (.build [(.int .i64 (0)), (.int .u8 (0)), (.int .i64 (0)), (.int .i64 (0)), (.int .i64 (0)), (.int .i64 (0)), (.int .i64 (0)), (.int .i64 (0))] [(1, 1, (.c (.int .u8 (2)))), (2, 2, (.t 8)), (4, 2, (.t 10)), (6, 2, (.t 12))]), none⟩,
 ⟨none, (.store 8 (.t 6) (.t 13)), none⟩]
 [] [0, 1, 2, 7, 8, 9, 10, 11, 12, 13])
 .ret))⟩
def loc32 : List Nat := [6]
def fg32 : List (Nat × List Nat) := [(1, [0, 1, 2, 7, 8, 9, 10, 11, 12, 13])]
theorem comp32 : compFn Try.prog loc32 (fun i => (fg32.lookup i).getD []) Try.f32 = some lit32 := by kernel_rfl

-- parcener/parcenerlaw05.value
def lit33 : AFn := ⟨3, [.cell 6 true 8],
 (.seq
 (.ops [⟨some 6, (.allocL (.agg [(.int .i64 (0)), (.int .u8 (0)), (.int .i64 (0)), (.int .i64 (0)), (.int .i64 (0)), (.int .i64 (0)), (.int .i64 (0)), (.int .i64 (0))])), none⟩]
 [] [])
 (.seq
 (.ops [⟨some 7, (.mv (.t 0)), none⟩,
 ⟨some 8, (.call (.f 34) [(.t 7)]), none⟩,
 ⟨some 9, (.mv (.t 1)), none⟩,
 ⟨some 10, (.call (.f 34) [(.t 9)]), none⟩,
 ⟨some 11, (.mv (.t 2)), none⟩,
 ⟨some 12, (.call (.f 34) [(.t 11)]), none⟩,
 ⟨some 13, (.build [(.int .i64 (0)), (.int .u8 (0)), (.int .i64 (0)), (.int .i64 (0)), (.int .i64 (0)), (.int .i64 (0)), (.int .i64 (0)), (.int .i64 (0))] [(1, 1, (.c (.int .u8 (1)))), (2, 2, (.t 8)), (4, 2, (.t 10)), (6, 2, (.t 12))]), none⟩,
 ⟨none, (.store 8 (.t 6) (.t 13)), none⟩]
 [] [0, 1, 2, 7, 8, 9, 10, 11, 12, 13])
 .ret))⟩
def loc33 : List Nat := [6]
def fg33 : List (Nat × List Nat) := [(1, [0, 1, 2, 7, 8, 9, 10, 11, 12, 13])]
theorem comp33 : compFn Try.prog loc33 (fun i => (fg33.lookup i).getD []) Try.f33 = some lit33 := by kernel_rfl

-- parcener/parcenerlaw05.of
def lit34 : AFn := ⟨1, [.cell 2 true 2],
 (.seq
 (.ops [⟨some 2, (.allocL (.agg [(.int .i64 (0)), (.int .i64 (0))])), none⟩]
 [] [])
 (.seq
 (.ops [⟨some 3, (.mv (.t 0)), none⟩,
 ⟨some 4, (.build [(.int .i64 (0)), (.int .i64 (0))] [(0, 1, (.t 3)), (1, 1, (.c (.int .i64 (1))))]), none⟩,
 ⟨none, (.store 2 (.t 2) (.t 4)), none⟩]
 [] [0, 3, 4])
 .ret))⟩
def loc34 : List Nat := [2]
def fg34 : List (Nat × List Nat) := [(1, [0, 3, 4])]
theorem comp34 : compFn Try.prog loc34 (fun i => (fg34.lookup i).getD []) Try.f34 = some lit34 := by kernel_rfl

-- parcener/audit.claims
def lit41 : AFn := ⟨2, [.tmp 4, .tmp 5],
 (.seq
 (.ops [⟨some 4, (.mv (.c .nils)), none⟩,
 ⟨some 5, (.mv (.c (.int .i64 (0)))), none⟩]
 [] [4, 5])
 (.seq
 (.seq
 (.ops [⟨some 11, (.mv (.t 0)), none⟩,
 ⟨some 12, (.bin .lss (.t 11) (.c (.int .i64 (1)))), none⟩,
 ⟨some 13, (.mv (.t 12)), none⟩,
 ⟨some 14, (.mv (.t 0)), some (13, false)⟩,
 ⟨some 15, (.bin .gtr (.t 14) (.c (.int .i64 (1000)))), some (13, false)⟩,
 ⟨some 16, (.pick (.t 13) (.c (.bool true)) (.t 15)), none⟩]
 [] [11, 12, 13, 14, 15])
 (.cond (.t 16)
 (.seq
 (.ops [⟨some 4, (.mv (.c .nils)), none⟩,
 ⟨some 5, (.mv (.c (.int .i64 (2)))), none⟩]
 [] [0, 1, 16])
 .ret)
 .skip))
 (.seq
 (.seq
 (.ops [⟨some 17, (.mv (.t 1)), none⟩,
 ⟨some 18, (.len (.t 17)), none⟩,
 ⟨some 19, (.bin .gtr (.t 18) (.c (.int .i64 (40)))), none⟩]
 [] [16, 17, 18])
 (.cond (.t 19)
 (.seq
 (.ops [⟨some 4, (.mv (.c .nils)), none⟩,
 ⟨some 5, (.mv (.c (.int .i64 (4)))), none⟩]
 [] [0, 1, 19])
 .ret)
 .skip))
 (.seq
 (.ops [⟨some 6, (.mv (.c .nils)), none⟩]
 [] [19])
 (.seq
 (.seq
 (.ops [⟨some 20, (.mv (.t 1)), none⟩,
 ⟨some 21, (.len (.t 20)), none⟩,
 ⟨some 22, (.mv (.c (.int .i64 (0)))), none⟩]
 [] [1])
 (.block 0
 (.loop
 (.seq
 (.ops [⟨some 23, (.bin .lss (.t 22) (.t 21)), none⟩]
 [] [])
 (.seq
 (.cond (.t 23)
 .skip
 (.exit 0))
 (.seq
 (.block 1
 (.seq
 (.ops [⟨some 24, (.iad 8 (.t 20) (.t 22)), none⟩,
 ⟨some 25, (.load true 8 (.t 24)), none⟩,
 ⟨some 8, (.allocL (.agg [(.int .i64 (0)), (.int .u8 (0)), (.int .i64 (0)), (.int .i64 (0)), (.int .i64 (0)), (.int .i64 (0)), (.int .i64 (0)), (.int .i64 (0))])), none⟩,
 ⟨none, (.store 8 (.t 8) (.t 25)), none⟩]
 [] [23, 24, 25])
 (.seq
 (.ops [⟨some 27, (.mv (.t 0)), none⟩,
 ⟨some 28, (.load true 8 (.t 8)), none⟩,
 ⟨some 29, (.call (.f 76) [(.t 27), (.t 28)]), none⟩,
 ⟨some 26, (.mv (.t 29)), none⟩,
 ⟨some 30, (.ext (.t 26) 0), none⟩,
 ⟨some 31, (.ext (.t 26) 1), none⟩,
 ⟨some 9, (.allocL (.agg [(.int .i64 (0)), (.int .i64 (0)), (.int .i64 (0)), (.int .i64 (0)), (.int .i64 (0)), (.int .i64 (0)), (.bool false)])), none⟩,
 ⟨none, (.store 7 (.t 9) (.t 30)), none⟩,
 ⟨some 10, (.mv (.t 31)), none⟩]
 [] [8, 26, 27, 28, 29, 30, 31])
 (.seq
 (.seq
 (.ops [⟨some 32, (.mv (.t 10)), none⟩,
 ⟨some 33, (.un .not (.t 32)), none⟩]
 [] [10, 32])
 (.cond (.t 33)
 (.seq
 (.ops [⟨some 4, (.mv (.c .nils)), none⟩,
 ⟨some 5, (.mv (.c (.int .i64 (8)))), none⟩]
 [] [0, 6, 9, 20, 21, 22, 33])
 .ret)
 .skip))
 (.ops [⟨some 34, (.mv (.t 6)), none⟩,
 ⟨some 35, (.load true 7 (.t 9)), none⟩,
 ⟨some 36, (.buildD 7 (.agg [(.int .i64 (0)), (.int .i64 (0)), (.int .i64 (0)), (.int .i64 (0)), (.int .i64 (0)), (.int .i64 (0)), (.bool false)]) 1 [(0, (.t 35))]), none⟩,
 ⟨some 37, (.app true 7 56 (.t 34) (.t 36)), none⟩,
 ⟨some 6, (.mv (.t 37)), none⟩]
 [] [9, 33, 34, 35, 36, 37])))))
 (.ops [⟨some 38, (.bin .add (.t 22) (.c (.int .i64 (1)))), none⟩,
 ⟨some 22, (.mv (.t 38)), none⟩]
 [] [38])))))))
 (.seq
 (.ops [⟨some 39, (.mv (.t 6)), none⟩,
 ⟨some 4, (.mv (.t 39)), none⟩,
 ⟨some 5, (.mv (.c (.int .i64 (0)))), none⟩]
 [] [0, 6, 20, 21, 22, 23, 39])
 .ret))))))⟩
def loc41 : List Nat := [36, 8, 9]
def fg41 : List (Nat × List Nat) := [(14, [0, 6, 20, 21, 22, 23, 39]), (13, [38]), (12, [9, 33, 34, 35, 36, 37]), (11, [0, 6, 9, 20, 21, 22, 33]), (10, [10, 32]), (9, [8, 26, 27, 28, 29, 30, 31]), (8, [23, 24, 25]), (6, [1]), (5, [19]), (4, [0, 1, 19]), (3, [16, 17, 18]), (2, [0, 1, 16]), (1, [11, 12, 13, 14, 15]), (0, [4, 5])]
theorem comp41 : compFn Try.prog loc41 (fun i => (fg41.lookup i).getD []) Try.f41 = some lit41 := by kernel_rfl

-- parcener/audit.pointsOf
def lit42 : AFn := ⟨2, [.tmp 4],
 (.seq
 (.ops [⟨some 4, (.mv (.c .nils)), none⟩]
 [] [4])
 (.seq
 (.ops [⟨some 8, (.call (.f 77) [(.c (.int .i64 (0)))]), none⟩,
 ⟨some 9, (.mv (.t 0)), none⟩,
 ⟨some 10, (.call (.f 77) [(.t 9)]), none⟩,
 ⟨some 11, (.buildSl true 2 (.agg [(.int .i64 (0)), (.int .i64 (0))]) 2 [(0, (.t 8)), (1, (.t 10))]), none⟩,
 ⟨some 5, (.mv (.t 11)), none⟩]
 [] [0, 8, 9, 10, 11])
 (.seq
 (.seq
 (.ops [⟨some 12, (.mv (.t 1)), none⟩,
 ⟨some 13, (.len (.t 12)), none⟩,
 ⟨some 14, (.mv (.c (.int .i64 (0)))), none⟩]
 [] [1])
 (.block 0
 (.loop
 (.seq
 (.ops [⟨some 15, (.bin .lss (.t 14) (.t 13)), none⟩]
 [] [])
 (.seq
 (.cond (.t 15)
 .skip
 (.exit 0))
 (.seq
 (.block 1
 (.seq
 (.ops [⟨some 16, (.iad 7 (.t 12) (.t 14)), none⟩,
 ⟨some 17, (.load true 7 (.t 16)), none⟩,
 ⟨some 7, (.allocL (.agg [(.int .i64 (0)), (.int .i64 (0)), (.int .i64 (0)), (.int .i64 (0)), (.int .i64 (0)), (.int .i64 (0)), (.bool false)])), none⟩,
 ⟨none, (.store 7 (.t 7) (.t 17)), none⟩]
 [] [15, 16, 17])
 (.ops [⟨some 18, (.mv (.t 5)), none⟩,
 ⟨some 19, (.fad 0 (.t 7)), none⟩,
 ⟨some 20, (.load true 2 (.t 19)), none⟩,
 ⟨some 21, (.fad 2 (.t 7)), none⟩,
 ⟨some 22, (.load true 2 (.t 21)), none⟩,
 ⟨some 23, (.buildD 2 (.agg [(.int .i64 (0)), (.int .i64 (0))]) 2 [(0, (.t 20)), (1, (.t 22))]), none⟩,
 ⟨some 24, (.app true 2 16 (.t 18) (.t 23)), none⟩,
 ⟨some 5, (.mv (.t 24)), none⟩]
 [] [7, 18, 19, 20, 21, 22, 23, 24])))
 (.ops [⟨some 25, (.bin .add (.t 14) (.c (.int .i64 (1)))), none⟩,
 ⟨some 14, (.mv (.t 25)), none⟩]
 [] [25])))))))
 (.seq
 (.ops [⟨some 26, (.mv (.t 5)), none⟩,
 ⟨some 27, (.call (.f 78) [(.t 26), (.f 79)]), none⟩]
 [] [12, 13, 14, 15, 26, 27])
 (.seq
 (.ops [⟨some 28, (.mv (.t 5)), none⟩,
 ⟨some 29, (.call (.f 80) [(.t 28)]), none⟩,
 ⟨some 4, (.mv (.t 29)), none⟩]
 [] [5, 28, 29])
 .ret)))))⟩
def loc42 : List Nat := [23, 7]
def fg42 : List (Nat × List Nat) := [(8, [5, 28, 29]), (7, [12, 13, 14, 15, 26, 27]), (6, [25]), (5, [7, 18, 19, 20, 21, 22, 23, 24]), (4, [15, 16, 17]), (2, [1]), (1, [0, 8, 9, 10, 11]), (0, [4])]
theorem comp42 : compFn Try.prog loc42 (fun i => (fg42.lookup i).getD []) Try.f42 = some lit42 := by kernel_rfl

-- parcener/audit.scale
def lit47 : AFn := ⟨1, [.tmp 2, .tmp 3],
 (.seq
 (.ops [⟨some 2, (.mv (.c (.int .i64 (0)))), none⟩,
 ⟨some 3, (.mv (.c (.int .i64 (0)))), none⟩]
 [] [2, 3])
 (.seq
 (.ops [⟨some 4, (.mv (.c (.int .i64 (1)))), none⟩]
 [] [])
 (.seq
 (.seq
 (.ops [⟨some 12, (.mv (.t 0)), none⟩,
 ⟨some 13, (.len (.t 12)), none⟩,
 ⟨some 14, (.mv (.c (.int .i64 (0)))), none⟩]
 [] [])
 (.block 0
 (.loop
 (.seq
 (.ops [⟨some 15, (.bin .lss (.t 14) (.t 13)), none⟩]
 [] [])
 (.seq
 (.cond (.t 15)
 .skip
 (.exit 0))
 (.seq
 (.block 1
 (.seq
 (.ops [⟨some 16, (.iad 7 (.t 12) (.t 14)), none⟩,
 ⟨some 17, (.load true 7 (.t 16)), none⟩,
 ⟨some 6, (.allocL (.agg [(.int .i64 (0)), (.int .i64 (0)), (.int .i64 (0)), (.int .i64 (0)), (.int .i64 (0)), (.int .i64 (0)), (.bool false)])), none⟩,
 ⟨none, (.store 7 (.t 6) (.t 17)), none⟩]
 [] [15, 16, 17])
 (.seq
 (.ops [⟨some 18, (.mv (.t 4)), none⟩,
 ⟨some 19, (.fad 4 (.t 6)), none⟩,
 ⟨some 20, (.fad 1 (.t 19)), none⟩,
 ⟨some 21, (.load false 1 (.t 20)), none⟩,
 ⟨some 7, (.mv (.t 18)), none⟩,
 ⟨some 8, (.mv (.t 21)), none⟩]
 [(0, 1), (0, 2), (0, 3), (1, 4), (2, 4), (3, 4)] [18, 19, 20, 21])
 (.seq
 (.block 2
 (.loop
 (.seq
 (.seq
 (.ops [⟨some 22, (.mv (.t 8)), none⟩,
 ⟨some 23, (.bin .gtr (.t 22) (.c (.int .i64 (0)))), none⟩]
 [] [22])
 (.cond (.t 23)
 .skip
 (.exit 2)))
 (.block 3
 (.ops [⟨some 24, (.mv (.t 8)), none⟩,
 ⟨some 25, (.mv (.t 7)), none⟩,
 ⟨some 26, (.mv (.t 8)), none⟩,
 ⟨some 27, (.bin .rem (.t 25) (.t 26)), none⟩,
 ⟨some 7, (.mv (.t 24)), none⟩,
 ⟨some 8, (.mv (.t 27)), none⟩]
 [(0, 1), (0, 2), (1, 2), (0, 3), (2, 4), (3, 4)] [23, 24, 25, 26, 27])))))
 (.seq
 (.ops [⟨some 28, (.fad 4 (.t 6)), none⟩,
 ⟨some 29, (.fad 1 (.t 28)), none⟩,
 ⟨some 30, (.load false 1 (.t 29)), none⟩,
 ⟨some 31, (.mv (.t 7)), none⟩,
 ⟨some 32, (.bin .quo (.t 30) (.t 31)), none⟩,
 ⟨some 9, (.mv (.t 32)), none⟩]
 [] [6, 7, 8, 23, 28, 29, 30, 31, 32])
 (.seq
 (.seq
 (.ops [⟨some 33, (.mv (.t 9)), none⟩,
 ⟨some 34, (.mv (.t 4)), none⟩,
 ⟨some 35, (.bin .quo (.c (.int .i64 (1000000000))) (.t 34)), none⟩,
 ⟨some 36, (.bin .gtr (.t 33) (.t 35)), none⟩]
 [] [33, 34, 35])
 (.cond (.t 36)
 (.seq
 (.ops [⟨some 2, (.mv (.c (.int .i64 (0)))), none⟩,
 ⟨some 3, (.mv (.c (.int .i64 (16)))), none⟩]
 [] [0, 4, 9, 12, 13, 14, 36])
 .ret)
 .skip))
 (.ops [⟨some 37, (.mv (.t 4)), none⟩,
 ⟨some 38, (.mv (.t 9)), none⟩,
 ⟨some 39, (.bin .mul (.t 37) (.t 38)), none⟩,
 ⟨some 4, (.mv (.t 39)), none⟩]
 [] [9, 36, 37, 38, 39])))))))
 (.ops [⟨some 40, (.bin .add (.t 14) (.c (.int .i64 (1)))), none⟩,
 ⟨some 14, (.mv (.t 40)), none⟩]
 [] [40])))))))
 (.seq
 (.seq
 (.ops [⟨some 41, (.mv (.t 0)), none⟩,
 ⟨some 42, (.len (.t 41)), none⟩,
 ⟨some 43, (.mv (.c (.int .i64 (0)))), none⟩]
 [] [0, 12, 13, 14, 15])
 (.block 4
 (.loop
 (.seq
 (.ops [⟨some 44, (.bin .lss (.t 43) (.t 42)), none⟩]
 [] [])
 (.seq
 (.cond (.t 44)
 .skip
 (.exit 4))
 (.seq
 (.block 5
 (.seq
 (.ops [⟨some 45, (.iad 7 (.t 41) (.t 43)), none⟩,
 ⟨some 46, (.load true 7 (.t 45)), none⟩,
 ⟨some 11, (.allocL (.agg [(.int .i64 (0)), (.int .i64 (0)), (.int .i64 (0)), (.int .i64 (0)), (.int .i64 (0)), (.int .i64 (0)), (.bool false)])), none⟩,
 ⟨none, (.store 7 (.t 11) (.t 46)), none⟩]
 [] [44, 45, 46])
 (.seq
 (.ops [⟨some 47, (.fad 4 (.t 11)), none⟩,
 ⟨some 48, (.fad 0 (.t 47)), none⟩,
 ⟨some 49, (.load false 1 (.t 48)), none⟩,
 ⟨some 50, (.mv (.t 4)), none⟩,
 ⟨some 51, (.fad 4 (.t 11)), none⟩,
 ⟨some 52, (.fad 1 (.t 51)), none⟩,
 ⟨some 53, (.load false 1 (.t 52)), none⟩,
 ⟨some 54, (.bin .quo (.t 50) (.t 53)), none⟩,
 ⟨some 55, (.bin .quo (.c (.int .i64 (1000000000000))) (.t 54)), none⟩,
 ⟨some 56, (.bin .gtr (.t 49) (.t 55)), none⟩]
 [(0, 3), (1, 3), (2, 3), (0, 4), (1, 4), (2, 4), (3, 4), (0, 5), (1, 5), (2, 5), (3, 5), (0, 6), (1, 6), (2, 6), (3, 6), (0, 7), (1, 7), (2, 7), (0, 8), (1, 8), (2, 8)] [11, 47, 48, 49, 50, 51, 52, 53, 54, 55])
 (.cond (.t 56)
 (.seq
 (.ops [⟨some 2, (.mv (.c (.int .i64 (0)))), none⟩,
 ⟨some 3, (.mv (.c (.int .i64 (16)))), none⟩]
 [] [4, 41, 42, 43, 56])
 .ret)
 .skip))))
 (.ops [⟨some 57, (.bin .add (.t 43) (.c (.int .i64 (1)))), none⟩,
 ⟨some 43, (.mv (.t 57)), none⟩]
 [] [56, 57])))))))
 (.seq
 (.ops [⟨some 58, (.mv (.t 4)), none⟩,
 ⟨some 2, (.mv (.t 58)), none⟩,
 ⟨some 3, (.mv (.c (.int .i64 (0)))), none⟩]
 [] [4, 41, 42, 43, 44, 58])
 .ret)))))⟩
def loc47 : List Nat := [6, 11]
def fg47 : List (Nat × List Nat) := [(19, [4, 41, 42, 43, 44, 58]), (18, [56, 57]), (17, [4, 41, 42, 43, 56]), (16, [11, 47, 48, 49, 50, 51, 52, 53, 54, 55]), (15, [44, 45, 46]), (13, [0, 12, 13, 14, 15]), (12, [40]), (11, [9, 36, 37, 38, 39]), (10, [0, 4, 9, 12, 13, 14, 36]), (9, [33, 34, 35]), (8, [6, 7, 8, 23, 28, 29, 30, 31, 32]), (7, [23, 24, 25, 26, 27]), (6, [22]), (5, [18, 19, 20, 21]), (4, [15, 16, 17]), (0, [2, 3])]
theorem comp47 : compFn Try.prog loc47 (fun i => (fg47.lookup i).getD []) Try.f47 = some lit47 := by kernel_rfl

-- parcener/audit.heights
def lit48 : AFn := ⟨3, [.tmp 6],
 (.seq
 (.ops [⟨some 3, (.boxH true 1 (.t 0)), none⟩,
 ⟨some 6, (.mv (.c .nils)), none⟩]
 [] [0, 6])
 (.seq
 (.ops [⟨some 20, (.mkFn (.func 81) [] [(.t 3)]), none⟩,
 ⟨some 7, (.mv (.t 20)), none⟩]
 [] [20])
 (.seq
 (.ops [⟨some 21, (.load false 1 (.t 3)), none⟩,
 ⟨some 22, (.len (.t 21)), none⟩,
 ⟨some 23, (.bin .add (.t 22) (.c (.int .i64 (1)))), none⟩,
 ⟨some 8, (.mv (.t 23)), none⟩]
 [] [21, 22, 23])
 (.seq
 (.ops [⟨some 24, (.load false 1 (.t 3)), none⟩,
 ⟨some 25, (.len (.t 24)), none⟩,
 ⟨some 26, (.mkSl true 1 8 (.int .i64 (0)) (.t 25) (.t 25)), none⟩,
 ⟨some 9, (.mv (.t 26)), none⟩]
 [] [24, 25, 26])
 (.seq
 (.seq
 (.ops [⟨some 27, (.mv (.t 1)), none⟩,
 ⟨some 28, (.len (.t 27)), none⟩,
 ⟨some 29, (.mv (.c (.int .i64 (0)))), none⟩]
 [] [])
 (.block 0
 (.loop
 (.seq
 (.ops [⟨some 30, (.bin .lss (.t 29) (.t 28)), none⟩]
 [] [])
 (.seq
 (.cond (.t 30)
 .skip
 (.exit 0))
 (.seq
 (.block 1
 (.seq
 (.ops [⟨some 31, (.iad 7 (.t 27) (.t 29)), none⟩,
 ⟨some 32, (.load true 7 (.t 31)), none⟩,
 ⟨some 11, (.allocL (.agg [(.int .i64 (0)), (.int .i64 (0)), (.int .i64 (0)), (.int .i64 (0)), (.int .i64 (0)), (.int .i64 (0)), (.bool false)])), none⟩,
 ⟨none, (.store 7 (.t 11) (.t 32)), none⟩]
 [] [30, 31, 32])
 (.seq
 (.seq
 (.ops [⟨some 33, (.fad 6 (.t 11)), none⟩,
 ⟨some 34, (.load false 1 (.t 33)), none⟩,
 ⟨some 35, (.un .not (.t 34)), none⟩]
 [] [33, 34])
 (.cond (.t 35)
 (.exit 1)
 .skip))
 (.block 2
 (.seq
 (.ops [⟨some 37, (.fad 4 (.t 11)), none⟩,
 ⟨some 38, (.fad 0 (.t 37)), none⟩,
 ⟨some 39, (.load false 1 (.t 38)), none⟩,
 ⟨some 40, (.bin .gtr (.t 39) (.c (.int .i64 (0)))), none⟩,
 ⟨some 36, (.mv (.t 40)), none⟩]
 [] [35, 37, 38, 39, 40])
 (.cond (.t 36)
 (.ops [⟨some 41, (.mv (.t 9)), none⟩,
 ⟨some 42, (.mv (.t 7)), none⟩,
 ⟨some 43, (.fad 2 (.t 11)), none⟩,
 ⟨some 44, (.load true 2 (.t 43)), none⟩,
 ⟨some 45, (.call (.t 42) [(.t 44)]), none⟩,
 ⟨some 46, (.iad 1 (.t 41) (.t 45)), none⟩,
 ⟨none, (.store 1 (.t 46) (.c (.int .i64 (1)))), none⟩]
 [] [11, 36, 41, 42, 43, 44, 45, 46])
 (.seq
 (.ops [⟨some 48, (.fad 0 (.t 11)), none⟩,
 ⟨some 49, (.load true 2 (.t 48)), none⟩,
 ⟨some 50, (.fad 2 (.t 11)), none⟩,
 ⟨some 51, (.load true 2 (.t 50)), none⟩,
 ⟨some 52, (.eqA true 2 [(0, (some .i64)), (1, (some .i64))] (.t 49) (.t 51)), none⟩,
 ⟨some 47, (.mv (.t 52)), none⟩]
 [] [11, 36, 48, 49, 50, 51, 52])
 (.cond (.t 47)
 (.seq
 (.ops [⟨some 6, (.mv (.c .nils)), none⟩]
 [] [1, 2, 3, 7, 8, 9, 27, 28, 29, 47])
 .ret)
 .skip))))))))
 (.ops [⟨some 53, (.bin .add (.t 29) (.c (.int .i64 (1)))), none⟩,
 ⟨some 29, (.mv (.t 53)), none⟩]
 [] [11, 35, 47, 53])))))))
 (.seq
 (.ops [⟨some 54, (.load false 1 (.t 3)), none⟩,
 ⟨some 55, (.len (.t 54)), none⟩,
 ⟨some 56, (.mkSl true 1 8 (.int .i64 (0)) (.t 55) (.t 55)), none⟩,
 ⟨some 12, (.mv (.t 56)), none⟩]
 [] [27, 28, 29, 30, 54, 55, 56])
 (.seq
 (.seq
 (.ops [⟨some 57, (.load false 1 (.t 3)), none⟩,
 ⟨some 58, (.len (.t 57)), none⟩,
 ⟨some 59, (.bin .add (.t 58) (.c (.int .i64 (1)))), none⟩,
 ⟨some 60, (.mv (.c (.int .i64 (0)))), none⟩]
 [] [3, 57, 58])
 (.block 3
 (.loop
 (.seq
 (.ops [⟨some 61, (.bin .lss (.t 60) (.t 59)), none⟩]
 [] [])
 (.seq
 (.cond (.t 61)
 .skip
 (.exit 3))
 (.seq
 (.block 4
 (.seq
 (.ops [⟨some 62, (.mv (.t 12)), none⟩,
 ⟨some 63, (.call (.f 83) [(.t 62)]), none⟩,
 ⟨some 13, (.mv (.t 63)), none⟩]
 [] [61, 62, 63])
 (.seq
 (.seq
 (.ops [⟨some 14, (.mv (.c (.int .i64 (1)))), none⟩]
 [] [])
 (.block 5
 (.loop
 (.seq
 (.seq
 (.ops [⟨some 64, (.mv (.t 14)), none⟩,
 ⟨some 65, (.mv (.t 12)), none⟩,
 ⟨some 66, (.len (.t 65)), none⟩,
 ⟨some 67, (.bin .lss (.t 64) (.t 66)), none⟩]
 [] [64, 65, 66])
 (.cond (.t 67)
 .skip
 (.exit 5)))
 (.seq
 (.block 6
 (.ops [⟨some 70, (.mv (.t 12)), none⟩,
 ⟨some 71, (.mv (.t 14)), none⟩,
 ⟨some 72, (.mv (.t 12)), none⟩,
 ⟨some 73, (.mv (.t 14)), none⟩,
 ⟨some 74, (.iad 1 (.t 72) (.t 73)), none⟩,
 ⟨some 75, (.load false 1 (.t 74)), none⟩,
 ⟨some 76, (.mv (.t 12)), none⟩,
 ⟨some 77, (.mv (.t 14)), none⟩,
 ⟨some 78, (.bin .sub (.t 77) (.c (.int .i64 (1)))), none⟩,
 ⟨some 79, (.iad 1 (.t 76) (.t 78)), none⟩,
 ⟨some 80, (.load false 1 (.t 79)), none⟩,
 ⟨some 81, (.mv (.t 9)), none⟩,
 ⟨some 82, (.mv (.t 14)), none⟩,
 ⟨some 83, (.iad 1 (.t 81) (.t 82)), none⟩,
 ⟨some 84, (.load false 1 (.t 83)), none⟩,
 ⟨some 85, (.bin .add (.t 80) (.t 84)), none⟩,
 ⟨some 86, (.minmax true [(.t 75), (.t 85)]), none⟩,
 ⟨some 87, (.iad 1 (.t 70) (.t 71)), none⟩,
 ⟨none, (.store 1 (.t 87) (.t 86)), none⟩]
 [(0, 1), (0, 2), (1, 2), (0, 3), (1, 3), (2, 3), (0, 4), (1, 4), (0, 5), (1, 5), (0, 6), (1, 6), (2, 6), (3, 6), (4, 6), (5, 6), (0, 7), (1, 7), (2, 7), (3, 7), (4, 7), (5, 7), (6, 7), (0, 8), (1, 8), (2, 8), (3, 8), (4, 8), (5, 8), (6, 8), (0, 9), (1, 9), (2, 9), (3, 9), (4, 9), (5, 9), (0, 10), (1, 10), (2, 10), (3, 10), (4, 10), (5, 10), (0, 11), (1, 11), (2, 11), (3, 11), (4, 11), (5, 11), (6, 11), (7, 11), (8, 11), (9, 11), (10, 11), (0, 12), (1, 12), (2, 12), (3, 12), (4, 12), (5, 12), (6, 12), (7, 12), (8, 12), (9, 12), (10, 12), (11, 12), (0, 13), (1, 13), (2, 13), (3, 13), (4, 13), (5, 13), (6, 13), (7, 13), (8, 13), (9, 13), (10, 13), (0, 14), (1, 14), (2, 14), (3, 14), (4, 14), (5, 14), (6, 14), (7, 14), (8, 14), (9, 14), (10, 14), (0, 15), (1, 15), (2, 15), (3, 15), (4, 15), (5, 15), (0, 16), (1, 16)] [67, 70, 71, 72, 73, 74, 75, 76, 77, 78, 79, 80, 81, 82, 83, 84, 85, 86, 87]))
 (.ops [⟨some 68, (.mv (.t 14)), none⟩,
 ⟨some 69, (.bin .add (.t 68) (.c (.int .i64 (1)))), none⟩,
 ⟨some 14, (.mv (.t 69)), none⟩]
 [] [68, 69]))))))
 (.seq
 (.seq
 (.ops [⟨some 88, (.mv (.t 1)), none⟩,
 ⟨some 89, (.len (.t 88)), none⟩,
 ⟨some 90, (.mv (.c (.int .i64 (0)))), none⟩]
 [] [14, 67])
 (.block 7
 (.loop
 (.seq
 (.ops [⟨some 91, (.bin .lss (.t 90) (.t 89)), none⟩]
 [] [])
 (.seq
 (.cond (.t 91)
 .skip
 (.exit 7))
 (.seq
 (.block 8
 (.seq
 (.ops [⟨some 92, (.iad 7 (.t 88) (.t 90)), none⟩,
 ⟨some 93, (.load true 7 (.t 92)), none⟩,
 ⟨some 16, (.allocL (.agg [(.int .i64 (0)), (.int .i64 (0)), (.int .i64 (0)), (.int .i64 (0)), (.int .i64 (0)), (.int .i64 (0)), (.bool false)])), none⟩,
 ⟨none, (.store 7 (.t 16) (.t 93)), none⟩]
 [] [91, 92, 93])
 (.seq
 (.ops [⟨some 94, (.mv (.t 7)), none⟩,
 ⟨some 95, (.fad 0 (.t 16)), none⟩,
 ⟨some 96, (.load true 2 (.t 95)), none⟩,
 ⟨some 97, (.call (.t 94) [(.t 96)]), none⟩,
 ⟨some 98, (.mv (.t 7)), none⟩,
 ⟨some 99, (.fad 2 (.t 16)), none⟩,
 ⟨some 100, (.load true 2 (.t 99)), none⟩,
 ⟨some 101, (.call (.t 98) [(.t 100)]), none⟩,
 ⟨some 17, (.mv (.t 97)), none⟩,
 ⟨some 18, (.mv (.t 101)), none⟩]
 [(0, 1), (0, 2), (0, 4), (1, 4), (2, 4), (3, 4), (0, 5), (1, 5), (2, 5), (3, 5), (4, 5), (0, 6), (1, 6), (2, 6), (3, 6), (4, 6)] [94, 95, 96, 97, 98, 99, 100, 101])
 (.seq
 (.ops [⟨some 102, (.fad 4 (.t 16)), none⟩,
 ⟨some 103, (.fad 0 (.t 102)), none⟩,
 ⟨some 104, (.load false 1 (.t 103)), none⟩,
 ⟨some 105, (.mv (.t 2)), none⟩,
 ⟨some 106, (.fad 4 (.t 16)), none⟩,
 ⟨some 107, (.fad 1 (.t 106)), none⟩,
 ⟨some 108, (.load false 1 (.t 107)), none⟩,
 ⟨some 109, (.bin .quo (.t 105) (.t 108)), none⟩,
 ⟨some 110, (.bin .mul (.t 104) (.t 109)), none⟩,
 ⟨some 111, (.mv (.t 8)), none⟩,
 ⟨some 112, (.bin .mul (.t 110) (.t 111)), none⟩,
 ⟨some 19, (.mv (.t 112)), none⟩]
 [(0, 3), (1, 3), (2, 3), (0, 4), (1, 4), (2, 4), (3, 4), (0, 5), (1, 5), (2, 5), (3, 5), (0, 6), (1, 6), (2, 6), (3, 6), (0, 7), (1, 7), (2, 7), (0, 9), (1, 9), (2, 9), (3, 9), (4, 9), (5, 9), (6, 9), (7, 9), (8, 9)] [16, 102, 103, 104, 105, 106, 107, 108, 109, 110, 111, 112])
 (.seq
 (.ops [⟨some 113, (.mv (.t 12)), none⟩,
 ⟨some 114, (.mv (.t 18)), none⟩,
 ⟨some 115, (.mv (.t 12)), none⟩,
 ⟨some 116, (.mv (.t 18)), none⟩,
 ⟨some 117, (.iad 1 (.t 115) (.t 116)), none⟩,
 ⟨some 118, (.load false 1 (.t 117)), none⟩,
 ⟨some 119, (.mv (.t 12)), none⟩,
 ⟨some 120, (.mv (.t 17)), none⟩,
 ⟨some 121, (.iad 1 (.t 119) (.t 120)), none⟩,
 ⟨some 122, (.load false 1 (.t 121)), none⟩,
 ⟨some 123, (.mv (.t 19)), none⟩,
 ⟨some 124, (.bin .add (.t 122) (.t 123)), none⟩,
 ⟨some 125, (.minmax true [(.t 118), (.t 124)]), none⟩,
 ⟨some 126, (.iad 1 (.t 113) (.t 114)), none⟩,
 ⟨none, (.store 1 (.t 126) (.t 125)), none⟩]
 [(0, 1), (0, 2), (1, 2), (0, 3), (1, 3), (2, 3), (0, 4), (1, 4), (0, 5), (1, 5), (0, 6), (1, 6), (2, 6), (3, 6), (4, 6), (5, 6), (0, 7), (1, 7), (2, 7), (3, 7), (4, 7), (5, 7), (6, 7), (0, 8), (1, 8), (2, 8), (3, 8), (4, 8), (5, 8), (0, 9), (1, 9), (2, 9), (3, 9), (4, 9), (5, 9), (0, 10), (1, 10), (2, 10), (3, 10), (4, 10), (5, 10), (6, 10), (7, 10), (8, 10), (9, 10), (0, 11), (1, 11), (2, 11), (3, 11), (4, 11), (5, 11), (0, 12), (1, 12)] [113, 114, 115, 116, 117, 118, 119, 120, 121, 122, 123, 124, 125, 126])
 (.ops [⟨some 127, (.mv (.t 12)), none⟩,
 ⟨some 128, (.mv (.t 17)), none⟩,
 ⟨some 129, (.mv (.t 12)), none⟩,
 ⟨some 130, (.mv (.t 17)), none⟩,
 ⟨some 131, (.iad 1 (.t 129) (.t 130)), none⟩,
 ⟨some 132, (.load false 1 (.t 131)), none⟩,
 ⟨some 133, (.mv (.t 12)), none⟩,
 ⟨some 134, (.mv (.t 18)), none⟩,
 ⟨some 135, (.iad 1 (.t 133) (.t 134)), none⟩,
 ⟨some 136, (.load false 1 (.t 135)), none⟩,
 ⟨some 137, (.mv (.t 19)), none⟩,
 ⟨some 138, (.bin .sub (.t 136) (.t 137)), none⟩,
 ⟨some 139, (.minmax true [(.t 132), (.t 138)]), none⟩,
 ⟨some 140, (.iad 1 (.t 127) (.t 128)), none⟩,
 ⟨none, (.store 1 (.t 140) (.t 139)), none⟩]
 [(0, 1), (0, 2), (1, 2), (0, 3), (1, 3), (2, 3), (0, 4), (1, 4), (0, 5), (1, 5), (0, 6), (1, 6), (2, 6), (3, 6), (4, 6), (5, 6), (0, 7), (1, 7), (2, 7), (3, 7), (4, 7), (5, 7), (6, 7), (0, 8), (1, 8), (2, 8), (3, 8), (4, 8), (5, 8), (0, 9), (1, 9), (2, 9), (3, 9), (4, 9), (5, 9), (0, 10), (1, 10), (2, 10), (3, 10), (4, 10), (5, 10), (6, 10), (7, 10), (8, 10), (9, 10), (0, 11), (1, 11), (2, 11), (3, 11), (4, 11), (5, 11), (0, 12), (1, 12)] [17, 18, 19, 127, 128, 129, 130, 131, 132, 133, 134, 135, 136, 137, 138, 139, 140]))))))
 (.ops [⟨some 141, (.bin .add (.t 90) (.c (.int .i64 (1)))), none⟩,
 ⟨some 90, (.mv (.t 141)), none⟩]
 [] [141])))))))
 (.seq
 (.seq
 (.ops [⟨some 142, (.mv (.t 12)), none⟩,
 ⟨some 143, (.iad 1 (.t 142) (.c (.int .i64 (0)))), none⟩,
 ⟨some 144, (.load false 1 (.t 143)), none⟩,
 ⟨some 145, (.bin .gtr (.t 144) (.c (.int .i64 (0)))), none⟩]
 [] [88, 89, 90, 91, 142, 143, 144])
 (.cond (.t 145)
 (.seq
 (.ops [⟨some 6, (.mv (.c .nils)), none⟩]
 [] [1, 2, 7, 8, 9, 12, 13, 59, 60, 145])
 .ret)
 .skip))
 (.seq
 (.ops [⟨some 146, (.mv (.t 12)), none⟩,
 ⟨some 147, (.mv (.t 13)), none⟩,
 ⟨some 148, (.call (.f 84) [(.t 146), (.t 147)]), none⟩]
 [] [13, 145, 146, 147])
 (.cond (.t 148)
 (.seq
 (.seq
 (.ops [⟨some 149, (.mv (.t 9)), none⟩,
 ⟨some 150, (.iad 1 (.t 149) (.c (.int .i64 (0)))), none⟩,
 ⟨some 151, (.load false 1 (.t 150)), none⟩,
 ⟨some 152, (.bin .gtr (.t 151) (.c (.int .i64 (0)))), none⟩]
 [] [1, 2, 7, 8, 9, 59, 60, 148, 149, 150, 151])
 (.cond (.t 152)
 (.seq
 (.ops [⟨some 6, (.mv (.c .nils)), none⟩]
 [] [12, 152])
 .ret)
 .skip))
 (.seq
 (.ops [⟨some 153, (.mv (.t 12)), none⟩,
 ⟨some 6, (.mv (.t 153)), none⟩]
 [] [12, 152, 153])
 .ret))
 .skip)))))))
 (.ops [⟨some 154, (.bin .add (.t 60) (.c (.int .i64 (1)))), none⟩,
 ⟨some 60, (.mv (.t 154)), none⟩]
 [] [148, 154])))))))
 (.seq
 (.ops [⟨some 6, (.mv (.c .nils)), none⟩]
 [] [1, 2, 7, 8, 9, 12, 59, 60, 61])
 .ret))))))))⟩
def loc48 : List Nat := [11, 16]
def fg48 : List (Nat × List Nat) := [(36, [1, 2, 7, 8, 9, 12, 59, 60, 61]), (35, [148, 154]), (34, [12, 152, 153]), (33, [12, 152]), (32, [1, 2, 7, 8, 9, 59, 60, 148, 149, 150, 151]), (31, [13, 145, 146, 147]), (30, [1, 2, 7, 8, 9, 12, 13, 59, 60, 145]), (29, [88, 89, 90, 91, 142, 143, 144]), (28, [141]), (27, [17, 18, 19, 127, 128, 129, 130, 131, 132, 133, 134, 135, 136, 137, 138, 139, 140]), (26, [113, 114, 115, 116, 117, 118, 119, 120, 121, 122, 123, 124, 125, 126]), (25, [16, 102, 103, 104, 105, 106, 107, 108, 109, 110, 111, 112]), (24, [94, 95, 96, 97, 98, 99, 100, 101]), (23, [91, 92, 93]), (21, [14, 67]), (19, [68, 69]), (20, [67, 70, 71, 72, 73, 74, 75, 76, 77, 78, 79, 80, 81, 82, 83, 84, 85, 86, 87]), (18, [64, 65, 66]), (16, [61, 62, 63]), (14, [3, 57, 58]), (13, [27, 28, 29, 30, 54, 55, 56]), (12, [11, 35, 47, 53]), (11, [1, 2, 3, 7, 8, 9, 27, 28, 29, 47]), (10, [11, 36, 48, 49, 50, 51, 52]), (9, [11, 36, 41, 42, 43, 44, 45, 46]), (8, [35, 37, 38, 39, 40]), (7, [33, 34]), (6, [30, 31, 32]), (3, [24, 25, 26]), (2, [21, 22, 23]), (1, [20]), (0, [0, 6])]
theorem comp48 : compFn Try.prog loc48 (fun i => (fg48.lookup i).getD []) Try.f48 = some lit48 := by kernel_rfl

-- parcener/ratio.Make
def lit49 : AFn := ⟨2, [.cell 4 true 2, .tmp 5],
 (.seq
 (.ops [⟨some 4, (.allocL (.agg [(.int .i64 (0)), (.int .i64 (0))])), none⟩,
 ⟨some 5, (.mv (.c (.int .i64 (0)))), none⟩]
 [] [5])
 (.seq
 (.seq
 (.ops [⟨some 9, (.mv (.t 1)), none⟩,
 ⟨some 10, (.bin .eql (.t 9) (.c (.int .i64 (0)))), none⟩]
 [] [9])
 (.cond (.t 10)
 (.seq
 (.ops [⟨some 11, (.build [(.int .i64 (0)), (.int .i64 (0))] []), none⟩,
 ⟨none, (.store 2 (.t 4) (.t 11)), none⟩,
 ⟨some 5, (.mv (.c (.int .i64 (18)))), none⟩]
 [] [0, 1, 10, 11])
 .ret)
 .skip))
 (.seq
 (.ops [⟨some 12, (.mv (.t 0)), none⟩,
 ⟨some 13, (.call (.f 85) [(.t 12)]), none⟩,
 ⟨some 14, (.mv (.t 1)), none⟩,
 ⟨some 15, (.call (.f 85) [(.t 14)]), none⟩,
 ⟨some 6, (.mv (.t 13)), none⟩,
 ⟨some 7, (.mv (.t 15)), none⟩]
 [] [10, 12, 13, 14, 15])
 (.seq
 (.ops [⟨some 16, (.mv (.t 6)), none⟩,
 ⟨some 17, (.mv (.t 7)), none⟩,
 ⟨some 18, (.call (.f 86) [(.t 16), (.t 17)]), none⟩,
 ⟨some 8, (.mv (.t 18)), none⟩]
 [] [16, 17, 18])
 (.seq
 (.ops [⟨some 19, (.mv (.t 0)), none⟩,
 ⟨some 20, (.bin .lss (.t 19) (.c (.int .i64 (0)))), none⟩,
 ⟨some 21, (.mv (.t 1)), none⟩,
 ⟨some 22, (.bin .lss (.t 21) (.c (.int .i64 (0)))), none⟩,
 ⟨some 23, (.eqB true (.t 20) (.t 22)), none⟩,
 ⟨some 24, (.mv (.t 6)), none⟩,
 ⟨some 25, (.mv (.t 8)), none⟩,
 ⟨some 26, (.bin .quo (.t 24) (.t 25)), none⟩,
 ⟨some 27, (.mv (.t 7)), none⟩,
 ⟨some 28, (.mv (.t 8)), none⟩,
 ⟨some 29, (.bin .quo (.t 27) (.t 28)), none⟩,
 ⟨some 30, (.call (.f 87) [(.t 23), (.t 26), (.t 29)]), none⟩,
 ⟨some 31, (.ext (.t 30) 0), none⟩,
 ⟨some 32, (.ext (.t 30) 1), none⟩,
 ⟨none, (.store 2 (.t 4) (.t 31)), none⟩,
 ⟨some 5, (.mv (.t 32)), none⟩]
 [(0, 2), (1, 2), (0, 3), (1, 3), (0, 5), (1, 5), (2, 5), (3, 5), (4, 5), (0, 6), (1, 6), (2, 6), (3, 6), (4, 6), (5, 6), (0, 7), (1, 7), (2, 7), (3, 7), (4, 7), (0, 8), (1, 8), (2, 8), (3, 8), (4, 8), (5, 8), (6, 8), (7, 8), (0, 9), (1, 9), (2, 9), (3, 9), (4, 9), (5, 9), (6, 9), (7, 9), (8, 9), (0, 10), (1, 10), (2, 10), (3, 10), (4, 10), (5, 10), (6, 10), (7, 10), (12, 13)] [0, 1, 6, 7, 8, 19, 20, 21, 22, 23, 24, 25, 26, 27, 28, 29, 30, 31, 32])
 .ret)))))⟩
def loc49 : List Nat := [4]
def fg49 : List (Nat × List Nat) := [(5, [0, 1, 6, 7, 8, 19, 20, 21, 22, 23, 24, 25, 26, 27, 28, 29, 30, 31, 32]), (4, [16, 17, 18]), (3, [10, 12, 13, 14, 15]), (2, [0, 1, 10, 11]), (1, [9]), (0, [5])]
theorem comp49 : compFn Try.prog loc49 (fun i => (fg49.lookup i).getD []) Try.f49 = some lit49 := by kernel_rfl

-- parcener/audit.valid
def lit58 : AFn := ⟨2, [.tmp 4],
 (.seq
 (.ops [⟨some 3, (.boxL (.t 1)), none⟩,
 ⟨some 4, (.mv (.c (.bool false))), none⟩]
 [] [1, 4])
 (.seq
 (.ops [⟨some 7, (.fad 0 (.t 3)), none⟩,
 ⟨some 8, (.load false 1 (.t 7)), none⟩,
 ⟨some 9, (.len (.t 8)), none⟩,
 ⟨some 5, (.mv (.t 9)), none⟩]
 [] [7, 8, 9])
 (.seq
 (.seq
 (.ops [⟨some 10, (.mv (.t 5)), none⟩,
 ⟨some 11, (.bin .lss (.t 10) (.c (.int .i64 (2)))), none⟩,
 ⟨some 12, (.mv (.t 11)), none⟩,
 ⟨some 13, (.mv (.t 5)), some (12, false)⟩,
 ⟨some 14, (.bin .gtr (.t 13) (.c (.int .i64 (100)))), some (12, false)⟩,
 ⟨some 15, (.pick (.t 12) (.c (.bool true)) (.t 14)), none⟩,
 ⟨some 16, (.mv (.t 15)), none⟩,
 ⟨some 17, (.fad 1 (.t 3)), some (16, false)⟩,
 ⟨some 18, (.load false 1 (.t 17)), some (16, false)⟩,
 ⟨some 19, (.len (.t 18)), some (16, false)⟩,
 ⟨some 20, (.mv (.t 5)), some (16, false)⟩,
 ⟨some 21, (.bin .neq (.t 19) (.t 20)), some (16, false)⟩,
 ⟨some 22, (.pick (.t 16) (.c (.bool true)) (.t 21)), none⟩]
 [] [10, 11, 12, 13, 14, 15, 16, 17, 18, 19, 20, 21])
 (.cond (.t 22)
 (.seq
 (.ops [⟨some 4, (.mv (.c (.bool false))), none⟩]
 [] [0, 3, 5, 22])
 .ret)
 .skip))
 (.seq
 (.seq
 (.ops [⟨some 23, (.mv (.t 5)), none⟩,
 ⟨some 24, (.mv (.c (.int .i64 (0)))), none⟩]
 [] [22])
 (.block 0
 (.loop
 (.seq
 (.ops [⟨some 25, (.bin .lss (.t 24) (.t 23)), none⟩]
 [] [])
 (.seq
 (.cond (.t 25)
 .skip
 (.exit 0))
 (.seq
 (.block 1
 (.seq
 (.ops [⟨some 26, (.mv (.t 24)), none⟩,
 ⟨some 6, (.mv (.t 26)), none⟩]
 [] [25, 26])
 (.seq
 (.seq
 (.ops [⟨some 27, (.fad 0 (.t 3)), none⟩,
 ⟨some 28, (.load false 1 (.t 27)), none⟩,
 ⟨some 29, (.mv (.t 6)), none⟩,
 ⟨some 30, (.iad 2 (.t 28) (.t 29)), none⟩,
 ⟨some 31, (.load true 2 (.t 30)), none⟩,
 ⟨some 32, (.call (.f 91) [(.t 31)]), none⟩,
 ⟨some 33, (.bin .neq (.t 32) (.c (.int .i64 (0)))), none⟩,
 ⟨some 34, (.mv (.t 33)), none⟩,
 ⟨some 35, (.fad 1 (.t 3)), some (34, false)⟩,
 ⟨some 36, (.load false 1 (.t 35)), some (34, false)⟩,
 ⟨some 37, (.mv (.t 6)), some (34, false)⟩,
 ⟨some 38, (.iad 2 (.t 36) (.t 37)), some (34, false)⟩,
 ⟨some 39, (.load true 2 (.t 38)), some (34, false)⟩,
 ⟨some 40, (.call (.f 91) [(.t 39)]), some (34, false)⟩,
 ⟨some 41, (.bin .neq (.t 40) (.c (.int .i64 (0)))), some (34, false)⟩,
 ⟨some 42, (.pick (.t 34) (.c (.bool true)) (.t 41)), none⟩]
 [] [27, 28, 29, 30, 31, 32, 33, 34, 35, 36, 37, 38, 39, 40, 41])
 (.cond (.t 42)
 (.seq
 (.ops [⟨some 4, (.mv (.c (.bool false))), none⟩]
 [] [0, 3, 5, 6, 23, 24, 42])
 .ret)
 .skip))
 (.seq
 (.ops [⟨some 43, (.mv (.t 6)), none⟩,
 ⟨some 44, (.bin .gtr (.t 43) (.c (.int .i64 (0)))), none⟩,
 ⟨some 45, (.mv (.t 44)), none⟩,
 ⟨some 46, (.fad 0 (.t 3)), some (45, true)⟩,
 ⟨some 47, (.load false 1 (.t 46)), some (45, true)⟩,
 ⟨some 48, (.mv (.t 6)), some (45, true)⟩,
 ⟨some 49, (.bin .sub (.t 48) (.c (.int .i64 (1)))), some (45, true)⟩,
 ⟨some 50, (.iad 2 (.t 47) (.t 49)), some (45, true)⟩,
 ⟨some 51, (.load true 2 (.t 50)), some (45, true)⟩,
 ⟨some 52, (.fad 0 (.t 3)), some (45, true)⟩,
 ⟨some 53, (.load false 1 (.t 52)), some (45, true)⟩,
 ⟨some 54, (.mv (.t 6)), some (45, true)⟩,
 ⟨some 55, (.iad 2 (.t 53) (.t 54)), some (45, true)⟩,
 ⟨some 56, (.load true 2 (.t 55)), some (45, true)⟩,
 ⟨some 57, (.call (.f 79) [(.t 51), (.t 56)]), some (45, true)⟩,
 ⟨some 58, (.bin .geq (.t 57) (.c (.int .i64 (0)))), some (45, true)⟩,
 ⟨some 59, (.mv (.t 58)), some (45, true)⟩,
 ⟨some 60, (.fad 1 (.t 3)), some (59, false)⟩,
 ⟨some 61, (.load false 1 (.t 60)), some (59, false)⟩,
 ⟨some 62, (.mv (.t 6)), some (59, false)⟩,
 ⟨some 63, (.bin .sub (.t 62) (.c (.int .i64 (1)))), some (59, false)⟩,
 ⟨some 64, (.iad 2 (.t 61) (.t 63)), some (59, false)⟩,
 ⟨some 65, (.load true 2 (.t 64)), some (59, false)⟩,
 ⟨some 66, (.fad 1 (.t 3)), some (59, false)⟩,
 ⟨some 67, (.load false 1 (.t 66)), some (59, false)⟩,
 ⟨some 68, (.mv (.t 6)), some (59, false)⟩,
 ⟨some 69, (.iad 2 (.t 67) (.t 68)), some (59, false)⟩,
 ⟨some 70, (.load true 2 (.t 69)), some (59, false)⟩,
 ⟨some 71, (.call (.f 79) [(.t 65), (.t 70)]), some (59, false)⟩,
 ⟨some 72, (.bin .gtr (.t 71) (.c (.int .i64 (0)))), some (59, false)⟩,
 ⟨some 73, (.pick (.t 59) (.c (.bool true)) (.t 72)), some (45, true)⟩,
 ⟨some 74, (.pick (.t 45) (.t 73) (.c (.bool false))), none⟩]
 [(3, 5), (4, 5), (3, 6), (4, 6), (3, 9), (4, 9), (5, 9), (6, 9), (7, 9), (8, 9), (3, 10), (4, 10), (5, 10), (6, 10), (7, 10), (8, 10), (3, 11), (4, 11), (5, 11), (6, 11), (7, 11), (8, 11), (9, 11), (10, 11), (3, 12), (4, 12), (5, 12), (6, 12), (7, 12), (8, 12), (3, 13), (4, 13), (5, 13), (6, 13), (7, 13), (8, 13), (17, 19), (18, 19), (17, 20), (18, 20), (17, 23), (18, 23), (19, 23), (20, 23), (21, 23), (22, 23), (17, 24), (18, 24), (19, 24), (20, 24), (21, 24), (22, 24), (17, 25), (18, 25), (19, 25), (20, 25), (21, 25), (22, 25), (23, 25), (24, 25), (17, 26), (18, 26), (19, 26), (20, 26), (21, 26), (22, 26), (17, 27), (18, 27), (19, 27), (20, 27), (21, 27), (22, 27)] [6, 42, 43, 44, 45, 46, 47, 48, 49, 50, 51, 52, 53, 54, 55, 56, 57, 58, 59, 60, 61, 62, 63, 64, 65, 66, 67, 68, 69, 70, 71, 72, 73])
 (.cond (.t 74)
 (.seq
 (.ops [⟨some 4, (.mv (.c (.bool false))), none⟩]
 [] [0, 3, 5, 23, 24, 74])
 .ret)
 .skip)))))
 (.ops [⟨some 75, (.bin .add (.t 24) (.c (.int .i64 (1)))), none⟩,
 ⟨some 24, (.mv (.t 75)), none⟩]
 [] [74, 75])))))))
 (.seq
 (.ops [⟨some 76, (.fad 0 (.t 3)), none⟩,
 ⟨some 77, (.load false 1 (.t 76)), none⟩,
 ⟨some 78, (.iad 2 (.t 77) (.c (.int .i64 (0)))), none⟩,
 ⟨some 79, (.fad 0 (.t 78)), none⟩,
 ⟨some 80, (.load false 1 (.t 79)), none⟩,
 ⟨some 81, (.bin .eql (.t 80) (.c (.int .i64 (0)))), none⟩,
 ⟨some 82, (.mv (.t 81)), none⟩,
 ⟨some 83, (.fad 1 (.t 3)), some (82, true)⟩,
 ⟨some 84, (.load false 1 (.t 83)), some (82, true)⟩,
 ⟨some 85, (.iad 2 (.t 84) (.c (.int .i64 (0)))), some (82, true)⟩,
 ⟨some 86, (.fad 0 (.t 85)), some (82, true)⟩,
 ⟨some 87, (.load false 1 (.t 86)), some (82, true)⟩,
 ⟨some 88, (.bin .eql (.t 87) (.c (.int .i64 (0)))), some (82, true)⟩,
 ⟨some 89, (.pick (.t 82) (.t 88) (.c (.bool false))), none⟩,
 ⟨some 90, (.mv (.t 89)), none⟩,
 ⟨some 91, (.fad 0 (.t 3)), some (90, true)⟩,
 ⟨some 92, (.load false 1 (.t 91)), some (90, true)⟩,
 ⟨some 93, (.mv (.t 5)), some (90, true)⟩,
 ⟨some 94, (.bin .sub (.t 93) (.c (.int .i64 (1)))), some (90, true)⟩,
 ⟨some 95, (.iad 2 (.t 92) (.t 94)), some (90, true)⟩,
 ⟨some 96, (.load true 2 (.t 95)), some (90, true)⟩,
 ⟨some 97, (.mv (.t 0)), some (90, true)⟩,
 ⟨some 98, (.call (.f 77) [(.t 97)]), some (90, true)⟩,
 ⟨some 99, (.eqA false 2 [(0, (some .i64)), (1, (some .i64))] (.t 96) (.t 98)), some (90, true)⟩,
 ⟨some 100, (.pick (.t 90) (.t 99) (.c (.bool false))), none⟩,
 ⟨some 4, (.mv (.t 100)), none⟩]
 [(15, 17), (16, 17), (15, 18), (16, 18), (15, 21), (16, 21), (17, 21), (18, 21), (19, 21), (20, 21), (15, 22), (16, 22), (17, 22), (18, 22), (19, 22), (20, 22)] [0, 3, 5, 23, 24, 25, 76, 77, 78, 79, 80, 81, 82, 83, 84, 85, 86, 87, 88, 89, 90, 91, 92, 93, 94, 95, 96, 97, 98, 99, 100])
 .ret)))))⟩
def loc58 : List Nat := [3]
def fg58 : List (Nat × List Nat) := [(12, [0, 3, 5, 23, 24, 25, 76, 77, 78, 79, 80, 81, 82, 83, 84, 85, 86, 87, 88, 89, 90, 91, 92, 93, 94, 95, 96, 97, 98, 99, 100]), (11, [74, 75]), (10, [0, 3, 5, 23, 24, 74]), (9, [6, 42, 43, 44, 45, 46, 47, 48, 49, 50, 51, 52, 53, 54, 55, 56, 57, 58, 59, 60, 61, 62, 63, 64, 65, 66, 67, 68, 69, 70, 71, 72, 73]), (8, [0, 3, 5, 6, 23, 24, 42]), (7, [27, 28, 29, 30, 31, 32, 33, 34, 35, 36, 37, 38, 39, 40, 41]), (6, [25, 26]), (4, [22]), (3, [0, 3, 5, 22]), (2, [10, 11, 12, 13, 14, 15, 16, 17, 18, 19, 20, 21]), (1, [7, 8, 9]), (0, [1, 4])]
theorem comp58 : compFn Try.prog loc58 (fun i => (fg58.lookup i).getD []) Try.f58 = some lit58 := by kernel_rfl

-- slices.Contains[[]parcener/api.Ratio,parcener/api.Ratio]
def lit59 : AFn := ⟨2, [.tmp 4],
 (.seq
 (.ops [⟨some 3, (.boxL (.t 1)), none⟩,
 ⟨some 4, (.mv (.c (.bool false))), none⟩]
 [] [1, 4])
 (.seq
 (.ops [⟨some 5, (.mv (.t 0)), none⟩,
 ⟨some 6, (.load true 2 (.t 3)), none⟩,
 ⟨some 7, (.call (.f 60) [(.t 5), (.t 6)]), none⟩,
 ⟨some 8, (.bin .geq (.t 7) (.c (.int .i64 (0)))), none⟩,
 ⟨some 4, (.mv (.t 8)), none⟩]
 [] [0, 3, 5, 6, 7, 8])
 .ret))⟩
def loc59 : List Nat := [3]
def fg59 : List (Nat × List Nat) := [(1, [0, 3, 5, 6, 7, 8]), (0, [1, 4])]
theorem comp59 : compFn Try.prog loc59 (fun i => (fg59.lookup i).getD []) Try.f59 = some lit59 := by kernel_rfl

-- slices.Index[[]parcener/api.Ratio,parcener/api.Ratio]
def lit60 : AFn := ⟨2, [.tmp 4],
 (.seq
 (.ops [⟨some 3, (.boxL (.t 1)), none⟩,
 ⟨some 4, (.mv (.c (.int .i64 (0)))), none⟩]
 [] [1, 4])
 (.seq
 (.seq
 (.ops [⟨some 6, (.mv (.t 0)), none⟩,
 ⟨some 7, (.len (.t 6)), none⟩,
 ⟨some 8, (.mv (.c (.int .i64 (0)))), none⟩]
 [] [6])
 (.block 0
 (.loop
 (.seq
 (.ops [⟨some 9, (.bin .lss (.t 8) (.t 7)), none⟩]
 [] [])
 (.seq
 (.cond (.t 9)
 .skip
 (.exit 0))
 (.seq
 (.block 1
 (.seq
 (.ops [⟨some 10, (.mv (.t 8)), none⟩,
 ⟨some 5, (.mv (.t 10)), none⟩]
 [] [9, 10])
 (.seq
 (.ops [⟨some 11, (.load true 2 (.t 3)), none⟩,
 ⟨some 12, (.mv (.t 0)), none⟩,
 ⟨some 13, (.mv (.t 5)), none⟩,
 ⟨some 14, (.iad 2 (.t 12) (.t 13)), none⟩,
 ⟨some 15, (.load true 2 (.t 14)), none⟩,
 ⟨some 16, (.eqA false 2 [(0, (some .i64)), (1, (some .i64))] (.t 11) (.t 15)), none⟩]
 [(0, 1), (0, 2), (1, 2), (0, 3), (0, 4)] [11, 12, 13, 14, 15])
 (.cond (.t 16)
 (.seq
 (.ops [⟨some 17, (.mv (.t 5)), none⟩,
 ⟨some 4, (.mv (.t 17)), none⟩]
 [] [0, 3, 5, 7, 8, 16, 17])
 .ret)
 .skip))))
 (.ops [⟨some 18, (.bin .add (.t 8) (.c (.int .i64 (1)))), none⟩,
 ⟨some 8, (.mv (.t 18)), none⟩]
 [] [5, 16, 18])))))))
 (.seq
 (.ops [⟨some 4, (.mv (.c (.int .i64 (-1)))), none⟩]
 [] [0, 3, 7, 8, 9])
 .ret)))⟩
def loc60 : List Nat := [3]
def fg60 : List (Nat × List Nat) := [(7, [0, 3, 7, 8, 9]), (6, [5, 16, 18]), (5, [0, 3, 5, 7, 8, 16, 17]), (4, [11, 12, 13, 14, 15]), (3, [9, 10]), (1, [6]), (0, [1, 4])]
theorem comp60 : compFn Try.prog loc60 (fun i => (fg60.lookup i).getD []) Try.f60 = some lit60 := by kernel_rfl

-- parcener/ratio.Add
def lit61 : AFn := ⟨2, [.cell 4 true 2, .tmp 5],
 (.seq
 (.ops [⟨some 2, (.boxL (.t 0)), none⟩,
 ⟨some 3, (.boxL (.t 1)), none⟩,
 ⟨some 4, (.allocL (.agg [(.int .i64 (0)), (.int .i64 (0))])), none⟩,
 ⟨some 5, (.mv (.c (.int .i64 (0)))), none⟩]
 [] [0, 1, 5])
 (.seq
 (.seq
 (.ops [⟨some 21, (.load true 2 (.t 2)), none⟩,
 ⟨some 22, (.load true 2 (.t 3)), none⟩,
 ⟨some 23, (.call (.f 92) [(.t 21), (.t 22)]), none⟩,
 ⟨some 6, (.mv (.t 23)), none⟩]
 [] [21, 22, 23])
 (.seq
 (.ops [⟨some 24, (.mv (.t 6)), none⟩,
 ⟨some 25, (.bin .neq (.t 24) (.c (.int .i64 (0)))), none⟩]
 [] [24])
 (.cond (.t 25)
 (.seq
 (.ops [⟨some 26, (.build [(.int .i64 (0)), (.int .i64 (0))] []), none⟩,
 ⟨some 27, (.mv (.t 6)), none⟩,
 ⟨none, (.store 2 (.t 4) (.t 26)), none⟩,
 ⟨some 5, (.mv (.t 27)), none⟩]
 [] [2, 3, 6, 25, 26, 27])
 .ret)
 .skip)))
 (.seq
 (.ops [⟨some 28, (.fad 1 (.t 2)), none⟩,
 ⟨some 29, (.load false 1 (.t 28)), none⟩,
 ⟨some 30, (.conv .u64 (.t 29)), none⟩,
 ⟨some 31, (.fad 1 (.t 3)), none⟩,
 ⟨some 32, (.load false 1 (.t 31)), none⟩,
 ⟨some 33, (.conv .u64 (.t 32)), none⟩,
 ⟨some 34, (.call (.f 86) [(.t 30), (.t 33)]), none⟩,
 ⟨some 7, (.mv (.t 34)), none⟩]
 [] [6, 25, 28, 29, 30, 31, 32, 33, 34])
 (.seq
 (.ops [⟨some 36, (.fad 0 (.t 2)), none⟩,
 ⟨some 37, (.load false 1 (.t 36)), none⟩,
 ⟨some 38, (.call (.f 85) [(.t 37)]), none⟩,
 ⟨some 39, (.fad 1 (.t 3)), none⟩,
 ⟨some 40, (.load false 1 (.t 39)), none⟩,
 ⟨some 41, (.conv .u64 (.t 40)), none⟩,
 ⟨some 42, (.mv (.t 7)), none⟩,
 ⟨some 43, (.bin .quo (.t 41) (.t 42)), none⟩,
 ⟨some 44, (.call (.f 93) [(.t 38), (.t 43)]), none⟩,
 ⟨some 35, (.mv (.t 44)), none⟩,
 ⟨some 45, (.ext (.t 35) 0), none⟩,
 ⟨some 46, (.ext (.t 35) 1), none⟩,
 ⟨some 8, (.mv (.t 45)), none⟩,
 ⟨some 9, (.mv (.t 46)), none⟩]
 [(0, 3), (1, 3), (2, 3), (0, 4), (1, 4), (2, 4), (0, 5), (1, 5), (2, 5), (0, 6), (1, 6), (2, 6), (3, 6), (4, 6), (5, 6), (0, 7), (1, 7), (2, 7), (10, 11), (11, 12)] [35, 36, 37, 38, 39, 40, 41, 42, 43, 44, 45, 46])
 (.seq
 (.ops [⟨some 48, (.fad 0 (.t 3)), none⟩,
 ⟨some 49, (.load false 1 (.t 48)), none⟩,
 ⟨some 50, (.call (.f 85) [(.t 49)]), none⟩,
 ⟨some 51, (.fad 1 (.t 2)), none⟩,
 ⟨some 52, (.load false 1 (.t 51)), none⟩,
 ⟨some 53, (.conv .u64 (.t 52)), none⟩,
 ⟨some 54, (.mv (.t 7)), none⟩,
 ⟨some 55, (.bin .quo (.t 53) (.t 54)), none⟩,
 ⟨some 56, (.call (.f 93) [(.t 50), (.t 55)]), none⟩,
 ⟨some 47, (.mv (.t 56)), none⟩,
 ⟨some 57, (.ext (.t 47) 0), none⟩,
 ⟨some 58, (.ext (.t 47) 1), none⟩,
 ⟨some 10, (.mv (.t 57)), none⟩,
 ⟨some 11, (.mv (.t 58)), none⟩]
 [(0, 3), (1, 3), (2, 3), (0, 4), (1, 4), (2, 4), (0, 5), (1, 5), (2, 5), (0, 6), (1, 6), (2, 6), (3, 6), (4, 6), (5, 6), (0, 7), (1, 7), (2, 7), (10, 11), (11, 12)] [47, 48, 49, 50, 51, 52, 53, 54, 55, 56, 57, 58])
 (.seq
 (.ops [⟨some 59, (.fad 0 (.t 2)), none⟩,
 ⟨some 60, (.load false 1 (.t 59)), none⟩,
 ⟨some 61, (.bin .lss (.t 60) (.c (.int .i64 (0)))), none⟩,
 ⟨some 12, (.mv (.t 61)), none⟩]
 [] [59, 60, 61])
 (.seq
 (.ops [⟨some 13, (.mv (.c (.int .u64 (0)))), none⟩,
 ⟨some 14, (.mv (.c (.int .u64 (0)))), none⟩,
 ⟨some 15, (.mv (.c (.int .u64 (0)))), none⟩]
 [] [13, 14, 15])
 (.seq
 (.seq
 (.ops [⟨some 62, (.fad 0 (.t 2)), none⟩,
 ⟨some 63, (.load false 1 (.t 62)), none⟩,
 ⟨some 64, (.bin .lss (.t 63) (.c (.int .i64 (0)))), none⟩,
 ⟨some 65, (.fad 0 (.t 3)), none⟩,
 ⟨some 66, (.load false 1 (.t 65)), none⟩,
 ⟨some 67, (.bin .lss (.t 66) (.c (.int .i64 (0)))), none⟩,
 ⟨some 68, (.eqB false (.t 64) (.t 67)), none⟩]
 [] [62, 63, 64, 65, 66, 67])
 (.cond (.t 68)
 (.seq
 (.ops [⟨some 70, (.mv (.t 9)), none⟩,
 ⟨some 71, (.mv (.t 11)), none⟩,
 ⟨some 72, (.call (.f 94) [(.t 70), (.t 71), (.c (.int .u64 (0)))]), none⟩,
 ⟨some 69, (.mv (.t 72)), none⟩,
 ⟨some 73, (.ext (.t 69) 0), none⟩,
 ⟨some 74, (.ext (.t 69) 1), none⟩,
 ⟨some 14, (.mv (.t 73)), none⟩,
 ⟨some 15, (.mv (.t 74)), none⟩]
 [] [9, 11, 68, 69, 70, 71, 72, 73, 74])
 (.ops [⟨some 76, (.mv (.t 8)), none⟩,
 ⟨some 77, (.mv (.t 10)), none⟩,
 ⟨some 78, (.mv (.t 15)), none⟩,
 ⟨some 79, (.call (.f 94) [(.t 76), (.t 77), (.t 78)]), none⟩,
 ⟨some 75, (.mv (.t 79)), none⟩,
 ⟨some 80, (.ext (.t 75) 0), none⟩,
 ⟨some 81, (.ext (.t 75) 1), none⟩,
 ⟨some 13, (.mv (.t 80)), none⟩]
 [] [8, 10, 15, 75, 76, 77, 78, 79, 80, 81]))
 (.seq
 (.seq
 (.ops [⟨some 82, (.mv (.t 8)), none⟩,
 ⟨some 83, (.mv (.t 10)), none⟩,
 ⟨some 84, (.bin .lss (.t 82) (.t 83)), none⟩,
 ⟨some 85, (.mv (.t 84)), none⟩,
 ⟨some 86, (.mv (.t 8)), some (85, false)⟩,
 ⟨some 87, (.mv (.t 10)), some (85, false)⟩,
 ⟨some 88, (.bin .eql (.t 86) (.t 87)), some (85, false)⟩,
 ⟨some 89, (.mv (.t 88)), some (85, false)⟩,
 ⟨some 90, (.mv (.t 9)), some (89, true)⟩,
 ⟨some 91, (.mv (.t 11)), some (89, true)⟩,
 ⟨some 92, (.bin .lss (.t 90) (.t 91)), some (89, true)⟩,
 ⟨some 93, (.pick (.t 89) (.t 92) (.c (.bool false))), some (85, false)⟩,
 ⟨some 94, (.pick (.t 85) (.c (.bool true)) (.t 93)), none⟩]
 [] [68, 82, 83, 84, 85, 86, 87, 88, 89, 90, 91, 92, 93])
 (.cond (.t 94)
 (.seq
 (.ops [⟨some 95, (.mv (.t 10)), none⟩,
 ⟨some 96, (.mv (.t 11)), none⟩,
 ⟨some 97, (.mv (.t 8)), none⟩,
 ⟨some 98, (.mv (.t 9)), none⟩,
 ⟨some 8, (.mv (.t 95)), none⟩,
 ⟨some 9, (.mv (.t 96)), none⟩,
 ⟨some 10, (.mv (.t 97)), none⟩,
 ⟨some 11, (.mv (.t 98)), none⟩]
 [] [94, 95, 96, 97, 98])
 (.ops [⟨some 99, (.mv (.t 12)), none⟩,
 ⟨some 100, (.un .not (.t 99)), none⟩,
 ⟨some 12, (.mv (.t 100)), none⟩]
 [] [99, 100]))
 .skip))
 (.seq
 (.ops [⟨some 102, (.mv (.t 9)), none⟩,
 ⟨some 103, (.mv (.t 11)), none⟩,
 ⟨some 104, (.call (.f 95) [(.t 102), (.t 103), (.c (.int .u64 (0)))]), none⟩,
 ⟨some 101, (.mv (.t 104)), none⟩,
 ⟨some 105, (.ext (.t 101) 0), none⟩,
 ⟨some 106, (.ext (.t 101) 1), none⟩,
 ⟨some 14, (.mv (.t 105)), none⟩,
 ⟨some 15, (.mv (.t 106)), none⟩]
 [] [9, 11, 94, 101, 102, 103, 104, 105, 106])
 (.ops [⟨some 108, (.mv (.t 8)), none⟩,
 ⟨some 109, (.mv (.t 10)), none⟩,
 ⟨some 110, (.mv (.t 15)), none⟩,
 ⟨some 111, (.call (.f 95) [(.t 108), (.t 109), (.t 110)]), none⟩,
 ⟨some 107, (.mv (.t 111)), none⟩,
 ⟨some 112, (.ext (.t 107) 0), none⟩,
 ⟨some 113, (.ext (.t 107) 1), none⟩,
 ⟨some 13, (.mv (.t 112)), none⟩]
 [] [8, 10, 15, 107, 108, 109, 110, 111, 112, 113])))))
 (.seq
 (.seq
 (.ops [⟨some 114, (.mv (.t 13)), none⟩,
 ⟨some 115, (.bin .eql (.t 114) (.c (.int .u64 (0)))), none⟩,
 ⟨some 116, (.mv (.t 115)), none⟩,
 ⟨some 117, (.mv (.t 14)), some (116, true)⟩,
 ⟨some 118, (.bin .eql (.t 117) (.c (.int .u64 (0)))), some (116, true)⟩,
 ⟨some 119, (.pick (.t 116) (.t 118) (.c (.bool false))), none⟩]
 [] [114, 115, 116, 117, 118])
 (.cond (.t 119)
 (.seq
 (.ops [⟨some 120, (.build [(.int .i64 (0)), (.int .i64 (0))] [(1, 1, (.c (.int .i64 (1))))]), none⟩,
 ⟨none, (.store 2 (.t 4) (.t 120)), none⟩,
 ⟨some 5, (.mv (.c (.int .i64 (0)))), none⟩]
 [] [2, 3, 7, 12, 13, 14, 119, 120])
 .ret)
 .skip))
 (.seq
 (.ops [⟨some 121, (.mv (.t 13)), none⟩,
 ⟨some 122, (.mv (.t 14)), none⟩,
 ⟨some 123, (.mv (.t 7)), none⟩,
 ⟨some 124, (.call (.f 96) [(.t 121), (.t 122), (.t 123)]), none⟩,
 ⟨some 125, (.mv (.t 7)), none⟩,
 ⟨some 126, (.call (.f 86) [(.t 124), (.t 125)]), none⟩,
 ⟨some 16, (.mv (.t 126)), none⟩]
 [] [119, 121, 122, 123, 124, 125, 126])
 (.seq
 (.seq
 (.ops [⟨some 127, (.mv (.t 13)), none⟩,
 ⟨some 128, (.mv (.t 16)), none⟩,
 ⟨some 129, (.bin .geq (.t 127) (.t 128)), none⟩]
 [] [127, 128])
 (.cond (.t 129)
 (.seq
 (.ops [⟨some 130, (.build [(.int .i64 (0)), (.int .i64 (0))] []), none⟩,
 ⟨none, (.store 2 (.t 4) (.t 130)), none⟩,
 ⟨some 5, (.mv (.c (.int .i64 (16)))), none⟩]
 [] [2, 3, 7, 12, 13, 14, 16, 129, 130])
 .ret)
 .skip))
 (.seq
 (.ops [⟨some 132, (.mv (.t 13)), none⟩,
 ⟨some 133, (.mv (.t 14)), none⟩,
 ⟨some 134, (.mv (.t 16)), none⟩,
 ⟨some 135, (.call (.f 97) [(.t 132), (.t 133), (.t 134)]), none⟩,
 ⟨some 131, (.mv (.t 135)), none⟩,
 ⟨some 136, (.ext (.t 131) 0), none⟩,
 ⟨some 137, (.ext (.t 131) 1), none⟩,
 ⟨some 17, (.mv (.t 136)), none⟩,
 ⟨some 18, (.mv (.t 137)), none⟩]
 [] [13, 14, 18, 129, 131, 132, 133, 134, 135, 136, 137])
 (.seq
 (.ops [⟨some 139, (.fad 1 (.t 2)), none⟩,
 ⟨some 140, (.load false 1 (.t 139)), none⟩,
 ⟨some 141, (.conv .u64 (.t 140)), none⟩,
 ⟨some 142, (.mv (.t 7)), none⟩,
 ⟨some 143, (.bin .quo (.t 141) (.t 142)), none⟩,
 ⟨some 144, (.fad 1 (.t 3)), none⟩,
 ⟨some 145, (.load false 1 (.t 144)), none⟩,
 ⟨some 146, (.conv .u64 (.t 145)), none⟩,
 ⟨some 147, (.mv (.t 16)), none⟩,
 ⟨some 148, (.bin .quo (.t 146) (.t 147)), none⟩,
 ⟨some 149, (.call (.f 93) [(.t 143), (.t 148)]), none⟩,
 ⟨some 138, (.mv (.t 149)), none⟩,
 ⟨some 150, (.ext (.t 138) 0), none⟩,
 ⟨some 151, (.ext (.t 138) 1), none⟩,
 ⟨some 19, (.mv (.t 150)), none⟩,
 ⟨some 20, (.mv (.t 151)), none⟩]
 [(0, 3), (1, 3), (2, 3), (0, 5), (1, 5), (2, 5), (3, 5), (4, 5), (0, 6), (1, 6), (2, 6), (3, 6), (4, 6), (0, 7), (1, 7), (2, 7), (3, 7), (4, 7), (0, 8), (1, 8), (2, 8), (3, 8), (4, 8), (5, 8), (6, 8), (7, 8), (0, 9), (1, 9), (2, 9), (3, 9), (4, 9), (12, 13), (13, 14)] [2, 3, 7, 16, 138, 139, 140, 141, 142, 143, 144, 145, 146, 147, 148, 149, 150, 151])
 (.seq
 (.seq
 (.ops [⟨some 152, (.mv (.t 19)), none⟩,
 ⟨some 153, (.bin .gtr (.t 152) (.c (.int .u64 (0)))), none⟩]
 [] [19, 152])
 (.cond (.t 153)
 (.seq
 (.ops [⟨some 154, (.build [(.int .i64 (0)), (.int .i64 (0))] []), none⟩,
 ⟨none, (.store 2 (.t 4) (.t 154)), none⟩,
 ⟨some 5, (.mv (.c (.int .i64 (16)))), none⟩]
 [] [12, 17, 20, 153, 154])
 .ret)
 .skip))
 (.seq
 (.ops [⟨some 155, (.mv (.t 12)), none⟩,
 ⟨some 156, (.mv (.t 17)), none⟩,
 ⟨some 157, (.mv (.t 20)), none⟩,
 ⟨some 158, (.call (.f 87) [(.t 155), (.t 156), (.t 157)]), none⟩,
 ⟨some 159, (.ext (.t 158) 0), none⟩,
 ⟨some 160, (.ext (.t 158) 1), none⟩,
 ⟨none, (.store 2 (.t 4) (.t 159)), none⟩,
 ⟨some 5, (.mv (.t 160)), none⟩]
 [] [12, 17, 20, 153, 155, 156, 157, 158, 159, 160])
 .ret)))))))))))))))⟩
def loc61 : List Nat := [2, 3, 4]
def fg61 : List (Nat × List Nat) := [(26, [12, 17, 20, 153, 155, 156, 157, 158, 159, 160]), (25, [12, 17, 20, 153, 154]), (24, [19, 152]), (23, [2, 3, 7, 16, 138, 139, 140, 141, 142, 143, 144, 145, 146, 147, 148, 149, 150, 151]), (22, [13, 14, 18, 129, 131, 132, 133, 134, 135, 136, 137]), (21, [2, 3, 7, 12, 13, 14, 16, 129, 130]), (20, [127, 128]), (19, [119, 121, 122, 123, 124, 125, 126]), (18, [2, 3, 7, 12, 13, 14, 119, 120]), (17, [114, 115, 116, 117, 118]), (16, [8, 10, 15, 107, 108, 109, 110, 111, 112, 113]), (15, [9, 11, 94, 101, 102, 103, 104, 105, 106]), (14, [99, 100]), (13, [94, 95, 96, 97, 98]), (12, [68, 82, 83, 84, 85, 86, 87, 88, 89, 90, 91, 92, 93]), (11, [8, 10, 15, 75, 76, 77, 78, 79, 80, 81]), (10, [9, 11, 68, 69, 70, 71, 72, 73, 74]), (9, [62, 63, 64, 65, 66, 67]), (8, [13, 14, 15]), (7, [59, 60, 61]), (6, [47, 48, 49, 50, 51, 52, 53, 54, 55, 56, 57, 58]), (5, [35, 36, 37, 38, 39, 40, 41, 42, 43, 44, 45, 46]), (4, [6, 25, 28, 29, 30, 31, 32, 33, 34]), (3, [2, 3, 6, 25, 26, 27]), (2, [24]), (1, [21, 22, 23]), (0, [0, 1, 5])]
theorem comp61 : compFn Try.prog loc61 (fun i => (fg61.lookup i).getD []) Try.f61 = some lit61 := by kernel_rfl

-- parcener/audit.claimed
def lit76 : AFn := ⟨2, [.cell 4 true 7, .tmp 5],
 (.seq
 (.ops [⟨some 3, (.boxL (.t 1)), none⟩,
 ⟨some 4, (.allocL (.agg [(.int .i64 (0)), (.int .i64 (0)), (.int .i64 (0)), (.int .i64 (0)), (.int .i64 (0)), (.int .i64 (0)), (.bool false)])), none⟩,
 ⟨some 5, (.mv (.c (.bool false))), none⟩]
 [] [1, 5])
 (.seq
 (.seq
 (.ops [⟨some 9, (.fad 2 (.t 3)), none⟩,
 ⟨some 10, (.load true 2 (.t 9)), none⟩,
 ⟨some 11, (.fad 4 (.t 3)), none⟩,
 ⟨some 12, (.load true 2 (.t 11)), none⟩,
 ⟨some 13, (.fad 6 (.t 3)), none⟩,
 ⟨some 14, (.load true 2 (.t 13)), none⟩,
 ⟨some 15, (.buildSl true 2 (.agg [(.int .i64 (0)), (.int .i64 (0))]) 3 [(0, (.t 10)), (1, (.t 12)), (2, (.t 14))]), none⟩,
 ⟨some 16, (.len (.t 15)), none⟩,
 ⟨some 17, (.mv (.c (.int .i64 (0)))), none⟩]
 [] [9, 10, 11, 12, 13, 14])
 (.block 0
 (.loop
 (.seq
 (.ops [⟨some 18, (.bin .lss (.t 17) (.t 16)), none⟩]
 [] [])
 (.seq
 (.cond (.t 18)
 .skip
 (.exit 0))
 (.seq
 (.block 1
 (.seq
 (.ops [⟨some 19, (.iad 2 (.t 15) (.t 17)), none⟩,
 ⟨some 20, (.load true 2 (.t 19)), none⟩,
 ⟨some 7, (.allocL (.agg [(.int .i64 (0)), (.int .i64 (0))])), none⟩,
 ⟨none, (.store 2 (.t 7) (.t 20)), none⟩]
 [] [18, 19, 20])
 (.seq
 (.ops [⟨some 21, (.load true 2 (.t 7)), none⟩,
 ⟨some 22, (.call (.f 91) [(.t 21)]), none⟩,
 ⟨some 23, (.bin .neq (.t 22) (.c (.int .i64 (0)))), none⟩,
 ⟨some 24, (.mv (.t 23)), none⟩,
 ⟨some 25, (.fad 0 (.t 7)), some (24, false)⟩,
 ⟨some 26, (.load false 1 (.t 25)), some (24, false)⟩,
 ⟨some 27, (.bin .lss (.t 26) (.c (.int .i64 (0)))), some (24, false)⟩,
 ⟨some 28, (.pick (.t 24) (.c (.bool true)) (.t 27)), none⟩]
 [] [7, 21, 22, 23, 24, 25, 26, 27])
 (.cond (.t 28)
 (.seq
 (.ops [⟨some 29, (.build [(.int .i64 (0)), (.int .i64 (0)), (.int .i64 (0)), (.int .i64 (0)), (.int .i64 (0)), (.int .i64 (0)), (.bool false)] []), none⟩,
 ⟨none, (.store 7 (.t 4) (.t 29)), none⟩,
 ⟨some 5, (.mv (.c (.bool false))), none⟩]
 [] [0, 3, 15, 16, 17, 28, 29])
 .ret)
 .skip))))
 (.ops [⟨some 30, (.bin .add (.t 17) (.c (.int .i64 (1)))), none⟩,
 ⟨some 17, (.mv (.t 30)), none⟩]
 [] [28, 30])))))))
 (.seq
 (.ops [⟨some 31, (.fad 2 (.t 3)), none⟩,
 ⟨some 32, (.load true 2 (.t 31)), none⟩,
 ⟨some 33, (.fad 4 (.t 3)), none⟩,
 ⟨some 34, (.load true 2 (.t 33)), none⟩,
 ⟨some 35, (.fad 6 (.t 3)), none⟩,
 ⟨some 36, (.load true 2 (.t 35)), none⟩,
 ⟨some 37, (.build [(.int .i64 (0)), (.int .i64 (0)), (.int .i64 (0)), (.int .i64 (0)), (.int .i64 (0)), (.int .i64 (0)), (.bool false)] [(0, 2, (.t 32)), (2, 2, (.t 34)), (4, 2, (.t 36))]), none⟩,
 ⟨some 8, (.allocL (.agg [(.int .i64 (0)), (.int .i64 (0)), (.int .i64 (0)), (.int .i64 (0)), (.int .i64 (0)), (.int .i64 (0)), (.bool false)])), none⟩,
 ⟨none, (.store 7 (.t 8) (.t 37)), none⟩]
 [] [15, 16, 17, 18, 31, 32, 33, 34, 35, 36, 37])
 (.seq
 (.seq
 (.ops [⟨some 38, (.fad 1 (.t 3)), none⟩,
 ⟨some 39, (.load false 1 (.t 38)), none⟩]
 [] [38])
 (.block 2
 (.seq
 (.ops [⟨some 42, (.bin .eql (.t 39) (.c (.int .u8 (1)))), none⟩,
 ⟨some 41, (.mv (.t 42)), none⟩]
 [] [42])
 (.cond (.t 41)
 .skip
 (.seq
 (.ops [⟨some 44, (.bin .eql (.t 39) (.c (.int .u8 (2)))), none⟩,
 ⟨some 43, (.mv (.t 44)), none⟩]
 [] [39, 41, 44])
 (.cond (.t 43)
 (.ops [⟨some 45, (.fad 6 (.t 3)), none⟩,
 ⟨some 46, (.load true 2 (.t 45)), none⟩,
 ⟨some 47, (.fad 4 (.t 3)), none⟩,
 ⟨some 48, (.load true 2 (.t 47)), none⟩,
 ⟨some 49, (.fad 2 (.t 8)), none⟩,
 ⟨none, (.store 2 (.t 49) (.t 46)), none⟩,
 ⟨some 50, (.fad 4 (.t 8)), none⟩,
 ⟨none, (.store 2 (.t 50) (.t 48)), none⟩,
 ⟨some 51, (.fad 6 (.t 8)), none⟩,
 ⟨none, (.store 1 (.t 51) (.c (.bool true))), none⟩]
 [(0, 2), (1, 2), (0, 3), (1, 3), (2, 4), (3, 4), (2, 5), (3, 5)] [3, 43, 45, 46, 47, 48, 49, 50, 51])
 (.seq
 (.ops [⟨some 40, (.build [(.int .i64 (0)), (.int .i64 (0)), (.int .i64 (0)), (.int .i64 (0)), (.int .i64 (0)), (.int .i64 (0)), (.bool false)] []), none⟩,
 ⟨none, (.store 7 (.t 4) (.t 40)), none⟩,
 ⟨some 5, (.mv (.c (.bool false))), none⟩]
 [] [0, 3, 8, 40, 43])
 .ret)))))))
 (.seq
 (.ops [⟨some 52, (.load true 7 (.t 8)), none⟩,
 ⟨some 53, (.fad 0 (.t 8)), none⟩,
 ⟨some 54, (.load true 2 (.t 53)), none⟩,
 ⟨some 55, (.fad 2 (.t 8)), none⟩,
 ⟨some 56, (.load true 2 (.t 55)), none⟩,
 ⟨some 57, (.call (.f 79) [(.t 54), (.t 56)]), none⟩,
 ⟨some 58, (.bin .leq (.t 57) (.c (.int .i64 (0)))), none⟩,
 ⟨some 59, (.mv (.t 58)), none⟩,
 ⟨some 60, (.fad 2 (.t 8)), some (59, true)⟩,
 ⟨some 61, (.load true 2 (.t 60)), some (59, true)⟩,
 ⟨some 62, (.mv (.t 0)), some (59, true)⟩,
 ⟨some 63, (.call (.f 77) [(.t 62)]), some (59, true)⟩,
 ⟨some 64, (.call (.f 79) [(.t 61), (.t 63)]), some (59, true)⟩,
 ⟨some 65, (.bin .leq (.t 64) (.c (.int .i64 (0)))), some (59, true)⟩,
 ⟨some 66, (.pick (.t 59) (.t 65) (.c (.bool false))), none⟩,
 ⟨none, (.store 7 (.t 4) (.t 52)), none⟩,
 ⟨some 5, (.mv (.t 66)), none⟩]
 [(0, 1), (0, 2), (0, 3), (1, 3), (2, 3), (0, 4), (1, 4), (2, 4), (0, 5), (0, 6), (0, 7), (0, 8), (0, 9), (0, 10), (8, 10), (9, 10), (0, 11), (8, 11), (9, 11), (0, 12), (0, 13), (0, 14), (13, 15), (14, 15)] [0, 3, 8, 39, 41, 52, 53, 54, 55, 56, 57, 58, 59, 60, 61, 62, 63, 64, 65, 66])
 .ret)))))⟩
def loc76 : List Nat := [3, 4, 7, 8]
def fg76 : List (Nat × List Nat) := [(13, [0, 3, 8, 39, 41, 52, 53, 54, 55, 56, 57, 58, 59, 60, 61, 62, 63, 64, 65, 66]), (9, [0, 3, 8, 40, 43]), (12, [3, 43, 45, 46, 47, 48, 49, 50, 51]), (11, [39, 41, 44]), (10, [42]), (8, [38]), (7, [15, 16, 17, 18, 31, 32, 33, 34, 35, 36, 37]), (6, [28, 30]), (5, [0, 3, 15, 16, 17, 28, 29]), (4, [7, 21, 22, 23, 24, 25, 26, 27]), (3, [18, 19, 20]), (1, [9, 10, 11, 12, 13, 14]), (0, [1, 5])]
theorem comp76 : compFn Try.prog loc76 (fun i => (fg76.lookup i).getD []) Try.f76 = some lit76 := by kernel_rfl

-- parcener/audit.whole
def lit77 : AFn := ⟨1, [.cell 2 true 2],
 (.seq
 (.ops [⟨some 2, (.allocL (.agg [(.int .i64 (0)), (.int .i64 (0))])), none⟩]
 [] [])
 (.seq
 (.ops [⟨some 3, (.mv (.t 0)), none⟩,
 ⟨some 4, (.build [(.int .i64 (0)), (.int .i64 (0))] [(0, 1, (.t 3)), (1, 1, (.c (.int .i64 (1))))]), none⟩,
 ⟨none, (.store 2 (.t 2) (.t 4)), none⟩]
 [] [0, 3, 4])
 .ret))⟩
def loc77 : List Nat := [2]
def fg77 : List (Nat × List Nat) := [(1, [0, 3, 4])]
theorem comp77 : compFn Try.prog loc77 (fun i => (fg77.lookup i).getD []) Try.f77 = some lit77 := by kernel_rfl

-- slices.SortFunc[[]parcener/api.Ratio,parcener/api.Ratio]
def lit78 : AFn := ⟨2, [],
 (.seq
 (.ops [⟨some 5, (.mv (.t 0)), none⟩,
 ⟨some 6, (.len (.t 5)), none⟩,
 ⟨some 4, (.mv (.t 6)), none⟩]
 [] [5, 6])
 (.ops [⟨some 7, (.mv (.t 0)), none⟩,
 ⟨some 8, (.mv (.t 4)), none⟩,
 ⟨some 9, (.mv (.t 4)), none⟩,
 ⟨some 10, (.conv .u64 (.t 9)), none⟩,
 ⟨some 11, (.call (.f 107) [(.t 10)]), none⟩,
 ⟨some 12, (.mv (.t 1)), none⟩,
 ⟨some 13, (.call (.f 109) [(.t 7), (.c (.int .i64 (0))), (.t 8), (.t 11), (.t 12)]), none⟩]
 [] [0, 1, 4, 7, 8, 9, 10, 11, 12, 13]))⟩
def loc78 : List Nat := []
def fg78 : List (Nat × List Nat) := [(1, [0, 1, 4, 7, 8, 9, 10, 11, 12, 13]), (0, [5, 6])]
theorem comp78 : compFn Try.prog loc78 (fun i => (fg78.lookup i).getD []) Try.f78 = some lit78 := by kernel_rfl

-- parcener/audit.order
def lit79 : AFn := ⟨2, [.tmp 4],
 (.seq
 (.ops [⟨some 2, (.boxL (.t 0)), none⟩,
 ⟨some 3, (.boxL (.t 1)), none⟩,
 ⟨some 4, (.mv (.c (.int .i64 (0)))), none⟩]
 [] [0, 1, 4])
 (.seq
 (.ops [⟨some 8, (.load true 2 (.t 2)), none⟩,
 ⟨some 9, (.load true 2 (.t 3)), none⟩,
 ⟨some 10, (.call (.f 101) [(.t 8), (.t 9)]), none⟩,
 ⟨some 7, (.mv (.t 10)), none⟩,
 ⟨some 11, (.ext (.t 7) 0), none⟩,
 ⟨some 12, (.ext (.t 7) 1), none⟩,
 ⟨some 5, (.mv (.t 11)), none⟩,
 ⟨some 6, (.mv (.t 12)), none⟩]
 [] [2, 3, 6, 7, 8, 9, 10, 11, 12])
 (.seq
 (.ops [⟨some 13, (.mv (.t 5)), none⟩,
 ⟨some 4, (.mv (.t 13)), none⟩]
 [] [5, 13])
 .ret)))⟩
def loc79 : List Nat := [2, 3]
def fg79 : List (Nat × List Nat) := [(2, [5, 13]), (1, [2, 3, 6, 7, 8, 9, 10, 11, 12]), (0, [0, 1, 4])]
theorem comp79 : compFn Try.prog loc79 (fun i => (fg79.lookup i).getD []) Try.f79 = some lit79 := by kernel_rfl

-- slices.Compact[[]parcener/api.Ratio,parcener/api.Ratio]
def lit80 : AFn := ⟨1, [.tmp 2],
 (.seq
 (.ops [⟨some 2, (.mv (.c .nils)), none⟩]
 [] [2])
 (.seq
 (.seq
 (.ops [⟨some 6, (.mv (.t 0)), none⟩,
 ⟨some 7, (.len (.t 6)), none⟩,
 ⟨some 8, (.bin .lss (.t 7) (.c (.int .i64 (2)))), none⟩]
 [] [6, 7])
 (.cond (.t 8)
 (.seq
 (.ops [⟨some 9, (.mv (.t 0)), none⟩,
 ⟨some 2, (.mv (.t 9)), none⟩]
 [] [0, 8, 9])
 .ret)
 .skip))
 (.seq
 (.seq
 (.ops [⟨some 3, (.mv (.c (.int .i64 (1)))), none⟩]
 [] [8])
 (.block 0
 (.loop
 (.seq
 (.seq
 (.ops [⟨some 10, (.mv (.t 3)), none⟩,
 ⟨some 11, (.mv (.t 0)), none⟩,
 ⟨some 12, (.len (.t 11)), none⟩,
 ⟨some 13, (.bin .lss (.t 10) (.t 12)), none⟩]
 [] [10, 11, 12])
 (.cond (.t 13)
 .skip
 (.exit 0)))
 (.seq
 (.block 1
 (.seq
 (.ops [⟨some 16, (.mv (.t 0)), none⟩,
 ⟨some 17, (.mv (.t 3)), none⟩,
 ⟨some 18, (.iad 2 (.t 16) (.t 17)), none⟩,
 ⟨some 19, (.load true 2 (.t 18)), none⟩,
 ⟨some 20, (.mv (.t 0)), none⟩,
 ⟨some 21, (.mv (.t 3)), none⟩,
 ⟨some 22, (.bin .sub (.t 21) (.c (.int .i64 (1)))), none⟩,
 ⟨some 23, (.iad 2 (.t 20) (.t 22)), none⟩,
 ⟨some 24, (.load true 2 (.t 23)), none⟩,
 ⟨some 25, (.eqA false 2 [(0, (some .i64)), (1, (some .i64))] (.t 19) (.t 24)), none⟩]
 [(0, 1), (0, 4), (1, 4), (2, 4), (3, 4), (0, 5), (1, 5), (2, 5), (3, 5), (4, 5), (0, 6), (1, 6), (2, 6), (3, 6), (4, 6), (0, 7), (1, 7), (2, 7), (3, 7), (0, 8), (1, 8), (2, 8), (3, 8)] [13, 16, 17, 18, 19, 20, 21, 22, 23, 24])
 (.cond (.t 25)
 (.seq
 (.ops [⟨some 26, (.mv (.t 0)), none⟩,
 ⟨some 27, (.mv (.t 3)), none⟩,
 ⟨some 28, (.slc 2 (.t 26) (some (.t 27)) none none), none⟩,
 ⟨some 4, (.mv (.t 28)), none⟩]
 [] [25, 26, 27, 28])
 (.seq
 (.seq
 (.ops [⟨some 5, (.mv (.c (.int .i64 (1)))), none⟩]
 [] [])
 (.block 2
 (.loop
 (.seq
 (.seq
 (.ops [⟨some 29, (.mv (.t 5)), none⟩,
 ⟨some 30, (.mv (.t 4)), none⟩,
 ⟨some 31, (.len (.t 30)), none⟩,
 ⟨some 32, (.bin .lss (.t 29) (.t 31)), none⟩]
 [] [29, 30, 31])
 (.cond (.t 32)
 .skip
 (.exit 2)))
 (.seq
 (.block 3
 (.seq
 (.ops [⟨some 35, (.mv (.t 4)), none⟩,
 ⟨some 36, (.mv (.t 5)), none⟩,
 ⟨some 37, (.iad 2 (.t 35) (.t 36)), none⟩,
 ⟨some 38, (.load true 2 (.t 37)), none⟩,
 ⟨some 39, (.mv (.t 4)), none⟩,
 ⟨some 40, (.mv (.t 5)), none⟩,
 ⟨some 41, (.bin .sub (.t 40) (.c (.int .i64 (1)))), none⟩,
 ⟨some 42, (.iad 2 (.t 39) (.t 41)), none⟩,
 ⟨some 43, (.load true 2 (.t 42)), none⟩,
 ⟨some 44, (.eqA true 2 [(0, (some .i64)), (1, (some .i64))] (.t 38) (.t 43)), none⟩]
 [(0, 1), (0, 4), (1, 4), (2, 4), (3, 4), (0, 5), (1, 5), (2, 5), (3, 5), (4, 5), (0, 6), (1, 6), (2, 6), (3, 6), (4, 6), (0, 7), (1, 7), (2, 7), (3, 7), (0, 8), (1, 8), (2, 8), (3, 8)] [32, 35, 36, 37, 38, 39, 40, 41, 42, 43])
 (.cond (.t 44)
 (.seq
 (.ops [⟨some 45, (.mv (.t 0)), none⟩,
 ⟨some 46, (.mv (.t 3)), none⟩,
 ⟨some 47, (.mv (.t 4)), none⟩,
 ⟨some 48, (.mv (.t 5)), none⟩,
 ⟨some 49, (.iad 2 (.t 47) (.t 48)), none⟩,
 ⟨some 50, (.load true 2 (.t 49)), none⟩,
 ⟨some 51, (.iad 2 (.t 45) (.t 46)), none⟩,
 ⟨none, (.store 2 (.t 51) (.t 50)), none⟩]
 [] [44, 45, 46, 47, 48, 49, 50, 51])
 (.ops [⟨some 52, (.mv (.t 3)), none⟩,
 ⟨some 53, (.bin .add (.t 52) (.c (.int .i64 (1)))), none⟩,
 ⟨some 3, (.mv (.t 53)), none⟩]
 [] [52, 53]))
 .skip)))
 (.ops [⟨some 33, (.mv (.t 5)), none⟩,
 ⟨some 34, (.bin .add (.t 33) (.c (.int .i64 (1)))), none⟩,
 ⟨some 5, (.mv (.t 34)), none⟩]
 [] [33, 34, 44]))))))
 (.seq
 (.ops [⟨some 54, (.mv (.t 0)), none⟩,
 ⟨some 55, (.mv (.t 3)), none⟩,
 ⟨some 56, (.slc 2 (.t 54) (some (.t 55)) none none), none⟩,
 ⟨none, (.clr true 2 (.agg [(.int .i64 (0)), (.int .i64 (0))]) (.t 56)), none⟩]
 [] [4, 5, 32, 54, 55, 56])
 (.seq
 (.ops [⟨some 57, (.mv (.t 0)), none⟩,
 ⟨some 58, (.mv (.t 3)), none⟩,
 ⟨some 59, (.slc 2 (.t 57) none (some (.t 58)) none), none⟩,
 ⟨some 2, (.mv (.t 59)), none⟩]
 [] [0, 3, 57, 58, 59])
 .ret))))
 .skip)))
 (.ops [⟨some 14, (.mv (.t 3)), none⟩,
 ⟨some 15, (.bin .add (.t 14) (.c (.int .i64 (1)))), none⟩,
 ⟨some 3, (.mv (.t 15)), none⟩]
 [] [14, 15, 25]))))))
 (.seq
 (.ops [⟨some 60, (.mv (.t 0)), none⟩,
 ⟨some 2, (.mv (.t 60)), none⟩]
 [] [0, 3, 13, 60])
 .ret))))⟩
def loc80 : List Nat := []
def fg80 : List (Nat × List Nat) := [(16, [0, 3, 13, 60]), (5, [14, 15, 25]), (15, [0, 3, 57, 58, 59]), (14, [4, 5, 32, 54, 55, 56]), (10, [33, 34, 44]), (13, [52, 53]), (12, [44, 45, 46, 47, 48, 49, 50, 51]), (11, [32, 35, 36, 37, 38, 39, 40, 41, 42, 43]), (9, [29, 30, 31]), (7, [25, 26, 27, 28]), (6, [13, 16, 17, 18, 19, 20, 21, 22, 23, 24]), (4, [10, 11, 12]), (3, [8]), (2, [0, 8, 9]), (1, [6, 7]), (0, [2])]
theorem comp80 : compFn Try.prog loc80 (fun i => (fg80.lookup i).getD []) Try.f80 = some lit80 := by kernel_rfl

-- parcener/audit.heights$1
def lit81 : AFn := ⟨2, [.tmp 3],
 (.seq
 (.ops [⟨some 2, (.boxL (.t 0)), none⟩,
 ⟨some 3, (.mv (.c (.int .i64 (0)))), none⟩]
 [] [0, 3])
 (.seq
 (.ops [⟨some 7, (.load false 1 (.t 1)), none⟩,
 ⟨some 8, (.load true 2 (.t 2)), none⟩,
 ⟨some 9, (.call (.f 82) [(.t 7), (.t 8), (.f 79)]), none⟩,
 ⟨some 6, (.mv (.t 9)), none⟩,
 ⟨some 10, (.ext (.t 6) 0), none⟩,
 ⟨some 11, (.ext (.t 6) 1), none⟩,
 ⟨some 4, (.mv (.t 10)), none⟩,
 ⟨some 5, (.mv (.t 11)), none⟩]
 [] [1, 2, 5, 6, 7, 8, 9, 10, 11])
 (.seq
 (.ops [⟨some 12, (.mv (.t 4)), none⟩,
 ⟨some 3, (.mv (.t 12)), none⟩]
 [] [4, 12])
 .ret)))⟩
def loc81 : List Nat := [2]
def fg81 : List (Nat × List Nat) := [(2, [4, 12]), (1, [1, 2, 5, 6, 7, 8, 9, 10, 11]), (0, [0, 3])]
theorem comp81 : compFn Try.prog loc81 (fun i => (fg81.lookup i).getD []) Try.f81 = some lit81 := by kernel_rfl

-- slices.BinarySearchFunc[[]parcener/api.Ratio,parcener/api.Ratio,parcener/api.Ratio]
def lit82 : AFn := ⟨3, [.tmp 6, .tmp 7],
 (.seq
 (.ops [⟨some 4, (.boxL (.t 1)), none⟩,
 ⟨some 6, (.mv (.c (.int .i64 (0)))), none⟩,
 ⟨some 7, (.mv (.c (.bool false))), none⟩]
 [] [1, 6, 7])
 (.seq
 (.ops [⟨some 12, (.mv (.t 0)), none⟩,
 ⟨some 13, (.len (.t 12)), none⟩,
 ⟨some 8, (.mv (.t 13)), none⟩]
 [] [12, 13])
 (.seq
 (.ops [⟨some 14, (.mv (.t 8)), none⟩,
 ⟨some 9, (.mv (.c (.int .i64 (0)))), none⟩,
 ⟨some 10, (.mv (.t 14)), none⟩]
 [] [14])
 (.seq
 (.block 0
 (.loop
 (.seq
 (.seq
 (.ops [⟨some 15, (.mv (.t 9)), none⟩,
 ⟨some 16, (.mv (.t 10)), none⟩,
 ⟨some 17, (.bin .lss (.t 15) (.t 16)), none⟩]
 [] [15, 16])
 (.cond (.t 17)
 .skip
 (.exit 0)))
 (.block 1
 (.seq
 (.ops [⟨some 18, (.mv (.t 9)), none⟩,
 ⟨some 19, (.mv (.t 10)), none⟩,
 ⟨some 20, (.bin .add (.t 18) (.t 19)), none⟩,
 ⟨some 21, (.conv .u64 (.t 20)), none⟩,
 ⟨some 22, (.bin .shr (.t 21) (.c (.int .u64 (1)))), none⟩,
 ⟨some 23, (.conv .i64 (.t 22)), none⟩,
 ⟨some 11, (.mv (.t 23)), none⟩]
 [] [17, 18, 19, 20, 21, 22, 23])
 (.seq
 (.ops [⟨some 24, (.mv (.t 2)), none⟩,
 ⟨some 25, (.mv (.t 0)), none⟩,
 ⟨some 26, (.mv (.t 11)), none⟩,
 ⟨some 27, (.iad 2 (.t 25) (.t 26)), none⟩,
 ⟨some 28, (.load true 2 (.t 27)), none⟩,
 ⟨some 29, (.load true 2 (.t 4)), none⟩,
 ⟨some 30, (.call (.t 24) [(.t 28), (.t 29)]), none⟩,
 ⟨some 31, (.bin .lss (.t 30) (.c (.int .i64 (0)))), none⟩]
 [(0, 1), (0, 2), (1, 2), (0, 3), (0, 4), (0, 5), (1, 5), (2, 5), (3, 5), (4, 5)] [24, 25, 26, 27, 28, 29, 30])
 (.cond (.t 31)
 (.ops [⟨some 32, (.mv (.t 11)), none⟩,
 ⟨some 33, (.bin .add (.t 32) (.c (.int .i64 (1)))), none⟩,
 ⟨some 9, (.mv (.t 33)), none⟩]
 [] [11, 31, 32, 33])
 (.ops [⟨some 34, (.mv (.t 11)), none⟩,
 ⟨some 10, (.mv (.t 34)), none⟩]
 [] [11, 31, 34]))))))))
 (.seq
 (.ops [⟨some 35, (.mv (.t 9)), none⟩,
 ⟨some 36, (.mv (.t 9)), none⟩,
 ⟨some 37, (.mv (.t 8)), none⟩,
 ⟨some 38, (.bin .lss (.t 36) (.t 37)), none⟩,
 ⟨some 39, (.mv (.t 38)), none⟩,
 ⟨some 40, (.mv (.t 2)), some (39, true)⟩,
 ⟨some 41, (.mv (.t 0)), some (39, true)⟩,
 ⟨some 42, (.mv (.t 9)), some (39, true)⟩,
 ⟨some 43, (.iad 2 (.t 41) (.t 42)), some (39, true)⟩,
 ⟨some 44, (.load true 2 (.t 43)), some (39, true)⟩,
 ⟨some 45, (.load true 2 (.t 4)), some (39, true)⟩,
 ⟨some 46, (.call (.t 40) [(.t 44), (.t 45)]), some (39, true)⟩,
 ⟨some 47, (.bin .eql (.t 46) (.c (.int .i64 (0)))), some (39, true)⟩,
 ⟨some 48, (.pick (.t 39) (.t 47) (.c (.bool false))), none⟩,
 ⟨some 6, (.mv (.t 35)), none⟩,
 ⟨some 7, (.mv (.t 48)), none⟩]
 [(0, 1), (0, 2), (1, 2), (0, 3), (0, 4), (0, 5), (0, 6), (5, 6), (0, 7), (5, 7), (6, 7), (0, 8), (5, 8), (0, 9), (5, 9), (0, 10), (5, 10), (6, 10), (7, 10), (8, 10), (9, 10), (0, 11), (0, 12), (0, 13), (12, 14), (13, 14)] [0, 2, 4, 8, 9, 10, 17, 35, 36, 37, 38, 39, 40, 41, 42, 43, 44, 45, 46, 47, 48])
 .ret)))))⟩
def loc82 : List Nat := [4]
def fg82 : List (Nat × List Nat) := [(8, [0, 2, 4, 8, 9, 10, 17, 35, 36, 37, 38, 39, 40, 41, 42, 43, 44, 45, 46, 47, 48]), (7, [11, 31, 34]), (6, [11, 31, 32, 33]), (5, [24, 25, 26, 27, 28, 29, 30]), (4, [17, 18, 19, 20, 21, 22, 23]), (3, [15, 16]), (2, [14]), (1, [12, 13]), (0, [1, 6, 7])]
theorem comp82 : compFn Try.prog loc82 (fun i => (fg82.lookup i).getD []) Try.f82 = some lit82 := by kernel_rfl

-- slices.Clone[[]int64,int64]
def lit83 : AFn := ⟨1, [.tmp 2],
 (.seq
 (.ops [⟨some 2, (.mv (.c .nils)), none⟩]
 [] [2])
 (.seq
 (.seq
 (.ops [⟨some 3, (.mv (.t 0)), none⟩,
 ⟨some 4, (.eqN false (.t 3)), none⟩]
 [] [3])
 (.cond (.t 4)
 (.seq
 (.ops [⟨some 2, (.mv (.c .nils)), none⟩]
 [] [0, 4])
 .ret)
 .skip))
 (.seq
 (.ops [⟨some 5, (.buildSl true 1 (.int .i64 (0)) 0 []), none⟩,
 ⟨some 6, (.mv (.t 0)), none⟩,
 ⟨some 7, (.app true 1 8 (.t 5) (.t 6)), none⟩,
 ⟨some 2, (.mv (.t 7)), none⟩]
 [] [0, 4, 5, 6, 7])
 .ret)))⟩
def loc83 : List Nat := []
def fg83 : List (Nat × List Nat) := [(3, [0, 4, 5, 6, 7]), (2, [0, 4]), (1, [3]), (0, [2])]
theorem comp83 : compFn Try.prog loc83 (fun i => (fg83.lookup i).getD []) Try.f83 = some lit83 := by kernel_rfl

-- slices.Equal[[]int64,int64]
def lit84 : AFn := ⟨2, [.tmp 4],
 (.seq
 (.ops [⟨some 4, (.mv (.c (.bool false))), none⟩]
 [] [4])
 (.seq
 (.seq
 (.ops [⟨some 6, (.mv (.t 0)), none⟩,
 ⟨some 7, (.len (.t 6)), none⟩,
 ⟨some 8, (.mv (.t 1)), none⟩,
 ⟨some 9, (.len (.t 8)), none⟩,
 ⟨some 10, (.bin .neq (.t 7) (.t 9)), none⟩]
 [] [6, 7, 8, 9])
 (.cond (.t 10)
 (.seq
 (.ops [⟨some 4, (.mv (.c (.bool false))), none⟩]
 [] [0, 1, 10])
 .ret)
 .skip))
 (.seq
 (.seq
 (.ops [⟨some 11, (.mv (.t 0)), none⟩,
 ⟨some 12, (.len (.t 11)), none⟩,
 ⟨some 13, (.mv (.c (.int .i64 (0)))), none⟩]
 [] [10, 11])
 (.block 0
 (.loop
 (.seq
 (.ops [⟨some 14, (.bin .lss (.t 13) (.t 12)), none⟩]
 [] [])
 (.seq
 (.cond (.t 14)
 .skip
 (.exit 0))
 (.seq
 (.block 1
 (.seq
 (.ops [⟨some 15, (.mv (.t 13)), none⟩,
 ⟨some 5, (.mv (.t 15)), none⟩]
 [] [14, 15])
 (.seq
 (.ops [⟨some 16, (.mv (.t 0)), none⟩,
 ⟨some 17, (.mv (.t 5)), none⟩,
 ⟨some 18, (.iad 1 (.t 16) (.t 17)), none⟩,
 ⟨some 19, (.load false 1 (.t 18)), none⟩,
 ⟨some 20, (.mv (.t 1)), none⟩,
 ⟨some 21, (.mv (.t 5)), none⟩,
 ⟨some 22, (.iad 1 (.t 20) (.t 21)), none⟩,
 ⟨some 23, (.load false 1 (.t 22)), none⟩,
 ⟨some 24, (.bin .neq (.t 19) (.t 23)), none⟩]
 [(0, 1), (0, 4), (1, 4), (2, 4), (3, 4), (0, 5), (1, 5), (2, 5), (3, 5), (4, 5), (0, 6), (1, 6), (2, 6), (3, 6), (0, 7), (1, 7), (2, 7), (3, 7)] [5, 16, 17, 18, 19, 20, 21, 22, 23])
 (.cond (.t 24)
 (.seq
 (.ops [⟨some 4, (.mv (.c (.bool false))), none⟩]
 [] [0, 1, 12, 13, 24])
 .ret)
 .skip))))
 (.ops [⟨some 25, (.bin .add (.t 13) (.c (.int .i64 (1)))), none⟩,
 ⟨some 13, (.mv (.t 25)), none⟩]
 [] [24, 25])))))))
 (.seq
 (.ops [⟨some 4, (.mv (.c (.bool true))), none⟩]
 [] [0, 1, 12, 13, 14])
 .ret))))⟩
def loc84 : List Nat := []
def fg84 : List (Nat × List Nat) := [(9, [0, 1, 12, 13, 14]), (8, [24, 25]), (7, [0, 1, 12, 13, 24]), (6, [5, 16, 17, 18, 19, 20, 21, 22, 23]), (5, [14, 15]), (3, [10, 11]), (2, [0, 1, 10]), (1, [6, 7, 8, 9]), (0, [4])]
theorem comp84 : compFn Try.prog loc84 (fun i => (fg84.lookup i).getD []) Try.f84 = some lit84 := by kernel_rfl

-- parcener/ratio.size
def lit85 : AFn := ⟨1, [.tmp 2],
 (.seq
 (.ops [⟨some 2, (.mv (.c (.int .u64 (0)))), none⟩]
 [] [2])
 (.seq
 (.seq
 (.ops [⟨some 3, (.mv (.t 0)), none⟩,
 ⟨some 4, (.bin .lss (.t 3) (.c (.int .i64 (0)))), none⟩]
 [] [3])
 (.cond (.t 4)
 (.seq
 (.ops [⟨some 5, (.mv (.t 0)), none⟩,
 ⟨some 6, (.conv .u64 (.t 5)), none⟩,
 ⟨some 7, (.un .neg (.t 6)), none⟩,
 ⟨some 2, (.mv (.t 7)), none⟩]
 [] [0, 4, 5, 6, 7])
 .ret)
 .skip))
 (.seq
 (.ops [⟨some 8, (.mv (.t 0)), none⟩,
 ⟨some 9, (.conv .u64 (.t 8)), none⟩,
 ⟨some 2, (.mv (.t 9)), none⟩]
 [] [0, 4, 8, 9])
 .ret)))⟩
def loc85 : List Nat := []
def fg85 : List (Nat × List Nat) := [(3, [0, 4, 8, 9]), (2, [0, 4, 5, 6, 7]), (1, [3]), (0, [2])]
theorem comp85 : compFn Try.prog loc85 (fun i => (fg85.lookup i).getD []) Try.f85 = some lit85 := by kernel_rfl

-- parcener/ratio.gcd
def lit86 : AFn := ⟨2, [.tmp 4],
 (.seq
 (.ops [⟨some 4, (.mv (.c (.int .u64 (0)))), none⟩]
 [] [4])
 (.seq
 (.block 0
 (.loop
 (.seq
 (.seq
 (.ops [⟨some 5, (.mv (.t 1)), none⟩,
 ⟨some 6, (.bin .gtr (.t 5) (.c (.int .u64 (0)))), none⟩]
 [] [5])
 (.cond (.t 6)
 .skip
 (.exit 0)))
 (.block 1
 (.ops [⟨some 7, (.mv (.t 1)), none⟩,
 ⟨some 8, (.mv (.t 0)), none⟩,
 ⟨some 9, (.mv (.t 1)), none⟩,
 ⟨some 10, (.bin .rem (.t 8) (.t 9)), none⟩,
 ⟨some 0, (.mv (.t 7)), none⟩,
 ⟨some 1, (.mv (.t 10)), none⟩]
 [(0, 1), (0, 2), (1, 2), (0, 3), (2, 4), (3, 4)] [6, 7, 8, 9, 10])))))
 (.seq
 (.ops [⟨some 11, (.mv (.t 0)), none⟩,
 ⟨some 4, (.mv (.t 11)), none⟩]
 [] [0, 1, 6, 11])
 .ret)))⟩
def loc86 : List Nat := []
def fg86 : List (Nat × List Nat) := [(3, [0, 1, 6, 11]), (2, [6, 7, 8, 9, 10]), (1, [5]), (0, [4])]
theorem comp86 : compFn Try.prog loc86 (fun i => (fg86.lookup i).getD []) Try.f86 = some lit86 := by kernel_rfl

-- parcener/ratio.signed
def lit87 : AFn := ⟨3, [.cell 6 true 2, .tmp 7],
 (.seq
 (.ops [⟨some 6, (.allocL (.agg [(.int .i64 (0)), (.int .i64 (0))])), none⟩,
 ⟨some 7, (.mv (.c (.int .i64 (0)))), none⟩]
 [] [7])
 (.seq
 (.seq
 (.ops [⟨some 8, (.mv (.t 1)), none⟩,
 ⟨some 9, (.mv (.t 2)), none⟩,
 ⟨some 10, (.minmax true [(.t 8), (.t 9)]), none⟩,
 ⟨some 11, (.bin .gtr (.t 10) (.c (.int .u64 (1000000000000000000)))), none⟩]
 [] [8, 9, 10])
 (.cond (.t 11)
 (.seq
 (.ops [⟨some 12, (.build [(.int .i64 (0)), (.int .i64 (0))] []), none⟩,
 ⟨none, (.store 2 (.t 6) (.t 12)), none⟩,
 ⟨some 7, (.mv (.c (.int .i64 (16)))), none⟩]
 [] [0, 1, 2, 11, 12])
 .ret)
 .skip))
 (.seq
 (.seq
 (.ops [⟨some 13, (.mv (.t 0)), none⟩]
 [] [0, 11])
 (.cond (.t 13)
 (.seq
 (.ops [⟨some 14, (.mv (.t 1)), none⟩,
 ⟨some 15, (.conv .i64 (.t 14)), none⟩,
 ⟨some 16, (.un .neg (.t 15)), none⟩,
 ⟨some 17, (.mv (.t 2)), none⟩,
 ⟨some 18, (.conv .i64 (.t 17)), none⟩,
 ⟨some 19, (.build [(.int .i64 (0)), (.int .i64 (0))] [(0, 1, (.t 16)), (1, 1, (.t 18))]), none⟩,
 ⟨none, (.store 2 (.t 6) (.t 19)), none⟩,
 ⟨some 7, (.mv (.c (.int .i64 (0)))), none⟩]
 [] [1, 2, 13, 14, 15, 16, 17, 18, 19])
 .ret)
 .skip))
 (.seq
 (.ops [⟨some 20, (.mv (.t 1)), none⟩,
 ⟨some 21, (.conv .i64 (.t 20)), none⟩,
 ⟨some 22, (.mv (.t 2)), none⟩,
 ⟨some 23, (.conv .i64 (.t 22)), none⟩,
 ⟨some 24, (.build [(.int .i64 (0)), (.int .i64 (0))] [(0, 1, (.t 21)), (1, 1, (.t 23))]), none⟩,
 ⟨none, (.store 2 (.t 6) (.t 24)), none⟩,
 ⟨some 7, (.mv (.c (.int .i64 (0)))), none⟩]
 [] [1, 2, 13, 20, 21, 22, 23, 24])
 .ret))))⟩
def loc87 : List Nat := [6]
def fg87 : List (Nat × List Nat) := [(5, [1, 2, 13, 20, 21, 22, 23, 24]), (4, [1, 2, 13, 14, 15, 16, 17, 18, 19]), (3, [0, 11]), (2, [0, 1, 2, 11, 12]), (1, [8, 9, 10]), (0, [7])]
theorem comp87 : compFn Try.prog loc87 (fun i => (fg87.lookup i).getD []) Try.f87 = some lit87 := by kernel_rfl

-- parcener/ratio.Check
def lit91 : AFn := ⟨1, [.tmp 2],
 (.seq
 (.ops [⟨some 1, (.boxL (.t 0)), none⟩,
 ⟨some 2, (.mv (.c (.int .i64 (0)))), none⟩]
 [] [0, 2])
 (.seq
 (.seq
 (.ops [⟨some 3, (.fad 1 (.t 1)), none⟩,
 ⟨some 4, (.load false 1 (.t 3)), none⟩,
 ⟨some 5, (.bin .lss (.t 4) (.c (.int .i64 (1)))), none⟩,
 ⟨some 6, (.mv (.t 5)), none⟩,
 ⟨some 7, (.fad 0 (.t 1)), some (6, false)⟩,
 ⟨some 8, (.load false 1 (.t 7)), some (6, false)⟩,
 ⟨some 9, (.call (.f 85) [(.t 8)]), some (6, false)⟩,
 ⟨some 10, (.fad 1 (.t 1)), some (6, false)⟩,
 ⟨some 11, (.load false 1 (.t 10)), some (6, false)⟩,
 ⟨some 12, (.conv .u64 (.t 11)), some (6, false)⟩,
 ⟨some 13, (.minmax true [(.t 9), (.t 12)]), some (6, false)⟩,
 ⟨some 14, (.bin .gtr (.t 13) (.c (.int .u64 (1000000000000000000)))), some (6, false)⟩,
 ⟨some 15, (.pick (.t 6) (.c (.bool true)) (.t 14)), none⟩,
 ⟨some 16, (.mv (.t 15)), none⟩,
 ⟨some 17, (.fad 0 (.t 1)), some (16, false)⟩,
 ⟨some 18, (.load false 1 (.t 17)), some (16, false)⟩,
 ⟨some 19, (.call (.f 85) [(.t 18)]), some (16, false)⟩,
 ⟨some 20, (.fad 1 (.t 1)), some (16, false)⟩,
 ⟨some 21, (.load false 1 (.t 20)), some (16, false)⟩,
 ⟨some 22, (.conv .u64 (.t 21)), some (16, false)⟩,
 ⟨some 23, (.call (.f 86) [(.t 19), (.t 22)]), some (16, false)⟩,
 ⟨some 24, (.bin .gtr (.t 23) (.c (.int .u64 (1)))), some (16, false)⟩,
 ⟨some 25, (.pick (.t 16) (.c (.bool true)) (.t 24)), none⟩]
 [(4, 7), (5, 7), (6, 7), (4, 8), (5, 8), (6, 8), (4, 9), (5, 9), (6, 9), (14, 17), (15, 17), (16, 17), (14, 18), (15, 18), (16, 18), (14, 19), (15, 19), (16, 19)] [1, 3, 4, 5, 6, 7, 8, 9, 10, 11, 12, 13, 14, 15, 16, 17, 18, 19, 20, 21, 22, 23, 24])
 (.cond (.t 25)
 (.seq
 (.ops [⟨some 2, (.mv (.c (.int .i64 (8)))), none⟩]
 [] [25])
 .ret)
 .skip))
 (.seq
 (.ops [⟨some 2, (.mv (.c (.int .i64 (0)))), none⟩]
 [] [25])
 .ret)))⟩
def loc91 : List Nat := [1]
def fg91 : List (Nat × List Nat) := [(3, [25]), (2, [25]), (1, [1, 3, 4, 5, 6, 7, 8, 9, 10, 11, 12, 13, 14, 15, 16, 17, 18, 19, 20, 21, 22, 23, 24]), (0, [0, 2])]
theorem comp91 : compFn Try.prog loc91 (fun i => (fg91.lookup i).getD []) Try.f91 = some lit91 := by kernel_rfl

-- parcener/ratio.check
def lit92 : AFn := ⟨2, [.tmp 4],
 (.seq
 (.ops [⟨some 2, (.boxL (.t 0)), none⟩,
 ⟨some 3, (.boxL (.t 1)), none⟩,
 ⟨some 4, (.mv (.c (.int .i64 (0)))), none⟩]
 [] [0, 1, 4])
 (.seq
 (.ops [⟨some 5, (.load true 2 (.t 2)), none⟩,
 ⟨some 6, (.call (.f 91) [(.t 5)]), none⟩,
 ⟨some 7, (.load true 2 (.t 3)), none⟩,
 ⟨some 8, (.call (.f 91) [(.t 7)]), none⟩,
 ⟨some 9, (.buildD 1 (.int .i64 (0)) 2 [(0, (.t 6)), (1, (.t 8))]), none⟩,
 ⟨some 10, (.call (.f 111) [(.t 9)]), none⟩,
 ⟨some 4, (.mv (.t 10)), none⟩]
 [(0, 2), (1, 2)] [2, 3, 5, 6, 7, 8, 9, 10])
 .ret))⟩
def loc92 : List Nat := [9, 2, 3]
def fg92 : List (Nat × List Nat) := [(1, [2, 3, 5, 6, 7, 8, 9, 10]), (0, [0, 1, 4])]
theorem comp92 : compFn Try.prog loc92 (fun i => (fg92.lookup i).getD []) Try.f92 = some lit92 := by kernel_rfl

-- math/bits.Mul64
def lit93 : AFn := ⟨2, [.tmp 4, .tmp 5],
 (.seq
 (.ops [⟨some 4, (.mv (.c (.int .u64 (0)))), none⟩,
 ⟨some 5, (.mv (.c (.int .u64 (0)))), none⟩]
 [] [4, 5])
 (.seq
 (.ops [⟨some 14, (.mv (.t 0)), none⟩,
 ⟨some 15, (.bin .and (.t 14) (.c (.int .u64 (4294967295)))), none⟩,
 ⟨some 6, (.mv (.t 15)), none⟩]
 [] [14, 15])
 (.seq
 (.ops [⟨some 16, (.mv (.t 0)), none⟩,
 ⟨some 17, (.bin .shr (.t 16) (.c (.int .u64 (32)))), none⟩,
 ⟨some 7, (.mv (.t 17)), none⟩]
 [] [16, 17])
 (.seq
 (.ops [⟨some 18, (.mv (.t 1)), none⟩,
 ⟨some 19, (.bin .and (.t 18) (.c (.int .u64 (4294967295)))), none⟩,
 ⟨some 8, (.mv (.t 19)), none⟩]
 [] [18, 19])
 (.seq
 (.ops [⟨some 20, (.mv (.t 1)), none⟩,
 ⟨some 21, (.bin .shr (.t 20) (.c (.int .u64 (32)))), none⟩,
 ⟨some 9, (.mv (.t 21)), none⟩]
 [] [20, 21])
 (.seq
 (.ops [⟨some 22, (.mv (.t 6)), none⟩,
 ⟨some 23, (.mv (.t 8)), none⟩,
 ⟨some 24, (.bin .mul (.t 22) (.t 23)), none⟩,
 ⟨some 10, (.mv (.t 24)), none⟩]
 [] [22, 23, 24])
 (.seq
 (.ops [⟨some 25, (.mv (.t 7)), none⟩,
 ⟨some 26, (.mv (.t 8)), none⟩,
 ⟨some 27, (.bin .mul (.t 25) (.t 26)), none⟩,
 ⟨some 28, (.mv (.t 10)), none⟩,
 ⟨some 29, (.bin .shr (.t 28) (.c (.int .u64 (32)))), none⟩,
 ⟨some 30, (.bin .add (.t 27) (.t 29)), none⟩,
 ⟨some 11, (.mv (.t 30)), none⟩]
 [] [8, 10, 25, 26, 27, 28, 29, 30])
 (.seq
 (.ops [⟨some 31, (.mv (.t 11)), none⟩,
 ⟨some 32, (.bin .and (.t 31) (.c (.int .u64 (4294967295)))), none⟩,
 ⟨some 12, (.mv (.t 32)), none⟩]
 [] [31, 32])
 (.seq
 (.ops [⟨some 33, (.mv (.t 11)), none⟩,
 ⟨some 34, (.bin .shr (.t 33) (.c (.int .u64 (32)))), none⟩,
 ⟨some 13, (.mv (.t 34)), none⟩]
 [] [11, 33, 34])
 (.seq
 (.ops [⟨some 35, (.mv (.t 12)), none⟩,
 ⟨some 36, (.mv (.t 6)), none⟩,
 ⟨some 37, (.mv (.t 9)), none⟩,
 ⟨some 38, (.bin .mul (.t 36) (.t 37)), none⟩,
 ⟨some 39, (.bin .add (.t 35) (.t 38)), none⟩,
 ⟨some 12, (.mv (.t 39)), none⟩]
 [] [6, 35, 36, 37, 38, 39])
 (.seq
 (.ops [⟨some 40, (.mv (.t 7)), none⟩,
 ⟨some 41, (.mv (.t 9)), none⟩,
 ⟨some 42, (.bin .mul (.t 40) (.t 41)), none⟩,
 ⟨some 43, (.mv (.t 13)), none⟩,
 ⟨some 44, (.bin .add (.t 42) (.t 43)), none⟩,
 ⟨some 45, (.mv (.t 12)), none⟩,
 ⟨some 46, (.bin .shr (.t 45) (.c (.int .u64 (32)))), none⟩,
 ⟨some 47, (.bin .add (.t 44) (.t 46)), none⟩,
 ⟨some 4, (.mv (.t 47)), none⟩]
 [] [7, 9, 12, 13, 40, 41, 42, 43, 44, 45, 46, 47])
 (.seq
 (.ops [⟨some 48, (.mv (.t 0)), none⟩,
 ⟨some 49, (.mv (.t 1)), none⟩,
 ⟨some 50, (.bin .mul (.t 48) (.t 49)), none⟩,
 ⟨some 5, (.mv (.t 50)), none⟩]
 [] [0, 1, 48, 49, 50])
 .ret))))))))))))⟩
def loc93 : List Nat := []
def fg93 : List (Nat × List Nat) := [(11, [0, 1, 48, 49, 50]), (10, [7, 9, 12, 13, 40, 41, 42, 43, 44, 45, 46, 47]), (9, [6, 35, 36, 37, 38, 39]), (8, [11, 33, 34]), (7, [31, 32]), (6, [8, 10, 25, 26, 27, 28, 29, 30]), (5, [22, 23, 24]), (4, [20, 21]), (3, [18, 19]), (2, [16, 17]), (1, [14, 15]), (0, [4, 5])]
theorem comp93 : compFn Try.prog loc93 (fun i => (fg93.lookup i).getD []) Try.f93 = some lit93 := by kernel_rfl

-- math/bits.Rem64
def lit96 : AFn := ⟨3, [.tmp 6],
 (.seq
 (.ops [⟨some 6, (.mv (.c (.int .u64 (0)))), none⟩]
 [] [6])
 (.seq
 (.ops [⟨some 10, (.mv (.t 0)), none⟩,
 ⟨some 11, (.mv (.t 2)), none⟩,
 ⟨some 12, (.bin .rem (.t 10) (.t 11)), none⟩,
 ⟨some 13, (.mv (.t 1)), none⟩,
 ⟨some 14, (.mv (.t 2)), none⟩,
 ⟨some 15, (.call (.f 97) [(.t 12), (.t 13), (.t 14)]), none⟩,
 ⟨some 9, (.mv (.t 15)), none⟩,
 ⟨some 16, (.ext (.t 9) 0), none⟩,
 ⟨some 17, (.ext (.t 9) 1), none⟩,
 ⟨some 7, (.mv (.t 16)), none⟩,
 ⟨some 8, (.mv (.t 17)), none⟩]
 [] [0, 1, 2, 7, 9, 10, 11, 12, 13, 14, 15, 16, 17])
 (.seq
 (.ops [⟨some 18, (.mv (.t 8)), none⟩,
 ⟨some 6, (.mv (.t 18)), none⟩]
 [] [8, 18])
 .ret)))⟩
def loc96 : List Nat := []
def fg96 : List (Nat × List Nat) := [(2, [8, 18]), (1, [0, 1, 2, 7, 9, 10, 11, 12, 13, 14, 15, 16, 17]), (0, [6])]
theorem comp96 : compFn Try.prog loc96 (fun i => (fg96.lookup i).getD []) Try.f96 = some lit96 := by kernel_rfl

def tab0 : List (Nat × AFn) := [(7, lit7), (11, lit11), (12, lit12), (15, lit15), (22, lit22), (26, lit26), (27, lit27), (29, lit29), (32, lit32), (33, lit33), (34, lit34), (41, lit41), (42, lit42), (47, lit47), (48, lit48), (49, lit49), (58, lit58), (59, lit59), (60, lit60), (61, lit61), (76, lit76), (77, lit77), (78, lit78), (79, lit79), (80, lit80), (81, lit81), (82, lit82), (83, lit83), (84, lit84), (85, lit85), (86, lit86), (87, lit87), (91, lit91), (92, lit92), (93, lit93), (96, lit96)]
theorem tabOk0 : AllOk Try.prog tab0 := ⟨⟨_, _, _, Try.func7, comp7⟩, ⟨_, _, _, Try.func11, comp11⟩, ⟨_, _, _, Try.func12, comp12⟩, ⟨_, _, _, Try.func15, comp15⟩, ⟨_, _, _, Try.func22, comp22⟩, ⟨_, _, _, Try.func26, comp26⟩, ⟨_, _, _, Try.func27, comp27⟩, ⟨_, _, _, Try.func29, comp29⟩, ⟨_, _, _, Try.func32, comp32⟩, ⟨_, _, _, Try.func33, comp33⟩, ⟨_, _, _, Try.func34, comp34⟩, ⟨_, _, _, Try.func41, comp41⟩, ⟨_, _, _, Try.func42, comp42⟩, ⟨_, _, _, Try.func47, comp47⟩, ⟨_, _, _, Try.func48, comp48⟩, ⟨_, _, _, Try.func49, comp49⟩, ⟨_, _, _, Try.func58, comp58⟩, ⟨_, _, _, Try.func59, comp59⟩, ⟨_, _, _, Try.func60, comp60⟩, ⟨_, _, _, Try.func61, comp61⟩, ⟨_, _, _, Try.func76, comp76⟩, ⟨_, _, _, Try.func77, comp77⟩, ⟨_, _, _, Try.func78, comp78⟩, ⟨_, _, _, Try.func79, comp79⟩, ⟨_, _, _, Try.func80, comp80⟩, ⟨_, _, _, Try.func81, comp81⟩, ⟨_, _, _, Try.func82, comp82⟩, ⟨_, _, _, Try.func83, comp83⟩, ⟨_, _, _, Try.func84, comp84⟩, ⟨_, _, _, Try.func85, comp85⟩, ⟨_, _, _, Try.func86, comp86⟩, ⟨_, _, _, Try.func87, comp87⟩, ⟨_, _, _, Try.func91, comp91⟩, ⟨_, _, _, Try.func92, comp92⟩, ⟨_, _, _, Try.func93, comp93⟩, ⟨_, _, _, Try.func96, comp96⟩, trivial⟩
end Go.Proofs.Ytdikcadindibcaa.An
