/- The functions that the statement ChooseNames runs, in the small code (part 0); each is what the framework makes of the program. -/
import Derived.Test.YtfkfmlifhdcolaaDoorFw34
import Derived.Test.YtfkfmlifhdcolaaDoorRows
namespace Go.Proofs.YtfkfmlifhdcolaaDoor.Cn
open Go Go.Pf
-- parcener/parcenerlaw07.ChooseNames
def lit3 : AFn := ⟨0, [.tmp 0],
 (.seq
 (.ops [⟨some 0, (.mv (.c (.bool false))), none⟩]
 [] [0])
 (.seq
 (.ops [⟨some 34, (.call (.f 5) []), none⟩,
 ⟨some 35, (.call (.f 4) [(.t 34), (.c (.int .i64 (1)))]), none⟩,
 ⟨some 33, (.mv (.t 35)), none⟩,
 ⟨some 36, (.ext (.t 33) 0), none⟩,
 ⟨some 37, (.ext (.t 33) 1), none⟩,
 ⟨some 1, (.allocL (.agg [.nils, .nils, (.int .i64 (0)), (.int .i64 (0)), (.int .i64 (0)), (.int .i64 (0)), (.bool false)])), none⟩,
 ⟨none, (.store 7 (.t 1) (.t 36)), none⟩,
 ⟨some 2, (.mv (.t 37)), none⟩]
 [] [33, 34, 35, 36, 37])
 (.seq
 (.ops [⟨some 39, (.load true 7 (.t 1)), none⟩,
 ⟨some 40, (.call (.f 6) [(.t 39)]), none⟩,
 ⟨some 38, (.mv (.t 40)), none⟩,
 ⟨some 41, (.ext (.t 38) 0), none⟩,
 ⟨some 42, (.ext (.t 38) 1), none⟩,
 ⟨some 3, (.allocL (.agg [.nils])), none⟩,
 ⟨none, (.store 1 (.t 3) (.t 41)), none⟩,
 ⟨some 4, (.mv (.t 42)), none⟩]
 [] [3, 38, 39, 40, 41, 42])
 (.seq
 (.ops [⟨some 44, (.load true 7 (.t 1)), none⟩,
 ⟨some 45, (.call (.f 7) [(.t 44)]), none⟩,
 ⟨some 43, (.mv (.t 45)), none⟩,
 ⟨some 46, (.ext (.t 43) 0), none⟩,
 ⟨some 47, (.ext (.t 43) 1), none⟩,
 ⟨some 5, (.allocL (.agg [.nils, .nils, (.int .i64 (0)), (.int .i64 (0)), (.int .i64 (0)), (.int .i64 (0)), (.bool false)])), none⟩,
 ⟨none, (.store 7 (.t 5) (.t 46)), none⟩,
 ⟨some 6, (.mv (.t 47)), none⟩]
 [] [43, 44, 45, 46, 47])
 (.seq
 (.ops [⟨some 49, (.load true 7 (.t 5)), none⟩,
 ⟨some 50, (.call (.f 6) [(.t 49)]), none⟩,
 ⟨some 48, (.mv (.t 50)), none⟩,
 ⟨some 51, (.ext (.t 48) 0), none⟩,
 ⟨some 52, (.ext (.t 48) 1), none⟩,
 ⟨some 7, (.allocL (.agg [.nils])), none⟩,
 ⟨none, (.store 1 (.t 7) (.t 51)), none⟩,
 ⟨some 8, (.mv (.t 52)), none⟩]
 [] [7, 48, 49, 50, 51, 52])
 (.seq
 (.ops [⟨some 54, (.load true 7 (.t 5)), none⟩,
 ⟨some 55, (.call (.f 7) [(.t 54)]), none⟩,
 ⟨some 53, (.mv (.t 55)), none⟩,
 ⟨some 56, (.ext (.t 53) 0), none⟩,
 ⟨some 57, (.ext (.t 53) 1), none⟩,
 ⟨some 9, (.allocL (.agg [.nils, .nils, (.int .i64 (0)), (.int .i64 (0)), (.int .i64 (0)), (.int .i64 (0)), (.bool false)])), none⟩,
 ⟨none, (.store 7 (.t 9) (.t 56)), none⟩,
 ⟨some 10, (.mv (.t 57)), none⟩]
 [] [53, 54, 55, 56, 57])
 (.seq
 (.ops [⟨some 59, (.load true 7 (.t 9)), none⟩,
 ⟨some 60, (.call (.f 7) [(.t 59)]), none⟩,
 ⟨some 58, (.mv (.t 60)), none⟩,
 ⟨some 61, (.ext (.t 58) 0), none⟩,
 ⟨some 62, (.ext (.t 58) 1), none⟩,
 ⟨some 11, (.allocL (.agg [.nils, .nils, (.int .i64 (0)), (.int .i64 (0)), (.int .i64 (0)), (.int .i64 (0)), (.bool false)])), none⟩,
 ⟨none, (.store 7 (.t 11) (.t 61)), none⟩,
 ⟨some 12, (.mv (.t 62)), none⟩]
 [] [11, 58, 59, 60, 61, 62])
 (.seq
 (.ops [⟨some 64, (.load true 7 (.t 9)), none⟩,
 ⟨some 65, (.call (.f 6) [(.t 64)]), none⟩,
 ⟨some 63, (.mv (.t 65)), none⟩,
 ⟨some 66, (.ext (.t 63) 0), none⟩,
 ⟨some 67, (.ext (.t 63) 1), none⟩,
 ⟨some 13, (.allocL (.agg [.nils])), none⟩,
 ⟨none, (.store 1 (.t 13) (.t 66)), none⟩,
 ⟨some 14, (.mv (.t 67)), none⟩]
 [] [63, 64, 65, 66, 67])
 (.seq
 (.ops [⟨some 68, (.mv (.t 2)), none⟩,
 ⟨some 69, (.bin .eql (.t 68) (.c (.int .i64 (0)))), none⟩,
 ⟨some 70, (.mv (.t 69)), none⟩,
 ⟨some 71, (.fad 3 (.t 1)), some (70, true)⟩,
 ⟨some 72, (.load false 1 (.t 71)), some (70, true)⟩,
 ⟨some 73, (.bin .eql (.t 72) (.c (.int .i64 (0)))), some (70, true)⟩,
 ⟨some 74, (.pick (.t 70) (.t 73) (.c (.bool false))), none⟩,
 ⟨some 75, (.mv (.t 74)), none⟩,
 ⟨some 76, (.fad 0 (.t 1)), some (75, true)⟩,
 ⟨some 77, (.fad 1 (.t 76)), some (75, true)⟩,
 ⟨some 78, (.load false 1 (.t 77)), some (75, true)⟩,
 ⟨some 79, (.len (.t 78)), some (75, true)⟩,
 ⟨some 80, (.bin .eql (.t 79) (.c (.int .i64 (0)))), some (75, true)⟩,
 ⟨some 81, (.pick (.t 75) (.t 80) (.c (.bool false))), none⟩,
 ⟨some 82, (.mv (.t 81)), none⟩,
 ⟨some 83, (.mv (.t 4)), some (82, true)⟩,
 ⟨some 84, (.bin .eql (.t 83) (.c (.int .i64 (36)))), some (82, true)⟩,
 ⟨some 85, (.pick (.t 82) (.t 84) (.c (.bool false))), none⟩,
 ⟨some 86, (.mv (.t 85)), none⟩,
 ⟨some 87, (.mv (.t 6)), some (86, true)⟩,
 ⟨some 88, (.bin .eql (.t 87) (.c (.int .i64 (0)))), some (86, true)⟩,
 ⟨some 89, (.pick (.t 86) (.t 88) (.c (.bool false))), none⟩,
 ⟨some 90, (.mv (.t 89)), none⟩,
 ⟨some 91, (.fad 3 (.t 5)), some (90, true)⟩,
 ⟨some 92, (.load false 1 (.t 91)), some (90, true)⟩,
 ⟨some 93, (.bin .eql (.t 92) (.c (.int .i64 (1)))), some (90, true)⟩,
 ⟨some 94, (.pick (.t 90) (.t 93) (.c (.bool false))), none⟩,
 ⟨some 95, (.mv (.t 94)), none⟩,
 ⟨some 96, (.fad 4 (.t 5)), some (95, true)⟩,
 ⟨some 97, (.load true 2 (.t 96)), some (95, true)⟩,
 ⟨some 98, (.build [(.int .i64 (0)), (.int .i64 (0))] [(0, 1, (.c (.int .i64 (2)))), (1, 1, (.c (.int .i64 (3))))]), some (95, true)⟩,
 ⟨some 99, (.eqA false 2 [(0, (some .i64)), (1, (some .i64))] (.t 97) (.t 98)), some (95, true)⟩,
 ⟨some 100, (.pick (.t 95) (.t 99) (.c (.bool false))), none⟩,
 ⟨some 101, (.mv (.t 100)), none⟩,
 ⟨some 102, (.fad 0 (.t 5)), some (101, true)⟩,
 ⟨some 103, (.fad 1 (.t 102)), some (101, true)⟩,
 ⟨some 104, (.load false 1 (.t 103)), some (101, true)⟩,
 ⟨some 105, (.len (.t 104)), some (101, true)⟩,
 ⟨some 106, (.bin .eql (.t 105) (.c (.int .i64 (1)))), some (101, true)⟩,
 ⟨some 107, (.pick (.t 101) (.t 106) (.c (.bool false))), none⟩,
 ⟨some 108, (.mv (.t 107)), none⟩,
 ⟨some 109, (.mv (.t 8)), some (108, true)⟩,
 ⟨some 110, (.bin .eql (.t 109) (.c (.int .i64 (36)))), some (108, true)⟩,
 ⟨some 111, (.pick (.t 108) (.t 110) (.c (.bool false))), none⟩,
 ⟨some 112, (.mv (.t 111)), none⟩,
 ⟨some 113, (.mv (.t 10)), some (112, true)⟩,
 ⟨some 114, (.bin .eql (.t 113) (.c (.int .i64 (0)))), some (112, true)⟩,
 ⟨some 115, (.pick (.t 112) (.t 114) (.c (.bool false))), none⟩,
 ⟨some 116, (.mv (.t 115)), none⟩,
 ⟨some 117, (.fad 3 (.t 9)), some (116, true)⟩,
 ⟨some 118, (.load false 1 (.t 117)), some (116, true)⟩,
 ⟨some 119, (.bin .eql (.t 118) (.c (.int .i64 (2)))), some (116, true)⟩,
 ⟨some 120, (.pick (.t 116) (.t 119) (.c (.bool false))), none⟩,
 ⟨some 121, (.mv (.t 120)), none⟩,
 ⟨some 122, (.fad 6 (.t 9)), some (121, true)⟩,
 ⟨some 123, (.load false 1 (.t 122)), some (121, true)⟩,
 ⟨some 124, (.un .not (.t 123)), some (121, true)⟩,
 ⟨some 125, (.pick (.t 121) (.t 124) (.c (.bool false))), none⟩,
 ⟨some 126, (.mv (.t 125)), none⟩,
 ⟨some 127, (.fad 0 (.t 9)), some (126, true)⟩,
 ⟨some 128, (.fad 1 (.t 127)), some (126, true)⟩,
 ⟨some 129, (.load false 1 (.t 128)), some (126, true)⟩,
 ⟨some 130, (.len (.t 129)), some (126, true)⟩,
 ⟨some 131, (.bin .eql (.t 130) (.c (.int .i64 (2)))), some (126, true)⟩,
 ⟨some 132, (.pick (.t 126) (.t 131) (.c (.bool false))), none⟩,
 ⟨some 133, (.mv (.t 132)), none⟩,
 ⟨some 134, (.mv (.t 12)), some (133, true)⟩,
 ⟨some 135, (.bin .eql (.t 134) (.c (.int .i64 (36)))), some (133, true)⟩,
 ⟨some 136, (.pick (.t 133) (.t 135) (.c (.bool false))), none⟩,
 ⟨some 137, (.mv (.t 136)), none⟩,
 ⟨some 138, (.mv (.t 14)), some (137, true)⟩,
 ⟨some 139, (.bin .eql (.t 138) (.c (.int .i64 (0)))), some (137, true)⟩,
 ⟨some 140, (.pick (.t 137) (.t 139) (.c (.bool false))), none⟩,
 ⟨some 141, (.mv (.t 140)), none⟩,
 ⟨some 142, (.fad 0 (.t 13)), some (141, true)⟩,
 ⟨some 143, (.load false 1 (.t 142)), some (141, true)⟩,
 ⟨some 144, (.len (.t 143)), some (141, true)⟩,
 ⟨some 145, (.bin .eql (.t 144) (.c (.int .i64 (2)))), some (141, true)⟩,
 ⟨some 146, (.pick (.t 141) (.t 145) (.c (.bool false))), none⟩,
 ⟨some 15, (.mv (.t 146)), none⟩]
 [] [1, 2, 4, 5, 6, 8, 10, 12, 13, 14, 68, 69, 70, 71, 72, 73, 74, 75, 76, 77, 78, 79, 80, 81, 82, 83, 84, 85, 86, 87, 88, 89, 90, 91, 92, 93, 94, 95, 96, 97, 98, 99, 100, 101, 102, 103, 104, 105, 106, 107, 108, 109, 110, 111, 112, 113, 114, 115, 116, 117, 118, 119, 120, 121, 122, 123, 124, 125, 126, 127, 128, 129, 130, 131, 132, 133, 134, 135, 136, 137, 138, 139, 140, 141, 142, 143, 144, 145, 146])
 (.seq
 (.ops [⟨some 147, (.call (.f 5) []), none⟩,
 ⟨some 148, (.iad 3 (.t 147) (.c (.int .i64 (0)))), none⟩,
 ⟨some 149, (.load true 3 (.t 148)), none⟩,
 ⟨some 150, (.call (.f 5) []), none⟩,
 ⟨some 151, (.iad 3 (.t 150) (.c (.int .i64 (0)))), none⟩,
 ⟨some 152, (.load true 3 (.t 151)), none⟩,
 ⟨some 153, (.buildD 3 (.agg [(.int .i64 (0)), (.data []), (.data [])]) 2 [(0, (.t 149)), (1, (.t 152))]), none⟩,
 ⟨some 16, (.mv (.t 153)), none⟩]
 [(1, 3), (2, 3), (1, 4), (2, 4), (1, 5), (2, 5)] [147, 148, 149, 150, 151, 152, 153])
 (.seq
 (.ops [⟨some 155, (.mv (.t 16)), none⟩,
 ⟨some 156, (.call (.f 8) [(.t 155), (.c (.int .i64 (1)))]), none⟩,
 ⟨some 154, (.mv (.t 156)), none⟩,
 ⟨some 157, (.ext (.t 154) 0), none⟩,
 ⟨some 158, (.ext (.t 154) 1), none⟩,
 ⟨some 159, (.ext (.t 154) 2), none⟩,
 ⟨some 17, (.allocL (.agg [.nils])), none⟩,
 ⟨none, (.store 1 (.t 17) (.t 157)), none⟩,
 ⟨some 18, (.mv (.t 158)), none⟩,
 ⟨some 19, (.mv (.t 159)), none⟩]
 [] [16, 18, 154, 155, 156, 157, 158, 159])
 (.seq
 (.ops [⟨some 160, (.load true 7 (.t 9)), none⟩,
 ⟨some 161, (.load true 7 (.t 9)), none⟩,
 ⟨some 20, (.allocL (.agg [.nils, .nils, (.int .i64 (0)), (.int .i64 (0)), (.int .i64 (0)), (.int .i64 (0)), (.bool false)])), none⟩,
 ⟨some 21, (.allocL (.agg [.nils, .nils, (.int .i64 (0)), (.int .i64 (0)), (.int .i64 (0)), (.int .i64 (0)), (.bool false)])), none⟩,
 ⟨none, (.store 7 (.t 20) (.t 160)), none⟩,
 ⟨none, (.store 7 (.t 21) (.t 161)), none⟩]
 [(0, 1), (0, 2), (1, 2), (0, 3), (1, 3), (2, 3), (1, 4)] [160, 161])
 (.seq
 (.ops [⟨some 162, (.fad 6 (.t 20)), none⟩,
 ⟨none, (.store 1 (.t 162) (.c (.bool true))), none⟩,
 ⟨some 163, (.fad 3 (.t 21)), none⟩,
 ⟨none, (.store 1 (.t 163) (.c (.int .i64 (1)))), none⟩]
 [] [162, 163])
 (.seq
 (.ops [⟨some 164, (.load true 7 (.t 9)), none⟩,
 ⟨some 22, (.allocL (.agg [.nils, .nils, (.int .i64 (0)), (.int .i64 (0)), (.int .i64 (0)), (.int .i64 (0)), (.bool false)])), none⟩,
 ⟨none, (.store 7 (.t 22) (.t 164)), none⟩]
 [] [9, 164])
 (.seq
 (.ops [⟨some 165, (.fad 0 (.t 22)), none⟩,
 ⟨some 166, (.fad 1 (.t 165)), none⟩,
 ⟨none, (.store 1 (.t 166) (.c .nils)), none⟩]
 [] [165, 166])
 (.seq
 (.ops [⟨some 168, (.call (.f 5) []), none⟩,
 ⟨some 169, (.slc 3 (.t 168) none (some (.c (.int .i64 (1)))) none), none⟩,
 ⟨some 170, (.call (.f 4) [(.t 169), (.c (.int .i64 (0)))]), none⟩,
 ⟨some 167, (.mv (.t 170)), none⟩,
 ⟨some 171, (.ext (.t 167) 0), none⟩,
 ⟨some 172, (.ext (.t 167) 1), none⟩,
 ⟨some 23, (.allocL (.agg [.nils, .nils, (.int .i64 (0)), (.int .i64 (0)), (.int .i64 (0)), (.int .i64 (0)), (.bool false)])), none⟩,
 ⟨none, (.store 7 (.t 23) (.t 171)), none⟩,
 ⟨some 24, (.mv (.t 172)), none⟩]
 [] [23, 167, 168, 169, 170, 171, 172])
 (.seq
 (.ops [⟨some 174, (.call (.f 5) []), none⟩,
 ⟨some 175, (.call (.f 4) [(.t 174), (.c (.int .i64 (2)))]), none⟩,
 ⟨some 173, (.mv (.t 175)), none⟩,
 ⟨some 176, (.ext (.t 173) 0), none⟩,
 ⟨some 177, (.ext (.t 173) 1), none⟩,
 ⟨some 25, (.allocL (.agg [.nils, .nils, (.int .i64 (0)), (.int .i64 (0)), (.int .i64 (0)), (.int .i64 (0)), (.bool false)])), none⟩,
 ⟨none, (.store 7 (.t 25) (.t 176)), none⟩,
 ⟨some 26, (.mv (.t 177)), none⟩]
 [] [25, 173, 174, 175, 176, 177])
 (.seq
 (.ops [⟨some 179, (.build [(.int .i64 (0)), .nils, .nils] []), none⟩,
 ⟨some 180, (.build [(.int .i64 (0)), .nils, .nils] []), none⟩,
 ⟨some 181, (.buildD 3 (.agg [(.int .i64 (0)), (.data []), (.data [])]) 2 [(0, (.t 179)), (1, (.t 180))]), none⟩,
 ⟨some 182, (.call (.f 4) [(.t 181), (.c (.int .i64 (5)))]), none⟩,
 ⟨some 178, (.mv (.t 182)), none⟩,
 ⟨some 183, (.ext (.t 178) 0), none⟩,
 ⟨some 184, (.ext (.t 178) 1), none⟩,
 ⟨some 27, (.allocL (.agg [.nils, .nils, (.int .i64 (0)), (.int .i64 (0)), (.int .i64 (0)), (.int .i64 (0)), (.bool false)])), none⟩,
 ⟨none, (.store 7 (.t 27) (.t 183)), none⟩,
 ⟨some 28, (.mv (.t 184)), none⟩]
 [] [27, 178, 179, 180, 181, 182, 183, 184])
 (.seq
 (.ops [⟨some 186, (.call (.f 8) [(.c .nils), (.c (.int .i64 (0)))]), none⟩,
 ⟨some 185, (.mv (.t 186)), none⟩,
 ⟨some 187, (.ext (.t 185) 0), none⟩,
 ⟨some 188, (.ext (.t 185) 1), none⟩,
 ⟨some 189, (.ext (.t 185) 2), none⟩,
 ⟨some 29, (.allocL (.agg [.nils])), none⟩,
 ⟨none, (.store 1 (.t 29) (.t 187)), none⟩,
 ⟨some 30, (.mv (.t 188)), none⟩,
 ⟨some 31, (.mv (.t 189)), none⟩]
 [] [29, 30, 185, 186, 187, 188, 189])
 (.seq
 (.ops [⟨some 190, (.load true 7 (.t 20)), none⟩,
 ⟨some 191, (.call (.f 9) [(.t 190)]), none⟩,
 ⟨some 192, (.bin .eql (.t 191) (.c (.int .i64 (8)))), none⟩,
 ⟨some 193, (.mv (.t 192)), none⟩,
 ⟨some 194, (.load true 7 (.t 21)), some (193, true)⟩,
 ⟨some 195, (.call (.f 9) [(.t 194)]), some (193, true)⟩,
 ⟨some 196, (.bin .eql (.t 195) (.c (.int .i64 (8)))), some (193, true)⟩,
 ⟨some 197, (.pick (.t 193) (.t 196) (.c (.bool false))), none⟩,
 ⟨some 198, (.mv (.t 197)), none⟩,
 ⟨some 199, (.load true 7 (.t 22)), some (198, true)⟩,
 ⟨some 200, (.call (.f 9) [(.t 199)]), some (198, true)⟩,
 ⟨some 201, (.bin .eql (.t 200) (.c (.int .i64 (8)))), some (198, true)⟩,
 ⟨some 202, (.pick (.t 198) (.t 201) (.c (.bool false))), none⟩,
 ⟨some 203, (.mv (.t 202)), none⟩,
 ⟨some 204, (.build [.nils, .nils, (.int .i64 (0)), (.int .i64 (0)), (.int .i64 (0)), (.int .i64 (0)), (.bool false)] []), some (203, true)⟩,
 ⟨some 205, (.call (.f 9) [(.t 204)]), some (203, true)⟩,
 ⟨some 206, (.bin .eql (.t 205) (.c (.int .i64 (8)))), some (203, true)⟩,
 ⟨some 207, (.pick (.t 203) (.t 206) (.c (.bool false))), none⟩,
 ⟨some 208, (.mv (.t 207)), none⟩,
 ⟨some 209, (.call (.f 5) []), some (208, true)⟩,
 ⟨some 210, (.build [.nils, .nils] [(0, 1, (.t 209))]), some (208, true)⟩,
 ⟨some 211, (.build [.nils, .nils, (.int .i64 (0)), (.int .i64 (0)), (.int .i64 (0)), (.int .i64 (0)), (.bool false)] [(0, 2, (.t 210)), (2, 1, (.c (.int .i64 (-1))))]), some (208, true)⟩,
 ⟨some 212, (.call (.f 9) [(.t 211)]), some (208, true)⟩,
 ⟨some 213, (.bin .eql (.t 212) (.c (.int .i64 (2)))), some (208, true)⟩,
 ⟨some 214, (.pick (.t 208) (.t 213) (.c (.bool false))), none⟩,
 ⟨some 215, (.mv (.t 214)), none⟩,
 ⟨some 216, (.call (.f 5) []), some (215, true)⟩,
 ⟨some 217, (.build [.nils, .nils] [(0, 1, (.t 216))]), some (215, true)⟩,
 ⟨some 218, (.call (.f 10) [(.c (.int .i64 (0)))]), some (215, true)⟩,
 ⟨some 219, (.build [.nils, .nils, (.int .i64 (0)), (.int .i64 (0)), (.int .i64 (0)), (.int .i64 (0)), (.bool false)] [(0, 2, (.t 217)), (3, 1, (.c (.int .i64 (3)))), (4, 2, (.t 218))]), some (215, true)⟩,
 ⟨some 220, (.call (.f 9) [(.t 219)]), some (215, true)⟩,
 ⟨some 221, (.bin .eql (.t 220) (.c (.int .i64 (8)))), some (215, true)⟩,
 ⟨some 222, (.pick (.t 215) (.t 221) (.c (.bool false))), none⟩,
 ⟨some 223, (.mv (.t 222)), none⟩,
 ⟨some 224, (.mv (.t 24)), some (223, true)⟩,
 ⟨some 225, (.bin .eql (.t 224) (.c (.int .i64 (2)))), some (223, true)⟩,
 ⟨some 226, (.pick (.t 223) (.t 225) (.c (.bool false))), none⟩,
 ⟨some 227, (.mv (.t 226)), none⟩,
 ⟨some 228, (.mv (.t 26)), some (227, true)⟩,
 ⟨some 229, (.bin .eql (.t 228) (.c (.int .i64 (2)))), some (227, true)⟩,
 ⟨some 230, (.pick (.t 227) (.t 229) (.c (.bool false))), none⟩,
 ⟨some 231, (.mv (.t 230)), none⟩,
 ⟨some 232, (.mv (.t 28)), some (231, true)⟩,
 ⟨some 233, (.bin .eql (.t 232) (.c (.int .i64 (8)))), some (231, true)⟩,
 ⟨some 234, (.pick (.t 231) (.t 233) (.c (.bool false))), none⟩,
 ⟨some 235, (.mv (.t 234)), none⟩,
 ⟨some 236, (.mv (.t 31)), some (235, true)⟩,
 ⟨some 237, (.bin .eql (.t 236) (.c (.int .i64 (8)))), some (235, true)⟩,
 ⟨some 238, (.pick (.t 235) (.t 237) (.c (.bool false))), none⟩,
 ⟨some 32, (.mv (.t 238)), none⟩]
 [] [20, 21, 22, 24, 26, 28, 31, 190, 191, 192, 193, 194, 195, 196, 197, 198, 199, 200, 201, 202, 203, 204, 205, 206, 207, 208, 209, 210, 211, 212, 213, 214, 215, 216, 217, 218, 219, 220, 221, 222, 223, 224, 225, 226, 227, 228, 229, 230, 231, 232, 233, 234, 235, 236, 237, 238])
 (.seq
 (.ops [⟨some 239, (.mv (.t 15)), none⟩,
 ⟨some 240, (.mv (.t 239)), none⟩,
 ⟨some 241, (.mv (.t 19)), some (240, true)⟩,
 ⟨some 242, (.bin .eql (.t 241) (.c (.int .i64 (0)))), some (240, true)⟩,
 ⟨some 243, (.pick (.t 240) (.t 242) (.c (.bool false))), none⟩,
 ⟨some 244, (.mv (.t 243)), none⟩,
 ⟨some 245, (.fad 0 (.t 17)), some (244, true)⟩,
 ⟨some 246, (.load false 1 (.t 245)), some (244, true)⟩,
 ⟨some 247, (.len (.t 246)), some (244, true)⟩,
 ⟨some 248, (.bin .eql (.t 247) (.c (.int .i64 (2)))), some (244, true)⟩,
 ⟨some 249, (.pick (.t 244) (.t 248) (.c (.bool false))), none⟩,
 ⟨some 250, (.mv (.t 249)), none⟩,
 ⟨some 251, (.fad 0 (.t 17)), some (250, true)⟩,
 ⟨some 252, (.load false 1 (.t 251)), some (250, true)⟩,
 ⟨some 253, (.iad 1 (.t 252) (.c (.int .i64 (0)))), some (250, true)⟩,
 ⟨some 254, (.load false 1 (.t 253)), some (250, true)⟩,
 ⟨some 255, (.len (.t 254)), some (250, true)⟩,
 ⟨some 256, (.bin .eql (.t 255) (.c (.int .i64 (1)))), some (250, true)⟩,
 ⟨some 257, (.pick (.t 250) (.t 256) (.c (.bool false))), none⟩,
 ⟨some 258, (.mv (.t 257)), none⟩,
 ⟨some 259, (.fad 0 (.t 17)), some (258, true)⟩,
 ⟨some 260, (.load false 1 (.t 259)), some (258, true)⟩,
 ⟨some 261, (.iad 1 (.t 260) (.c (.int .i64 (0)))), some (258, true)⟩,
 ⟨some 262, (.load false 1 (.t 261)), some (258, true)⟩,
 ⟨some 263, (.iad 4 (.t 262) (.c (.int .i64 (0)))), some (258, true)⟩,
 ⟨some 264, (.fad 0 (.t 263)), some (258, true)⟩,
 ⟨some 265, (.fad 0 (.t 264)), some (258, true)⟩,
 ⟨some 266, (.load false 1 (.t 265)), some (258, true)⟩,
 ⟨some 267, (.bin .eql (.t 266) (.c (.int .i64 (0)))), some (258, true)⟩,
 ⟨some 268, (.pick (.t 258) (.t 267) (.c (.bool false))), none⟩,
 ⟨some 269, (.mv (.t 268)), none⟩,
 ⟨some 270, (.mv (.t 32)), some (269, true)⟩,
 ⟨some 271, (.pick (.t 269) (.t 270) (.c (.bool false))), none⟩,
 ⟨some 272, (.mv (.t 271)), none⟩,
 ⟨some 273, (.call (.f 11) []), some (272, true)⟩,
 ⟨some 274, (.pick (.t 272) (.t 273) (.c (.bool false))), none⟩,
 ⟨some 0, (.mv (.t 274)), none⟩]
 [] [15, 17, 19, 32, 239, 240, 241, 242, 243, 244, 245, 246, 247, 248, 249, 250, 251, 252, 253, 254, 255, 256, 257, 258, 259, 260, 261, 262, 263, 264, 265, 266, 267, 268, 269, 270, 271, 272, 273, 274])
 .ret)))))))))))))))))))))⟩
def loc3 : List Nat := [153, 181, 1, 3, 5, 7, 9, 11, 13, 17, 20, 21, 22, 23, 25, 27, 29]
def fg3 : List (Nat × List Nat) := [(20, [15, 17, 19, 32, 239, 240, 241, 242, 243, 244, 245, 246, 247, 248, 249, 250, 251, 252, 253, 254, 255, 256, 257, 258, 259, 260, 261, 262, 263, 264, 265, 266, 267, 268, 269, 270, 271, 272, 273, 274]), (19, [20, 21, 22, 24, 26, 28, 31, 190, 191, 192, 193, 194, 195, 196, 197, 198, 199, 200, 201, 202, 203, 204, 205, 206, 207, 208, 209, 210, 211, 212, 213, 214, 215, 216, 217, 218, 219, 220, 221, 222, 223, 224, 225, 226, 227, 228, 229, 230, 231, 232, 233, 234, 235, 236, 237, 238]), (18, [29, 30, 185, 186, 187, 188, 189]), (17, [27, 178, 179, 180, 181, 182, 183, 184]), (16, [25, 173, 174, 175, 176, 177]), (15, [23, 167, 168, 169, 170, 171, 172]), (14, [165, 166]), (13, [9, 164]), (12, [162, 163]), (11, [160, 161]), (10, [16, 18, 154, 155, 156, 157, 158, 159]), (9, [147, 148, 149, 150, 151, 152, 153]), (8, [1, 2, 4, 5, 6, 8, 10, 12, 13, 14, 68, 69, 70, 71, 72, 73, 74, 75, 76, 77, 78, 79, 80, 81, 82, 83, 84, 85, 86, 87, 88, 89, 90, 91, 92, 93, 94, 95, 96, 97, 98, 99, 100, 101, 102, 103, 104, 105, 106, 107, 108, 109, 110, 111, 112, 113, 114, 115, 116, 117, 118, 119, 120, 121, 122, 123, 124, 125, 126, 127, 128, 129, 130, 131, 132, 133, 134, 135, 136, 137, 138, 139, 140, 141, 142, 143, 144, 145, 146]), (7, [63, 64, 65, 66, 67]), (6, [11, 58, 59, 60, 61, 62]), (5, [53, 54, 55, 56, 57]), (4, [7, 48, 49, 50, 51, 52]), (3, [43, 44, 45, 46, 47]), (2, [3, 38, 39, 40, 41, 42]), (1, [33, 34, 35, 36, 37]), (0, [0])]
theorem comp3 : compFn Tryd.prog loc3 (fun i => (fg3.lookup i).getD []) Tryd.f3 = some lit3 := by kernel_rfl

-- parcener/choose.Start
def lit4 : AFn := ⟨2, [.cell 4 true 7, .tmp 5],
 (.seq
 (.ops [⟨some 4, (.allocL (.agg [.nils, .nils, (.int .i64 (0)), (.int .i64 (0)), (.int .i64 (0)), (.int .i64 (0)), (.bool false)])), none⟩,
 ⟨some 5, (.mv (.c (.int .i64 (0)))), none⟩]
 [] [5])
 (.seq
 (.ops [⟨some 9, (.mv (.t 0)), none⟩,
 ⟨some 10, (.call (.f 12) [(.t 9)]), none⟩,
 ⟨some 8, (.mv (.t 10)), none⟩,
 ⟨some 11, (.ext (.t 8) 0), none⟩,
 ⟨some 12, (.ext (.t 8) 1), none⟩,
 ⟨some 6, (.allocL (.agg [.nils, .nils])), none⟩,
 ⟨none, (.store 2 (.t 6) (.t 11)), none⟩,
 ⟨some 7, (.mv (.t 12)), none⟩]
 [] [8, 9, 10, 11, 12])
 (.seq
 (.seq
 (.ops [⟨some 13, (.mv (.t 7)), none⟩,
 ⟨some 14, (.bin .neq (.t 13) (.c (.int .i64 (0)))), none⟩]
 [] [13])
 (.cond (.t 14)
 (.seq
 (.ops [⟨some 15, (.build [.nils, .nils, (.int .i64 (0)), (.int .i64 (0)), (.int .i64 (0)), (.int .i64 (0)), (.bool false)] []), none⟩,
 ⟨some 16, (.mv (.t 7)), none⟩,
 ⟨none, (.store 7 (.t 4) (.t 15)), none⟩,
 ⟨some 5, (.mv (.t 16)), none⟩]
 [] [0, 1, 6, 7, 14, 15, 16])
 .ret)
 .skip))
 (.seq
 (.seq
 (.ops [⟨some 17, (.mv (.t 0)), none⟩,
 ⟨some 18, (.len (.t 17)), none⟩,
 ⟨some 19, (.bin .neq (.t 18) (.c (.int .i64 (2)))), none⟩,
 ⟨some 20, (.mv (.t 19)), none⟩,
 ⟨some 21, (.mv (.t 1)), some (20, false)⟩,
 ⟨some 22, (.bin .lss (.t 21) (.c (.int .i64 (0)))), some (20, false)⟩,
 ⟨some 23, (.pick (.t 20) (.c (.bool true)) (.t 22)), none⟩,
 ⟨some 24, (.mv (.t 23)), none⟩,
 ⟨some 25, (.mv (.t 1)), some (24, false)⟩,
 ⟨some 26, (.bin .gtr (.t 25) (.c (.int .i64 (1)))), some (24, false)⟩,
 ⟨some 27, (.pick (.t 24) (.c (.bool true)) (.t 26)), none⟩]
 [] [0, 7, 14, 17, 18, 19, 20, 21, 22, 23, 24, 25, 26])
 (.cond (.t 27)
 (.seq
 (.ops [⟨some 28, (.build [.nils, .nils, (.int .i64 (0)), (.int .i64 (0)), (.int .i64 (0)), (.int .i64 (0)), (.bool false)] []), none⟩,
 ⟨none, (.store 7 (.t 4) (.t 28)), none⟩,
 ⟨some 5, (.mv (.c (.int .i64 (2)))), none⟩]
 [] [1, 6, 27, 28])
 .ret)
 .skip))
 (.seq
 (.ops [⟨some 29, (.load true 2 (.t 6)), none⟩,
 ⟨some 30, (.mv (.t 1)), none⟩,
 ⟨some 31, (.load true 2 (.g 0)), none⟩,
 ⟨some 32, (.build [.nils, .nils, (.int .i64 (0)), (.int .i64 (0)), (.int .i64 (0)), (.int .i64 (0)), (.bool false)] [(0, 2, (.t 29)), (2, 1, (.t 30)), (4, 2, (.t 31))]), none⟩,
 ⟨none, (.store 7 (.t 4) (.t 32)), none⟩,
 ⟨some 5, (.mv (.c (.int .i64 (0)))), none⟩]
 [] [1, 6, 27, 29, 30, 31, 32])
 .ret)))))⟩
def loc4 : List Nat := [4, 6]
def fg4 : List (Nat × List Nat) := [(6, [1, 6, 27, 29, 30, 31, 32]), (5, [1, 6, 27, 28]), (4, [0, 7, 14, 17, 18, 19, 20, 21, 22, 23, 24, 25, 26]), (3, [0, 1, 6, 7, 14, 15, 16]), (2, [13]), (1, [8, 9, 10, 11, 12]), (0, [5])]
theorem comp4 : compFn Tryd.prog loc4 (fun i => (fg4.lookup i).getD []) Tryd.f4 = some lit4 := by kernel_rfl

-- parcener/parcenerlaw07.two
def lit5 : AFn := ⟨0, [.tmp 0],
 (.seq
 (.ops [⟨some 0, (.mv (.c .nils)), none⟩]
 [] [0])
 (.seq
 (.ops [⟨some 1, (.buildD 1 (.int .i64 (0)) 2 [(0, (.c (.int .i64 (0)))), (1, (.c (.int .i64 (2))))]), none⟩,
 ⟨some 2, (.buildD 1 (.int .i64 (0)) 1 [(0, (.c (.int .i64 (1))))]), none⟩,
 ⟨some 3, (.build [(.int .i64 (0)), .nils, .nils] [(0, 1, (.c (.int .i64 (2)))), (1, 1, (.t 1)), (2, 1, (.t 2))]), none⟩,
 ⟨some 4, (.buildD 1 (.int .i64 (0)) 3 [(0, (.c (.int .i64 (0)))), (1, (.c (.int .i64 (1)))), (2, (.c (.int .i64 (2))))]), none⟩,
 ⟨some 5, (.buildD 1 (.int .i64 (0)) 2 [(0, (.c (.int .i64 (3)))), (1, (.c (.int .i64 (1))))]), none⟩,
 ⟨some 6, (.build [(.int .i64 (0)), .nils, .nils] [(0, 1, (.c (.int .i64 (2)))), (1, 1, (.t 4)), (2, 1, (.t 5))]), none⟩,
 ⟨some 7, (.buildSl true 3 (.agg [(.int .i64 (0)), (.data []), (.data [])]) 2 [(0, (.t 3)), (1, (.t 6))]), none⟩,
 ⟨some 0, (.mv (.t 7)), none⟩]
 [] [1, 2, 3, 4, 5, 6, 7])
 .ret))⟩
def loc5 : List Nat := [1, 2, 4, 5]
def fg5 : List (Nat × List Nat) := [(1, [1, 2, 3, 4, 5, 6, 7]), (0, [0])]
theorem comp5 : compFn Tryd.prog loc5 (fun i => (fg5.lookup i).getD []) Tryd.f5 = some lit5 := by kernel_rfl

-- parcener/choose.Division
def lit6 : AFn := ⟨1, [.cell 2 true 1, .tmp 3],
 (.seq
 (.ops [⟨some 1, (.boxL (.t 0)), none⟩,
 ⟨some 2, (.allocL (.agg [.nils])), none⟩,
 ⟨some 3, (.mv (.c (.int .i64 (0)))), none⟩]
 [] [0, 3])
 (.seq
 (.seq
 (.ops [⟨some 7, (.load true 7 (.t 1)), none⟩,
 ⟨some 8, (.call (.f 9) [(.t 7)]), none⟩,
 ⟨some 4, (.mv (.t 8)), none⟩]
 [] [7, 8])
 (.seq
 (.ops [⟨some 9, (.mv (.t 4)), none⟩,
 ⟨some 10, (.bin .neq (.t 9) (.c (.int .i64 (0)))), none⟩]
 [] [9])
 (.cond (.t 10)
 (.seq
 (.ops [⟨some 11, (.build [.nils] []), none⟩,
 ⟨some 12, (.mv (.t 4)), none⟩,
 ⟨none, (.store 1 (.t 2) (.t 11)), none⟩,
 ⟨some 3, (.mv (.t 12)), none⟩]
 [] [1, 4, 10, 11, 12])
 .ret)
 .skip)))
 (.seq
 (.seq
 (.ops [⟨some 13, (.fad 3 (.t 1)), none⟩,
 ⟨some 14, (.load false 1 (.t 13)), none⟩,
 ⟨some 15, (.bin .lss (.t 14) (.c (.int .i64 (2)))), none⟩]
 [] [4, 10, 13, 14])
 (.cond (.t 15)
 (.seq
 (.ops [⟨some 16, (.build [.nils] []), none⟩,
 ⟨none, (.store 1 (.t 2) (.t 16)), none⟩,
 ⟨some 3, (.mv (.c (.int .i64 (36)))), none⟩]
 [] [1, 15, 16])
 .ret)
 .skip))
 (.seq
 (.ops [⟨some 17, (.fad 2 (.t 1)), none⟩,
 ⟨some 18, (.load false 1 (.t 17)), none⟩,
 ⟨some 5, (.mv (.t 18)), none⟩]
 [] [15, 17, 18])
 (.seq
 (.seq
 (.ops [⟨some 19, (.fad 6 (.t 1)), none⟩,
 ⟨some 20, (.load false 1 (.t 19)), none⟩]
 [] [19])
 (.cond (.t 20)
 (.ops [⟨some 21, (.mv (.t 5)), none⟩,
 ⟨some 22, (.bin .sub (.c (.int .i64 (1))) (.t 21)), none⟩,
 ⟨some 5, (.mv (.t 22)), none⟩]
 [] [20, 21, 22])
 .skip))
 (.seq
 (.ops [⟨some 23, (.mkSl true 1 24 (.data []) (.c (.int .i64 (2))) (.c (.int .i64 (2)))), none⟩,
 ⟨some 24, (.build [.nils] [(0, 1, (.t 23))]), none⟩,
 ⟨some 6, (.allocL (.agg [.nils])), none⟩,
 ⟨none, (.store 1 (.t 6) (.t 24)), none⟩]
 [] [20, 23, 24])
 (.seq
 (.ops [⟨some 25, (.fad 0 (.t 6)), none⟩,
 ⟨some 26, (.load false 1 (.t 25)), none⟩,
 ⟨some 27, (.mv (.t 5)), none⟩,
 ⟨some 28, (.load true 2 (.g 0)), none⟩,
 ⟨some 29, (.fad 4 (.t 1)), none⟩,
 ⟨some 30, (.load true 2 (.t 29)), none⟩,
 ⟨some 31, (.build [(.int .i64 (0)), (.int .i64 (0)), (.int .i64 (0)), (.int .i64 (0))] [(0, 2, (.t 28)), (2, 2, (.t 30))]), none⟩,
 ⟨some 32, (.buildD 4 (.agg [(.int .i64 (0)), (.int .i64 (0)), (.int .i64 (0)), (.int .i64 (0))]) 1 [(0, (.t 31))]), none⟩,
 ⟨some 33, (.iad 1 (.t 26) (.t 27)), none⟩,
 ⟨none, (.store 1 (.t 33) (.t 32)), none⟩]
 [] [25, 26, 27, 28, 29, 30, 31, 32, 33])
 (.seq
 (.ops [⟨some 34, (.fad 0 (.t 6)), none⟩,
 ⟨some 35, (.load false 1 (.t 34)), none⟩,
 ⟨some 36, (.mv (.t 5)), none⟩,
 ⟨some 37, (.bin .sub (.c (.int .i64 (1))) (.t 36)), none⟩,
 ⟨some 38, (.fad 4 (.t 1)), none⟩,
 ⟨some 39, (.load true 2 (.t 38)), none⟩,
 ⟨some 40, (.fad 0 (.t 1)), none⟩,
 ⟨some 41, (.fad 0 (.t 40)), none⟩,
 ⟨some 42, (.load false 1 (.t 41)), none⟩,
 ⟨some 43, (.iad 3 (.t 42) (.c (.int .i64 (0)))), none⟩,
 ⟨some 44, (.fad 0 (.t 43)), none⟩,
 ⟨some 45, (.load false 1 (.t 44)), none⟩,
 ⟨some 46, (.build [(.int .i64 (0)), (.int .i64 (0))] [(0, 1, (.t 45)), (1, 1, (.c (.int .i64 (1))))]), none⟩,
 ⟨some 47, (.build [(.int .i64 (0)), (.int .i64 (0)), (.int .i64 (0)), (.int .i64 (0))] [(0, 2, (.t 39)), (2, 2, (.t 46))]), none⟩,
 ⟨some 48, (.buildD 4 (.agg [(.int .i64 (0)), (.int .i64 (0)), (.int .i64 (0)), (.int .i64 (0))]) 1 [(0, (.t 47))]), none⟩,
 ⟨some 49, (.iad 1 (.t 35) (.t 37)), none⟩,
 ⟨none, (.store 1 (.t 49) (.t 48)), none⟩]
 [(0, 2), (1, 2), (0, 3), (1, 3), (0, 4), (1, 4), (2, 4), (3, 4), (0, 5), (1, 5), (2, 5), (3, 5), (0, 6), (1, 6), (2, 6), (3, 6), (4, 6), (5, 6), (0, 7), (1, 7), (2, 7), (3, 7), (4, 7), (5, 7), (0, 8), (1, 8), (2, 8), (3, 8), (4, 8), (5, 8), (0, 9), (1, 9), (2, 9), (3, 9), (4, 9), (5, 9), (0, 10), (1, 10), (2, 10), (3, 10), (4, 10), (5, 10), (0, 11), (1, 11), (2, 11), (3, 11), (4, 11), (5, 11), (0, 12), (1, 12), (2, 12), (3, 12), (4, 12), (5, 12), (0, 13), (1, 13), (2, 13), (3, 13), (0, 14), (1, 14), (2, 14), (3, 14)] [1, 5, 34, 35, 36, 37, 38, 39, 40, 41, 42, 43, 44, 45, 46, 47, 48, 49])
 (.seq
 (.ops [⟨some 50, (.load true 1 (.t 6)), none⟩,
 ⟨none, (.store 1 (.t 2) (.t 50)), none⟩,
 ⟨some 3, (.mv (.c (.int .i64 (0)))), none⟩]
 [] [6, 50])
 .ret)))))))))⟩
def loc6 : List Nat := [32, 48, 1, 2, 6]
def fg6 : List (Nat × List Nat) := [(12, [6, 50]), (11, [1, 5, 34, 35, 36, 37, 38, 39, 40, 41, 42, 43, 44, 45, 46, 47, 48, 49]), (10, [25, 26, 27, 28, 29, 30, 31, 32, 33]), (9, [20, 23, 24]), (8, [20, 21, 22]), (7, [19]), (6, [15, 17, 18]), (5, [1, 15, 16]), (4, [4, 10, 13, 14]), (3, [1, 4, 10, 11, 12]), (2, [9]), (1, [7, 8]), (0, [0, 3])]
theorem comp6 : compFn Tryd.prog loc6 (fun i => (fg6.lookup i).getD []) Tryd.f6 = some lit6 := by kernel_rfl

-- parcener/choose.Next
def lit7 : AFn := ⟨1, [.cell 2 true 7, .tmp 3],
 (.seq
 (.ops [⟨some 1, (.boxL (.t 0)), none⟩,
 ⟨some 2, (.allocL (.agg [.nils, .nils, (.int .i64 (0)), (.int .i64 (0)), (.int .i64 (0)), (.int .i64 (0)), (.bool false)])), none⟩,
 ⟨some 3, (.mv (.c (.int .i64 (0)))), none⟩]
 [] [0, 3])
 (.seq
 (.seq
 (.ops [⟨some 5, (.load true 7 (.t 1)), none⟩,
 ⟨some 6, (.call (.f 9) [(.t 5)]), none⟩,
 ⟨some 4, (.mv (.t 6)), none⟩]
 [] [5, 6])
 (.seq
 (.ops [⟨some 7, (.mv (.t 4)), none⟩,
 ⟨some 8, (.bin .neq (.t 7) (.c (.int .i64 (0)))), none⟩]
 [] [7])
 (.cond (.t 8)
 (.seq
 (.ops [⟨some 9, (.build [.nils, .nils, (.int .i64 (0)), (.int .i64 (0)), (.int .i64 (0)), (.int .i64 (0)), (.bool false)] []), none⟩,
 ⟨some 10, (.mv (.t 4)), none⟩,
 ⟨none, (.store 7 (.t 2) (.t 9)), none⟩,
 ⟨some 3, (.mv (.t 10)), none⟩]
 [] [1, 4, 8, 9, 10])
 .ret)
 .skip)))
 (.seq
 (.seq
 (.ops [⟨some 11, (.fad 3 (.t 1)), none⟩,
 ⟨some 12, (.load false 1 (.t 11)), none⟩,
 ⟨some 13, (.bin .eql (.t 12) (.c (.int .i64 (2)))), none⟩]
 [] [4, 8, 11, 12])
 (.cond (.t 13)
 (.seq
 (.ops [⟨some 14, (.build [.nils, .nils, (.int .i64 (0)), (.int .i64 (0)), (.int .i64 (0)), (.int .i64 (0)), (.bool false)] []), none⟩,
 ⟨none, (.store 7 (.t 2) (.t 14)), none⟩,
 ⟨some 3, (.mv (.c (.int .i64 (36)))), none⟩]
 [] [1, 13, 14])
 .ret)
 .skip))
 (.seq
 (.ops [⟨some 15, (.load true 7 (.t 1)), none⟩,
 ⟨some 16, (.call (.f 13) [(.t 15)]), none⟩,
 ⟨none, (.store 7 (.t 2) (.t 16)), none⟩,
 ⟨some 3, (.mv (.c (.int .i64 (0)))), none⟩]
 [] [1, 13, 15, 16])
 .ret))))⟩
def loc7 : List Nat := [1, 2]
def fg7 : List (Nat × List Nat) := [(6, [1, 13, 15, 16]), (5, [1, 13, 14]), (4, [4, 8, 11, 12]), (3, [1, 4, 8, 9, 10]), (2, [7]), (1, [5, 6]), (0, [0, 3])]
theorem comp7 : compFn Tryd.prog loc7 (fun i => (fg7.lookup i).getD []) Tryd.f7 = some lit7 := by kernel_rfl

-- parcener/choose.Run
def lit8 : AFn := ⟨2, [.cell 4 true 1, .tmp 5, .tmp 6],
 (.seq
 (.ops [⟨some 4, (.allocL (.agg [.nils])), none⟩,
 ⟨some 5, (.mv (.c .nils)), none⟩,
 ⟨some 6, (.mv (.c (.int .i64 (0)))), none⟩]
 [] [5, 6])
 (.seq
 (.ops [⟨some 9, (.mv (.t 0)), none⟩,
 ⟨some 10, (.mv (.t 1)), none⟩,
 ⟨some 11, (.call (.f 4) [(.t 9), (.t 10)]), none⟩,
 ⟨some 8, (.mv (.t 11)), none⟩,
 ⟨some 12, (.ext (.t 8) 0), none⟩,
 ⟨some 13, (.ext (.t 8) 1), none⟩,
 ⟨some 7, (.allocL (.agg [.nils, .nils, (.int .i64 (0)), (.int .i64 (0)), (.int .i64 (0)), (.int .i64 (0)), (.bool false)])), none⟩,
 ⟨none, (.store 7 (.t 7) (.t 12)), none⟩,
 ⟨some 6, (.mv (.t 13)), none⟩]
 [] [0, 1, 8, 9, 10, 11, 12, 13])
 (.seq
 (.seq
 (.ops [⟨some 14, (.mv (.t 6)), none⟩,
 ⟨some 15, (.bin .neq (.t 14) (.c (.int .i64 (0)))), none⟩]
 [] [14])
 (.cond (.t 15)
 (.seq
 (.ops [⟨some 16, (.build [.nils] []), none⟩,
 ⟨some 17, (.mv (.t 6)), none⟩,
 ⟨none, (.store 1 (.t 4) (.t 16)), none⟩,
 ⟨some 5, (.mv (.c .nils)), none⟩,
 ⟨some 6, (.mv (.t 17)), none⟩]
 [] [7, 15, 16, 17])
 .ret)
 .skip))
 (.seq
 (.ops [⟨some 18, (.load true 7 (.t 7)), none⟩,
 ⟨some 19, (.call (.f 13) [(.t 18)]), none⟩,
 ⟨some 20, (.call (.f 13) [(.t 19)]), none⟩,
 ⟨none, (.store 7 (.t 7) (.t 20)), none⟩]
 [] [6, 15, 18, 19, 20])
 (.seq
 (.ops [⟨some 22, (.load true 7 (.t 7)), none⟩,
 ⟨some 23, (.call (.f 6) [(.t 22)]), none⟩,
 ⟨some 21, (.mv (.t 23)), none⟩,
 ⟨some 24, (.ext (.t 21) 0), none⟩,
 ⟨some 25, (.ext (.t 21) 1), none⟩,
 ⟨none, (.store 1 (.t 4) (.t 24)), none⟩,
 ⟨some 6, (.mv (.t 25)), none⟩]
 [] [21, 22, 23, 24, 25])
 (.seq
 (.ops [⟨some 26, (.load true 1 (.t 4)), none⟩,
 ⟨some 27, (.fad 0 (.t 7)), none⟩,
 ⟨some 28, (.fad 1 (.t 27)), none⟩,
 ⟨some 29, (.load false 1 (.t 28)), none⟩,
 ⟨some 30, (.mv (.t 6)), none⟩,
 ⟨none, (.store 1 (.t 4) (.t 26)), none⟩,
 ⟨some 5, (.mv (.t 29)), none⟩,
 ⟨some 6, (.mv (.t 30)), none⟩]
 [(0, 1), (0, 2), (0, 3), (0, 4), (1, 4), (2, 4), (3, 4), (1, 5), (2, 5), (3, 5), (4, 5), (4, 6)] [7, 26, 27, 28, 29, 30])
 .ret))))))⟩
def loc8 : List Nat := [4, 7]
def fg8 : List (Nat × List Nat) := [(6, [7, 26, 27, 28, 29, 30]), (5, [21, 22, 23, 24, 25]), (4, [6, 15, 18, 19, 20]), (3, [7, 15, 16, 17]), (2, [14]), (1, [0, 1, 8, 9, 10, 11, 12, 13]), (0, [5, 6])]
theorem comp8 : compFn Tryd.prog loc8 (fun i => (fg8.lookup i).getD []) Tryd.f8 = some lit8 := by kernel_rfl

-- parcener/choose.Check
def lit9 : AFn := ⟨1, [.tmp 2],
 (.seq
 (.ops [⟨some 1, (.boxL (.t 0)), none⟩,
 ⟨some 2, (.mv (.c (.int .i64 (0)))), none⟩]
 [] [0, 2])
 (.seq
 (.seq
 (.ops [⟨some 6, (.fad 0 (.t 1)), none⟩,
 ⟨some 7, (.load true 2 (.t 6)), none⟩,
 ⟨some 8, (.call (.f 14) [(.t 7)]), none⟩,
 ⟨some 3, (.mv (.t 8)), none⟩]
 [] [6, 7, 8])
 (.seq
 (.ops [⟨some 9, (.mv (.t 3)), none⟩,
 ⟨some 10, (.bin .neq (.t 9) (.c (.int .i64 (0)))), none⟩]
 [] [9])
 (.cond (.t 10)
 (.seq
 (.ops [⟨some 11, (.mv (.t 3)), none⟩,
 ⟨some 2, (.mv (.t 11)), none⟩]
 [] [1, 3, 10, 11])
 .ret)
 .skip)))
 (.seq
 (.ops [⟨some 13, (.fad 0 (.t 1)), none⟩,
 ⟨some 14, (.fad 0 (.t 13)), none⟩,
 ⟨some 15, (.load false 1 (.t 14)), none⟩,
 ⟨some 16, (.fad 2 (.t 1)), none⟩,
 ⟨some 17, (.load false 1 (.t 16)), none⟩,
 ⟨some 18, (.call (.f 4) [(.t 15), (.t 17)]), none⟩,
 ⟨some 12, (.mv (.t 18)), none⟩,
 ⟨some 19, (.ext (.t 12) 0), none⟩,
 ⟨some 20, (.ext (.t 12) 1), none⟩,
 ⟨some 4, (.allocL (.agg [.nils, .nils, (.int .i64 (0)), (.int .i64 (0)), (.int .i64 (0)), (.int .i64 (0)), (.bool false)])), none⟩,
 ⟨none, (.store 7 (.t 4) (.t 19)), none⟩,
 ⟨some 5, (.mv (.t 20)), none⟩]
 [] [3, 10, 12, 13, 14, 15, 16, 17, 18, 19, 20])
 (.seq
 (.seq
 (.ops [⟨some 21, (.mv (.t 5)), none⟩,
 ⟨some 22, (.bin .neq (.t 21) (.c (.int .i64 (0)))), none⟩]
 [] [21])
 (.cond (.t 22)
 (.seq
 (.ops [⟨some 23, (.mv (.t 5)), none⟩,
 ⟨some 2, (.mv (.t 23)), none⟩]
 [] [1, 4, 5, 22, 23])
 .ret)
 .skip))
 (.seq
 (.block 0
 (.loop
 (.seq
 (.seq
 (.ops [⟨some 24, (.fad 3 (.t 4)), none⟩,
 ⟨some 25, (.load false 1 (.t 24)), none⟩,
 ⟨some 26, (.fad 3 (.t 1)), none⟩,
 ⟨some 27, (.load false 1 (.t 26)), none⟩,
 ⟨some 28, (.minmax false [(.t 27), (.c (.int .i64 (2)))]), none⟩,
 ⟨some 29, (.bin .lss (.t 25) (.t 28)), none⟩]
 [] [5, 22, 24, 25, 26, 27, 28])
 (.cond (.t 29)
 .skip
 (.exit 0)))
 (.block 1
 (.ops [⟨some 30, (.load true 7 (.t 4)), none⟩,
 ⟨some 31, (.call (.f 13) [(.t 30)]), none⟩,
 ⟨none, (.store 7 (.t 4) (.t 31)), none⟩]
 [] [29, 30, 31])))))
 (.seq
 (.seq
 (.ops [⟨some 32, (.fad 3 (.t 4)), none⟩,
 ⟨some 33, (.load false 1 (.t 32)), none⟩,
 ⟨some 34, (.fad 3 (.t 1)), none⟩,
 ⟨some 35, (.load false 1 (.t 34)), none⟩,
 ⟨some 36, (.bin .neq (.t 33) (.t 35)), none⟩,
 ⟨some 37, (.mv (.t 36)), none⟩,
 ⟨some 38, (.fad 4 (.t 4)), some (37, false)⟩,
 ⟨some 39, (.load true 2 (.t 38)), some (37, false)⟩,
 ⟨some 40, (.fad 4 (.t 1)), some (37, false)⟩,
 ⟨some 41, (.load true 2 (.t 40)), some (37, false)⟩,
 ⟨some 42, (.eqA true 2 [(0, (some .i64)), (1, (some .i64))] (.t 39) (.t 41)), some (37, false)⟩,
 ⟨some 43, (.pick (.t 37) (.c (.bool true)) (.t 42)), none⟩,
 ⟨some 44, (.mv (.t 43)), none⟩,
 ⟨some 45, (.fad 6 (.t 4)), some (44, false)⟩,
 ⟨some 46, (.load false 1 (.t 45)), some (44, false)⟩,
 ⟨some 47, (.fad 6 (.t 1)), some (44, false)⟩,
 ⟨some 48, (.load false 1 (.t 47)), some (44, false)⟩,
 ⟨some 49, (.eqB true (.t 46) (.t 48)), some (44, false)⟩,
 ⟨some 50, (.pick (.t 44) (.c (.bool true)) (.t 49)), none⟩,
 ⟨some 51, (.mv (.t 50)), none⟩,
 ⟨some 52, (.fad 0 (.t 4)), some (51, false)⟩,
 ⟨some 53, (.fad 1 (.t 52)), some (51, false)⟩,
 ⟨some 54, (.load false 1 (.t 53)), some (51, false)⟩,
 ⟨some 55, (.fad 0 (.t 1)), some (51, false)⟩,
 ⟨some 56, (.fad 1 (.t 55)), some (51, false)⟩,
 ⟨some 57, (.load false 1 (.t 56)), some (51, false)⟩,
 ⟨some 58, (.call (.f 15) [(.t 54), (.t 57)]), some (51, false)⟩,
 ⟨some 59, (.un .not (.t 58)), some (51, false)⟩,
 ⟨some 60, (.pick (.t 51) (.c (.bool true)) (.t 59)), none⟩]
 [] [1, 4, 29, 32, 33, 34, 35, 36, 37, 38, 39, 40, 41, 42, 43, 44, 45, 46, 47, 48, 49, 50, 51, 52, 53, 54, 55, 56, 57, 58, 59])
 (.cond (.t 60)
 (.seq
 (.ops [⟨some 2, (.mv (.c (.int .i64 (8)))), none⟩]
 [] [60])
 .ret)
 .skip))
 (.seq
 (.ops [⟨some 2, (.mv (.c (.int .i64 (0)))), none⟩]
 [] [60])
 .ret)))))))⟩
def loc9 : List Nat := [1, 4]
def fg9 : List (Nat × List Nat) := [(11, [60]), (10, [60]), (9, [1, 4, 29, 32, 33, 34, 35, 36, 37, 38, 39, 40, 41, 42, 43, 44, 45, 46, 47, 48, 49, 50, 51, 52, 53, 54, 55, 56, 57, 58, 59]), (8, [29, 30, 31]), (7, [5, 22, 24, 25, 26, 27, 28]), (6, [1, 4, 5, 22, 23]), (5, [21]), (4, [3, 10, 12, 13, 14, 15, 16, 17, 18, 19, 20]), (3, [1, 3, 10, 11]), (2, [9]), (1, [6, 7, 8]), (0, [0, 2])]
theorem comp9 : compFn Tryd.prog loc9 (fun i => (fg9.lookup i).getD []) Tryd.f9 = some lit9 := by kernel_rfl

-- parcener/parcenerref01.Of
def lit10 : AFn := ⟨1, [.cell 2 true 2],
 (.seq
 (.ops [⟨some 2, (.allocL (.agg [(.int .i64 (0)), (.int .i64 (0))])), none⟩]
 [] [])
 (.seq
 (.ops [⟨some 3, (.mv (.t 0)), none⟩,
 ⟨some 4, (.build [(.int .i64 (0)), (.int .i64 (0))] [(0, 1, (.t 3)), (1, 1, (.c (.int .i64 (1))))]), none⟩,
 ⟨none, (.store 2 (.t 2) (.t 4)), none⟩]
 [] [0, 3, 4])
 .ret))⟩
def loc10 : List Nat := [2]
def fg10 : List (Nat × List Nat) := [(1, [0, 3, 4])]
theorem comp10 : compFn Tryd.prog loc10 (fun i => (fg10.lookup i).getD []) Tryd.f10 = some lit10 := by kernel_rfl

-- parcener/parcenerlaw07.alive
def lit11 : AFn := ⟨0, [.tmp 0],
 (.seq
 (.ops [⟨some 0, (.mv (.c (.bool false))), none⟩]
 [] [0])
 (.seq
 (.ops [⟨some 11, (.call (.f 10) [(.c (.int .i64 (0)))]), none⟩,
 ⟨some 12, (.call (.f 10) [(.c (.int .i64 (1)))]), none⟩,
 ⟨some 13, (.call (.f 10) [(.c (.int .i64 (2)))]), none⟩,
 ⟨some 14, (.build [(.int .i64 (0)), (.int .i64 (0))] [(0, 1, (.c (.int .i64 (2)))), (1, 1, (.c (.int .i64 (3))))]), none⟩,
 ⟨some 1, (.allocL (.agg [(.int .i64 (0)), (.int .i64 (0))])), none⟩,
 ⟨some 2, (.allocL (.agg [(.int .i64 (0)), (.int .i64 (0))])), none⟩,
 ⟨some 3, (.allocL (.agg [(.int .i64 (0)), (.int .i64 (0))])), none⟩,
 ⟨some 4, (.allocL (.agg [(.int .i64 (0)), (.int .i64 (0))])), none⟩,
 ⟨none, (.store 2 (.t 1) (.t 11)), none⟩,
 ⟨none, (.store 2 (.t 2) (.t 12)), none⟩,
 ⟨none, (.store 2 (.t 3) (.t 13)), none⟩,
 ⟨none, (.store 2 (.t 4) (.t 14)), none⟩]
 [] [11, 12, 13, 14])
 (.seq
 (.ops [⟨some 16, (.call (.f 5) []), none⟩,
 ⟨some 17, (.call (.f 8) [(.t 16), (.c (.int .i64 (0)))]), none⟩,
 ⟨some 15, (.mv (.t 17)), none⟩,
 ⟨some 18, (.ext (.t 15) 0), none⟩,
 ⟨some 19, (.ext (.t 15) 1), none⟩,
 ⟨some 20, (.ext (.t 15) 2), none⟩,
 ⟨some 5, (.allocL (.agg [.nils])), none⟩,
 ⟨none, (.store 1 (.t 5) (.t 18)), none⟩,
 ⟨some 6, (.mv (.t 19)), none⟩,
 ⟨some 7, (.mv (.t 20)), none⟩]
 [] [6, 15, 16, 17, 18, 19, 20])
 (.seq
 (.ops [⟨some 22, (.call (.f 5) []), none⟩,
 ⟨some 23, (.call (.f 8) [(.t 22), (.c (.int .i64 (1)))]), none⟩,
 ⟨some 21, (.mv (.t 23)), none⟩,
 ⟨some 24, (.ext (.t 21) 0), none⟩,
 ⟨some 25, (.ext (.t 21) 1), none⟩,
 ⟨some 26, (.ext (.t 21) 2), none⟩,
 ⟨some 8, (.allocL (.agg [.nils])), none⟩,
 ⟨none, (.store 1 (.t 8) (.t 24)), none⟩,
 ⟨some 9, (.mv (.t 25)), none⟩,
 ⟨some 10, (.mv (.t 26)), none⟩]
 [] [21, 22, 23, 24, 25, 26])
 (.seq
 (.ops [⟨some 27, (.mv (.t 7)), none⟩,
 ⟨some 28, (.bin .eql (.t 27) (.c (.int .i64 (0)))), none⟩,
 ⟨some 29, (.mv (.t 28)), none⟩,
 ⟨some 30, (.load true 1 (.t 5)), some (29, true)⟩,
 ⟨some 31, (.load true 2 (.t 2)), some (29, true)⟩,
 ⟨some 32, (.load true 2 (.t 3)), some (29, true)⟩,
 ⟨some 33, (.call (.f 17) [(.t 31), (.t 32)]), some (29, true)⟩,
 ⟨some 34, (.load true 2 (.t 1)), some (29, true)⟩,
 ⟨some 35, (.load true 2 (.t 2)), some (29, true)⟩,
 ⟨some 36, (.call (.f 17) [(.t 34), (.t 35)]), some (29, true)⟩,
 ⟨some 37, (.buildD 1 (.data []) 2 [(0, (.t 33)), (1, (.t 36))]), some (29, true)⟩,
 ⟨some 38, (.build [.nils] [(0, 1, (.t 37))]), some (29, true)⟩,
 ⟨some 39, (.call (.f 16) [(.t 30), (.t 38)]), some (29, true)⟩,
 ⟨some 40, (.pick (.t 29) (.t 39) (.c (.bool false))), none⟩,
 ⟨some 41, (.mv (.t 40)), none⟩,
 ⟨some 42, (.mv (.t 10)), some (41, true)⟩,
 ⟨some 43, (.bin .eql (.t 42) (.c (.int .i64 (0)))), some (41, true)⟩,
 ⟨some 44, (.pick (.t 41) (.t 43) (.c (.bool false))), none⟩,
 ⟨some 45, (.mv (.t 44)), none⟩,
 ⟨some 46, (.mv (.t 9)), some (45, true)⟩,
 ⟨some 47, (.len (.t 46)), some (45, true)⟩,
 ⟨some 48, (.bin .eql (.t 47) (.c (.int .i64 (2)))), some (45, true)⟩,
 ⟨some 49, (.pick (.t 45) (.t 48) (.c (.bool false))), none⟩,
 ⟨some 50, (.mv (.t 49)), none⟩,
 ⟨some 51, (.load true 1 (.t 8)), some (50, true)⟩,
 ⟨some 52, (.load true 2 (.t 4)), some (50, true)⟩,
 ⟨some 53, (.load true 2 (.t 3)), some (50, true)⟩,
 ⟨some 54, (.call (.f 17) [(.t 52), (.t 53)]), some (50, true)⟩,
 ⟨some 55, (.load true 2 (.t 1)), some (50, true)⟩,
 ⟨some 56, (.load true 2 (.t 4)), some (50, true)⟩,
 ⟨some 57, (.call (.f 17) [(.t 55), (.t 56)]), some (50, true)⟩,
 ⟨some 58, (.buildD 1 (.data []) 2 [(0, (.t 54)), (1, (.t 57))]), some (50, true)⟩,
 ⟨some 59, (.build [.nils] [(0, 1, (.t 58))]), some (50, true)⟩,
 ⟨some 60, (.call (.f 16) [(.t 51), (.t 59)]), some (50, true)⟩,
 ⟨some 61, (.pick (.t 50) (.t 60) (.c (.bool false))), none⟩,
 ⟨some 0, (.mv (.t 61)), none⟩]
 [(3, 4), (3, 5), (4, 5), (3, 6), (3, 7), (4, 7), (5, 7), (6, 7), (3, 8), (4, 8), (5, 8), (6, 8), (7, 8), (3, 9), (3, 10), (3, 11), (24, 25), (24, 26), (25, 26), (24, 27), (24, 28), (25, 28), (26, 28), (27, 28), (24, 29), (25, 29), (26, 29), (27, 29), (28, 29), (24, 30), (24, 31), (24, 32)] [1, 2, 3, 4, 5, 7, 8, 9, 10, 27, 28, 29, 30, 31, 32, 33, 34, 35, 36, 37, 38, 39, 40, 41, 42, 43, 44, 45, 46, 47, 48, 49, 50, 51, 52, 53, 54, 55, 56, 57, 58, 59, 60, 61])
 .ret)))))⟩
def loc11 : List Nat := [37, 58, 1, 2, 3, 4, 5, 8]
def fg11 : List (Nat × List Nat) := [(4, [1, 2, 3, 4, 5, 7, 8, 9, 10, 27, 28, 29, 30, 31, 32, 33, 34, 35, 36, 37, 38, 39, 40, 41, 42, 43, 44, 45, 46, 47, 48, 49, 50, 51, 52, 53, 54, 55, 56, 57, 58, 59, 60, 61]), (3, [21, 22, 23, 24, 25, 26]), (2, [6, 15, 16, 17, 18, 19, 20]), (1, [11, 12, 13, 14]), (0, [0])]
theorem comp11 : compFn Tryd.prog loc11 (fun i => (fg11.lookup i).getD []) Tryd.f11 = some lit11 := by kernel_rfl

-- parcener/ask.Open
def lit12 : AFn := ⟨1, [.cell 2 true 2, .tmp 3],
 (.seq
 (.ops [⟨some 2, (.allocL (.agg [.nils, .nils])), none⟩,
 ⟨some 3, (.mv (.c (.int .i64 (0)))), none⟩]
 [] [3])
 (.seq
 (.seq
 (.ops [⟨some 5, (.mv (.t 0)), none⟩,
 ⟨some 6, (.build [.nils, .nils] [(0, 1, (.t 5))]), none⟩,
 ⟨some 7, (.call (.f 14) [(.t 6)]), none⟩,
 ⟨some 4, (.mv (.t 7)), none⟩]
 [] [5, 6, 7])
 (.seq
 (.ops [⟨some 8, (.mv (.t 4)), none⟩,
 ⟨some 9, (.bin .neq (.t 8) (.c (.int .i64 (0)))), none⟩]
 [] [8])
 (.cond (.t 9)
 (.seq
 (.ops [⟨some 10, (.build [.nils, .nils] []), none⟩,
 ⟨some 11, (.mv (.t 4)), none⟩,
 ⟨none, (.store 2 (.t 2) (.t 10)), none⟩,
 ⟨some 3, (.mv (.t 11)), none⟩]
 [] [0, 4, 9, 10, 11])
 .ret)
 .skip)))
 (.seq
 (.ops [⟨some 12, (.mv (.t 0)), none⟩,
 ⟨some 13, (.call (.f 18) [(.t 12)]), none⟩,
 ⟨some 14, (.build [.nils, .nils] [(0, 1, (.t 13))]), none⟩,
 ⟨none, (.store 2 (.t 2) (.t 14)), none⟩,
 ⟨some 3, (.mv (.c (.int .i64 (0)))), none⟩]
 [] [0, 4, 9, 12, 13, 14])
 .ret)))⟩
def loc12 : List Nat := [2]
def fg12 : List (Nat × List Nat) := [(4, [0, 4, 9, 12, 13, 14]), (3, [0, 4, 9, 10, 11]), (2, [8]), (1, [5, 6, 7]), (0, [3])]
theorem comp12 : compFn Tryd.prog loc12 (fun i => (fg12.lookup i).getD []) Tryd.f12 = some lit12 := by kernel_rfl

-- parcener/choose.step
def lit13 : AFn := ⟨1, [.cell 2 true 7],
 (.seq
 (.ops [⟨some 1, (.boxL (.t 0)), none⟩,
 ⟨some 2, (.allocL (.agg [.nils, .nils, (.int .i64 (0)), (.int .i64 (0)), (.int .i64 (0)), (.int .i64 (0)), (.bool false)])), none⟩]
 [] [0])
 (.seq
 (.seq
 (.ops [⟨some 9, (.fad 3 (.t 1)), none⟩,
 ⟨some 10, (.load false 1 (.t 9)), none⟩,
 ⟨some 11, (.bin .eql (.t 10) (.c (.int .i64 (0)))), none⟩]
 [] [9, 10])
 (.cond (.t 11)
 (.seq
 (.ops [⟨some 13, (.fad 0 (.t 1)), none⟩,
 ⟨some 14, (.load true 2 (.t 13)), none⟩,
 ⟨some 15, (.fad 2 (.t 1)), none⟩,
 ⟨some 16, (.load false 1 (.t 15)), none⟩,
 ⟨some 17, (.load true 2 (.g 0)), none⟩,
 ⟨some 18, (.fad 0 (.t 1)), none⟩,
 ⟨some 19, (.fad 0 (.t 18)), none⟩,
 ⟨some 20, (.load false 1 (.t 19)), none⟩,
 ⟨some 21, (.fad 2 (.t 1)), none⟩,
 ⟨some 22, (.load false 1 (.t 21)), none⟩,
 ⟨some 23, (.iad 3 (.t 20) (.t 22)), none⟩,
 ⟨some 24, (.load true 3 (.t 23)), none⟩,
 ⟨some 25, (.call (.f 20) [(.t 24)]), none⟩,
 ⟨some 26, (.call (.f 19) [(.t 14), (.t 16), (.t 17), (.t 25)]), none⟩,
 ⟨some 12, (.mv (.t 26)), none⟩,
 ⟨some 27, (.ext (.t 12) 0), none⟩,
 ⟨some 28, (.ext (.t 12) 1), none⟩,
 ⟨some 29, (.ext (.t 12) 2), none⟩,
 ⟨some 30, (.fad 0 (.t 1)), none⟩,
 ⟨none, (.store 2 (.t 30) (.t 27)), none⟩,
 ⟨some 31, (.fad 4 (.t 1)), none⟩,
 ⟨none, (.store 2 (.t 31) (.t 28)), none⟩]
 [(0, 2), (1, 2), (0, 3), (1, 3), (0, 4), (1, 4), (2, 4), (3, 4), (0, 5), (1, 5), (2, 5), (3, 5), (4, 5), (0, 6), (1, 6), (2, 6), (3, 6), (4, 6), (0, 7), (1, 7), (2, 7), (3, 7), (4, 7), (0, 8), (1, 8), (2, 8), (3, 8), (4, 8), (5, 8), (6, 8), (7, 8), (0, 9), (1, 9), (2, 9), (3, 9), (4, 9), (5, 9), (6, 9), (7, 9), (0, 10), (1, 10), (2, 10), (3, 10), (4, 10), (0, 11), (1, 11), (2, 11), (3, 11), (4, 11), (0, 12), (1, 12), (2, 12), (3, 12), (4, 12), (15, 16), (15, 17), (16, 17), (16, 18), (17, 18), (16, 19), (17, 19), (17, 20), (17, 21)] [11, 12, 13, 14, 15, 16, 17, 18, 19, 20, 21, 22, 23, 24, 25, 26, 27, 28, 29, 30, 31])
 (.seq
 (.ops [⟨some 32, (.fad 3 (.t 1)), none⟩,
 ⟨none, (.store 1 (.t 32) (.c (.int .i64 (1)))), none⟩]
 [] [32])
 (.seq
 (.ops [⟨some 33, (.load true 7 (.t 1)), none⟩,
 ⟨none, (.store 7 (.t 2) (.t 33)), none⟩]
 [] [1, 33])
 .ret)))
 .skip))
 (.seq
 (.ops [⟨some 34, (.fad 2 (.t 1)), none⟩,
 ⟨some 35, (.load false 1 (.t 34)), none⟩,
 ⟨some 36, (.bin .sub (.c (.int .i64 (1))) (.t 35)), none⟩,
 ⟨some 3, (.mv (.t 36)), none⟩]
 [] [11, 34, 35, 36])
 (.seq
 (.ops [⟨some 38, (.fad 0 (.t 1)), none⟩,
 ⟨some 39, (.load true 2 (.t 38)), none⟩,
 ⟨some 40, (.mv (.t 3)), none⟩,
 ⟨some 41, (.load true 2 (.g 0)), none⟩,
 ⟨some 42, (.fad 4 (.t 1)), none⟩,
 ⟨some 43, (.load true 2 (.t 42)), none⟩,
 ⟨some 44, (.call (.f 21) [(.t 39), (.t 40), (.t 41), (.t 43)]), none⟩,
 ⟨some 37, (.mv (.t 44)), none⟩,
 ⟨some 45, (.ext (.t 37) 0), none⟩,
 ⟨some 46, (.ext (.t 37) 1), none⟩,
 ⟨some 47, (.ext (.t 37) 2), none⟩,
 ⟨some 4, (.allocL (.agg [.nils, .nils])), none⟩,
 ⟨some 5, (.allocL (.agg [(.int .i64 (0)), (.int .i64 (0))])), none⟩,
 ⟨none, (.store 2 (.t 4) (.t 45)), none⟩,
 ⟨none, (.store 2 (.t 5) (.t 46)), none⟩,
 ⟨some 6, (.mv (.t 47)), none⟩]
 [] [6, 37, 38, 39, 40, 41, 42, 43, 44, 45, 46, 47])
 (.seq
 (.ops [⟨some 49, (.load true 2 (.t 5)), none⟩,
 ⟨some 50, (.fad 0 (.t 1)), none⟩,
 ⟨some 51, (.fad 0 (.t 50)), none⟩,
 ⟨some 52, (.load false 1 (.t 51)), none⟩,
 ⟨some 53, (.mv (.t 3)), none⟩,
 ⟨some 54, (.iad 3 (.t 52) (.t 53)), none⟩,
 ⟨some 55, (.load true 3 (.t 54)), none⟩,
 ⟨some 56, (.call (.f 20) [(.t 55)]), none⟩,
 ⟨some 57, (.call (.f 22) [(.t 49), (.t 56)]), none⟩,
 ⟨some 48, (.mv (.t 57)), none⟩,
 ⟨some 58, (.ext (.t 48) 0), none⟩,
 ⟨some 59, (.ext (.t 48) 1), none⟩,
 ⟨some 7, (.mv (.t 58)), none⟩,
 ⟨some 8, (.mv (.t 59)), none⟩]
 [(0, 1), (0, 2), (0, 3), (0, 4), (1, 4), (2, 4), (3, 4), (0, 5), (0, 6), (0, 7), (10, 11), (11, 12)] [3, 5, 8, 48, 49, 50, 51, 52, 53, 54, 55, 56, 57, 58, 59])
 (.seq
 (.ops [⟨some 60, (.load true 2 (.t 4)), none⟩,
 ⟨some 61, (.mv (.t 7)), none⟩,
 ⟨some 62, (.bin .geq (.t 61) (.c (.int .i64 (0)))), none⟩,
 ⟨some 63, (.fad 0 (.t 1)), none⟩,
 ⟨none, (.store 2 (.t 63) (.t 60)), none⟩,
 ⟨some 64, (.fad 3 (.t 1)), none⟩,
 ⟨none, (.store 1 (.t 64) (.c (.int .i64 (2)))), none⟩,
 ⟨some 65, (.fad 6 (.t 1)), none⟩,
 ⟨none, (.store 1 (.t 65) (.t 62)), none⟩]
 [] [4, 7, 60, 61, 62, 63, 64, 65])
 (.seq
 (.ops [⟨some 66, (.load true 7 (.t 1)), none⟩,
 ⟨none, (.store 7 (.t 2) (.t 66)), none⟩]
 [] [1, 66])
 .ret)))))))⟩
def loc13 : List Nat := [1, 2, 4, 5]
def fg13 : List (Nat × List Nat) := [(9, [1, 66]), (8, [4, 7, 60, 61, 62, 63, 64, 65]), (7, [3, 5, 8, 48, 49, 50, 51, 52, 53, 54, 55, 56, 57, 58, 59]), (6, [6, 37, 38, 39, 40, 41, 42, 43, 44, 45, 46, 47]), (5, [11, 34, 35, 36]), (4, [1, 33]), (3, [32]), (2, [11, 12, 13, 14, 15, 16, 17, 18, 19, 20, 21, 22, 23, 24, 25, 26, 27, 28, 29, 30, 31]), (1, [9, 10]), (0, [0])]
theorem comp13 : compFn Tryd.prog loc13 (fun i => (fg13.lookup i).getD []) Tryd.f13 = some lit13 := by kernel_rfl

-- parcener/ask.Check
def lit14 : AFn := ⟨1, [.tmp 2],
 (.seq
 (.ops [⟨some 1, (.boxL (.t 0)), none⟩,
 ⟨some 2, (.mv (.c (.int .i64 (0)))), none⟩]
 [] [0, 2])
 (.seq
 (.seq
 (.ops [⟨some 8, (.fad 0 (.t 1)), none⟩,
 ⟨some 9, (.load false 1 (.t 8)), none⟩,
 ⟨some 10, (.len (.t 9)), none⟩,
 ⟨some 11, (.bin .gtr (.t 10) (.c (.int .i64 (6)))), none⟩,
 ⟨some 12, (.mv (.t 11)), none⟩,
 ⟨some 13, (.fad 1 (.t 1)), some (12, false)⟩,
 ⟨some 14, (.load false 1 (.t 13)), some (12, false)⟩,
 ⟨some 15, (.len (.t 14)), some (12, false)⟩,
 ⟨some 16, (.bin .gtr (.t 15) (.c (.int .i64 (2000)))), some (12, false)⟩,
 ⟨some 17, (.pick (.t 12) (.c (.bool true)) (.t 16)), none⟩]
 [] [8, 9, 10, 11, 12, 13, 14, 15, 16])
 (.cond (.t 17)
 (.seq
 (.ops [⟨some 2, (.mv (.c (.int .i64 (4)))), none⟩]
 [] [1, 17])
 .ret)
 .skip))
 (.seq
 (.seq
 (.ops [⟨some 18, (.fad 0 (.t 1)), none⟩,
 ⟨some 19, (.load false 1 (.t 18)), none⟩,
 ⟨some 20, (.len (.t 19)), none⟩,
 ⟨some 21, (.bin .eql (.t 20) (.c (.int .i64 (0)))), none⟩]
 [] [17, 18, 19, 20])
 (.cond (.t 21)
 (.seq
 (.ops [⟨some 2, (.mv (.c (.int .i64 (8)))), none⟩]
 [] [1, 21])
 .ret)
 .skip))
 (.seq
 (.seq
 (.ops [⟨some 22, (.fad 0 (.t 1)), none⟩,
 ⟨some 23, (.load false 1 (.t 22)), none⟩,
 ⟨some 24, (.len (.t 23)), none⟩,
 ⟨some 25, (.mv (.c (.int .i64 (0)))), none⟩]
 [] [21, 22])
 (.block 0
 (.loop
 (.seq
 (.ops [⟨some 26, (.bin .lss (.t 25) (.t 24)), none⟩]
 [] [])
 (.seq
 (.cond (.t 26)
 .skip
 (.exit 0))
 (.seq
 (.block 1
 (.seq
 (.ops [⟨some 27, (.iad 3 (.t 23) (.t 25)), none⟩,
 ⟨some 28, (.load true 3 (.t 27)), none⟩,
 ⟨some 4, (.allocL (.agg [(.int .i64 (0)), .nils, .nils])), none⟩,
 ⟨none, (.store 3 (.t 4) (.t 28)), none⟩]
 [] [26, 27, 28])
 (.seq
 (.ops [⟨some 29, (.load true 3 (.t 4)), none⟩,
 ⟨some 30, (.call (.f 23) [(.t 29)]), none⟩,
 ⟨some 5, (.mv (.t 30)), none⟩]
 [] [4, 29, 30])
 (.seq
 (.ops [⟨some 31, (.mv (.t 5)), none⟩,
 ⟨some 32, (.bin .neq (.t 31) (.c (.int .i64 (0)))), none⟩]
 [] [31])
 (.cond (.t 32)
 (.seq
 (.ops [⟨some 33, (.mv (.t 5)), none⟩,
 ⟨some 2, (.mv (.t 33)), none⟩]
 [] [1, 5, 23, 24, 25, 32, 33])
 .ret)
 .skip)))))
 (.ops [⟨some 34, (.bin .add (.t 25) (.c (.int .i64 (1)))), none⟩,
 ⟨some 25, (.mv (.t 34)), none⟩]
 [] [5, 32, 34])))))))
 (.seq
 (.seq
 (.ops [⟨some 35, (.fad 0 (.t 1)), none⟩,
 ⟨some 36, (.load false 1 (.t 35)), none⟩,
 ⟨some 37, (.len (.t 36)), none⟩,
 ⟨some 38, (.mv (.c (.int .i64 (0)))), none⟩]
 [] [23, 24, 25, 26, 35])
 (.block 2
 (.loop
 (.seq
 (.ops [⟨some 39, (.bin .lss (.t 38) (.t 37)), none⟩]
 [] [])
 (.seq
 (.cond (.t 39)
 .skip
 (.exit 2))
 (.seq
 (.block 3
 (.seq
 (.ops [⟨some 40, (.iad 3 (.t 36) (.t 38)), none⟩,
 ⟨some 41, (.load true 3 (.t 40)), none⟩,
 ⟨some 7, (.allocL (.agg [(.int .i64 (0)), .nils, .nils])), none⟩,
 ⟨none, (.store 3 (.t 7) (.t 41)), none⟩]
 [] [39, 40, 41])
 (.seq
 (.ops [⟨some 42, (.fad 0 (.t 7)), none⟩,
 ⟨some 43, (.load false 1 (.t 42)), none⟩,
 ⟨some 44, (.fad 0 (.t 1)), none⟩,
 ⟨some 45, (.load false 1 (.t 44)), none⟩,
 ⟨some 46, (.iad 3 (.t 45) (.c (.int .i64 (0)))), none⟩,
 ⟨some 47, (.fad 0 (.t 46)), none⟩,
 ⟨some 48, (.load false 1 (.t 47)), none⟩,
 ⟨some 49, (.bin .neq (.t 43) (.t 48)), none⟩]
 [(0, 2), (1, 2), (0, 3), (1, 3), (0, 4), (1, 4), (0, 5), (1, 5), (0, 6), (1, 6)] [7, 42, 43, 44, 45, 46, 47, 48])
 (.cond (.t 49)
 (.seq
 (.ops [⟨some 2, (.mv (.c (.int .i64 (8)))), none⟩]
 [] [1, 36, 37, 38, 49])
 .ret)
 .skip))))
 (.ops [⟨some 50, (.bin .add (.t 38) (.c (.int .i64 (1)))), none⟩,
 ⟨some 38, (.mv (.t 50)), none⟩]
 [] [49, 50])))))))
 (.seq
 (.ops [⟨some 2, (.mv (.c (.int .i64 (0)))), none⟩]
 [] [1, 36, 37, 38, 39])
 .ret))))))⟩
def loc14 : List Nat := [1, 4, 7]
def fg14 : List (Nat × List Nat) := [(18, [1, 36, 37, 38, 39]), (17, [49, 50]), (16, [1, 36, 37, 38, 49]), (15, [7, 42, 43, 44, 45, 46, 47, 48]), (14, [39, 40, 41]), (12, [23, 24, 25, 26, 35]), (11, [5, 32, 34]), (10, [1, 5, 23, 24, 25, 32, 33]), (9, [31]), (8, [4, 29, 30]), (7, [26, 27, 28]), (5, [21, 22]), (4, [1, 21]), (3, [17, 18, 19, 20]), (2, [1, 17]), (1, [8, 9, 10, 11, 12, 13, 14, 15, 16]), (0, [0, 2])]
theorem comp14 : compFn Tryd.prog loc14 (fun i => (fg14.lookup i).getD []) Tryd.f14 = some lit14 := by kernel_rfl

-- slices.Equal[[]parcener/api.Query,parcener/api.Query]
def lit15 : AFn := ⟨2, [.tmp 4],
 (.seq
 (.ops [⟨some 4, (.mv (.c (.bool false))), none⟩]
 [] [4])
 (.seq
 (.seq
 (.ops [⟨some 6, (.mv (.t 0)), none⟩,
 ⟨some 7, (.len (.t 6)), none⟩,
 ⟨some 8, (.mv (.t 1)), none⟩,
 ⟨some 9, (.len (.t 8)), none⟩,
 ⟨some 10, (.bin .neq (.t 7) (.t 9)), none⟩]
 [] [6, 7, 8, 9])
 (.cond (.t 10)
 (.seq
 (.ops [⟨some 4, (.mv (.c (.bool false))), none⟩]
 [] [0, 1, 10])
 .ret)
 .skip))
 (.seq
 (.seq
 (.ops [⟨some 11, (.mv (.t 0)), none⟩,
 ⟨some 12, (.len (.t 11)), none⟩,
 ⟨some 13, (.mv (.c (.int .i64 (0)))), none⟩]
 [] [10, 11])
 (.block 0
 (.loop
 (.seq
 (.ops [⟨some 14, (.bin .lss (.t 13) (.t 12)), none⟩]
 [] [])
 (.seq
 (.cond (.t 14)
 .skip
 (.exit 0))
 (.seq
 (.block 1
 (.seq
 (.ops [⟨some 15, (.mv (.t 13)), none⟩,
 ⟨some 5, (.mv (.t 15)), none⟩]
 [] [14, 15])
 (.seq
 (.ops [⟨some 16, (.mv (.t 0)), none⟩,
 ⟨some 17, (.mv (.t 5)), none⟩,
 ⟨some 18, (.iad 8 (.t 16) (.t 17)), none⟩,
 ⟨some 19, (.load true 8 (.t 18)), none⟩,
 ⟨some 20, (.mv (.t 1)), none⟩,
 ⟨some 21, (.mv (.t 5)), none⟩,
 ⟨some 22, (.iad 8 (.t 20) (.t 21)), none⟩,
 ⟨some 23, (.load true 8 (.t 22)), none⟩,
 ⟨some 24, (.eqA true 8 [(0, (some .i64)), (1, (some .u8)), (2, (some .i64)), (3, (some .i64)), (4, (some .i64)), (5, (some .i64)), (6, (some .i64)), (7, (some .i64))] (.t 19) (.t 23)), none⟩]
 [(0, 1), (0, 4), (1, 4), (2, 4), (3, 4), (0, 5), (1, 5), (2, 5), (3, 5), (4, 5), (0, 6), (1, 6), (2, 6), (3, 6), (0, 7), (1, 7), (2, 7), (3, 7)] [5, 16, 17, 18, 19, 20, 21, 22, 23])
 (.cond (.t 24)
 (.seq
 (.ops [⟨some 4, (.mv (.c (.bool false))), none⟩]
 [] [0, 1, 12, 13, 24])
 .ret)
 .skip))))
 (.ops [⟨some 25, (.bin .add (.t 13) (.c (.int .i64 (1)))), none⟩,
 ⟨some 13, (.mv (.t 25)), none⟩]
 [] [24, 25])))))))
 (.seq
 (.ops [⟨some 4, (.mv (.c (.bool true))), none⟩]
 [] [0, 1, 12, 13, 14])
 .ret))))⟩
def loc15 : List Nat := []
def fg15 : List (Nat × List Nat) := [(9, [0, 1, 12, 13, 14]), (8, [24, 25]), (7, [0, 1, 12, 13, 24]), (6, [5, 16, 17, 18, 19, 20, 21, 22, 23]), (5, [14, 15]), (3, [10, 11]), (2, [0, 1, 10]), (1, [6, 7, 8, 9]), (0, [4])]
theorem comp15 : compFn Tryd.prog loc15 (fun i => (fg15.lookup i).getD []) Tryd.f15 = some lit15 := by kernel_rfl

-- parcener/parcenerref06.Same
def lit16 : AFn := ⟨2, [.tmp 4],
 (.seq
 (.ops [⟨some 2, (.boxL (.t 0)), none⟩,
 ⟨some 3, (.boxL (.t 1)), none⟩,
 ⟨some 4, (.mv (.c (.bool false))), none⟩]
 [] [0, 1, 4])
 (.seq
 (.seq
 (.ops [⟨some 6, (.fad 0 (.t 2)), none⟩,
 ⟨some 7, (.load false 1 (.t 6)), none⟩,
 ⟨some 8, (.len (.t 7)), none⟩,
 ⟨some 9, (.fad 0 (.t 3)), none⟩,
 ⟨some 10, (.load false 1 (.t 9)), none⟩,
 ⟨some 11, (.len (.t 10)), none⟩,
 ⟨some 12, (.bin .neq (.t 8) (.t 11)), none⟩]
 [] [6, 7, 8, 9, 10, 11])
 (.cond (.t 12)
 (.seq
 (.ops [⟨some 4, (.mv (.c (.bool false))), none⟩]
 [] [2, 3, 12])
 .ret)
 .skip))
 (.seq
 (.seq
 (.ops [⟨some 5, (.mv (.c (.int .i64 (0)))), none⟩]
 [] [12])
 (.block 0
 (.loop
 (.seq
 (.seq
 (.ops [⟨some 13, (.mv (.t 5)), none⟩,
 ⟨some 14, (.fad 0 (.t 2)), none⟩,
 ⟨some 15, (.load false 1 (.t 14)), none⟩,
 ⟨some 16, (.len (.t 15)), none⟩,
 ⟨some 17, (.bin .lss (.t 13) (.t 16)), none⟩]
 [] [13, 14, 15, 16])
 (.cond (.t 17)
 .skip
 (.exit 0)))
 (.seq
 (.block 1
 (.seq
 (.ops [⟨some 20, (.fad 0 (.t 2)), none⟩,
 ⟨some 21, (.load false 1 (.t 20)), none⟩,
 ⟨some 22, (.mv (.t 5)), none⟩,
 ⟨some 23, (.iad 1 (.t 21) (.t 22)), none⟩,
 ⟨some 24, (.load false 1 (.t 23)), none⟩,
 ⟨some 25, (.fad 0 (.t 3)), none⟩,
 ⟨some 26, (.load false 1 (.t 25)), none⟩,
 ⟨some 27, (.mv (.t 5)), none⟩,
 ⟨some 28, (.iad 1 (.t 26) (.t 27)), none⟩,
 ⟨some 29, (.load false 1 (.t 28)), none⟩,
 ⟨some 30, (.call (.f 24) [(.t 24), (.t 29)]), none⟩,
 ⟨some 31, (.un .not (.t 30)), none⟩]
 [(0, 2), (1, 2), (0, 5), (1, 5), (2, 5), (3, 5), (4, 5), (0, 6), (1, 6), (2, 6), (3, 6), (4, 6), (0, 7), (1, 7), (2, 7), (3, 7), (4, 7), (5, 7), (6, 7), (0, 8), (1, 8), (2, 8), (3, 8), (4, 8), (0, 9), (1, 9), (2, 9), (3, 9), (4, 9)] [17, 20, 21, 22, 23, 24, 25, 26, 27, 28, 29, 30])
 (.cond (.t 31)
 (.seq
 (.ops [⟨some 4, (.mv (.c (.bool false))), none⟩]
 [] [2, 3, 5, 31])
 .ret)
 .skip)))
 (.ops [⟨some 18, (.mv (.t 5)), none⟩,
 ⟨some 19, (.bin .add (.t 18) (.c (.int .i64 (1)))), none⟩,
 ⟨some 5, (.mv (.t 19)), none⟩]
 [] [18, 19, 31]))))))
 (.seq
 (.ops [⟨some 4, (.mv (.c (.bool true))), none⟩]
 [] [2, 3, 5, 17])
 .ret))))⟩
def loc16 : List Nat := [2, 3]
def fg16 : List (Nat × List Nat) := [(8, [2, 3, 5, 17]), (5, [18, 19, 31]), (7, [2, 3, 5, 31]), (6, [17, 20, 21, 22, 23, 24, 25, 26, 27, 28, 29, 30]), (4, [13, 14, 15, 16]), (3, [12]), (2, [2, 3, 12]), (1, [6, 7, 8, 9, 10, 11]), (0, [0, 1, 4])]
theorem comp16 : compFn Tryd.prog loc16 (fun i => (fg16.lookup i).getD []) Tryd.f16 = some lit16 := by kernel_rfl

-- parcener/parcenerlaw07.piece
def lit17 : AFn := ⟨2, [.tmp 4],
 (.seq
 (.ops [⟨some 2, (.boxL (.t 0)), none⟩,
 ⟨some 3, (.boxL (.t 1)), none⟩,
 ⟨some 4, (.mv (.c .nils)), none⟩]
 [] [0, 1, 4])
 (.seq
 (.ops [⟨some 5, (.load true 2 (.t 2)), none⟩,
 ⟨some 6, (.load true 2 (.t 3)), none⟩,
 ⟨some 7, (.build [(.int .i64 (0)), (.int .i64 (0)), (.int .i64 (0)), (.int .i64 (0))] [(0, 2, (.t 5)), (2, 2, (.t 6))]), none⟩,
 ⟨some 8, (.buildSl true 4 (.agg [(.int .i64 (0)), (.int .i64 (0)), (.int .i64 (0)), (.int .i64 (0))]) 1 [(0, (.t 7))]), none⟩,
 ⟨some 4, (.mv (.t 8)), none⟩]
 [] [2, 3, 5, 6, 7, 8])
 .ret))⟩
def loc17 : List Nat := [2, 3]
def fg17 : List (Nat × List Nat) := [(1, [2, 3, 5, 6, 7, 8]), (0, [0, 1, 4])]
theorem comp17 : compFn Tryd.prog loc17 (fun i => (fg17.lookup i).getD []) Tryd.f17 = some lit17 := by kernel_rfl

-- parcener/ask.copied
def lit18 : AFn := ⟨1, [.tmp 2],
 (.seq
 (.ops [⟨some 2, (.mv (.c .nils)), none⟩]
 [] [2])
 (.seq
 (.ops [⟨some 3, (.mv (.c .nils)), none⟩]
 [] [])
 (.seq
 (.seq
 (.ops [⟨some 6, (.mv (.t 0)), none⟩,
 ⟨some 7, (.len (.t 6)), none⟩,
 ⟨some 8, (.mv (.c (.int .i64 (0)))), none⟩]
 [] [0])
 (.block 0
 (.loop
 (.seq
 (.ops [⟨some 9, (.bin .lss (.t 8) (.t 7)), none⟩]
 [] [])
 (.seq
 (.cond (.t 9)
 .skip
 (.exit 0))
 (.seq
 (.block 1
 (.seq
 (.ops [⟨some 10, (.iad 3 (.t 6) (.t 8)), none⟩,
 ⟨some 11, (.load true 3 (.t 10)), none⟩,
 ⟨some 5, (.allocL (.agg [(.int .i64 (0)), .nils, .nils])), none⟩,
 ⟨none, (.store 3 (.t 5) (.t 11)), none⟩]
 [] [9, 10, 11])
 (.ops [⟨some 12, (.mv (.t 3)), none⟩,
 ⟨some 13, (.fad 0 (.t 5)), none⟩,
 ⟨some 14, (.load false 1 (.t 13)), none⟩,
 ⟨some 15, (.fad 1 (.t 5)), none⟩,
 ⟨some 16, (.load false 1 (.t 15)), none⟩,
 ⟨some 17, (.call (.f 25) [(.t 16)]), none⟩,
 ⟨some 18, (.fad 2 (.t 5)), none⟩,
 ⟨some 19, (.load false 1 (.t 18)), none⟩,
 ⟨some 20, (.call (.f 25) [(.t 19)]), none⟩,
 ⟨some 21, (.build [(.int .i64 (0)), .nils, .nils] [(0, 1, (.t 14)), (1, 1, (.t 17)), (2, 1, (.t 20))]), none⟩,
 ⟨some 22, (.buildD 3 (.agg [(.int .i64 (0)), (.data []), (.data [])]) 1 [(0, (.t 21))]), none⟩,
 ⟨some 23, (.app true 3 56 (.t 12) (.t 22)), none⟩,
 ⟨some 3, (.mv (.t 23)), none⟩]
 [(0, 1), (0, 2), (0, 3), (1, 3), (2, 3), (0, 4), (1, 4), (2, 4), (0, 5), (1, 5), (2, 5), (0, 6), (1, 6), (2, 6), (3, 6), (4, 6), (5, 6), (0, 7), (1, 7), (2, 7), (3, 7), (4, 7), (5, 7), (0, 8), (1, 8), (2, 8), (0, 9), (0, 10)] [5, 12, 13, 14, 15, 16, 17, 18, 19, 20, 21, 22, 23])))
 (.ops [⟨some 24, (.bin .add (.t 8) (.c (.int .i64 (1)))), none⟩,
 ⟨some 8, (.mv (.t 24)), none⟩]
 [] [24])))))))
 (.seq
 (.ops [⟨some 25, (.mv (.t 3)), none⟩,
 ⟨some 2, (.mv (.t 25)), none⟩]
 [] [3, 6, 7, 8, 9, 25])
 .ret))))⟩
def loc18 : List Nat := [22, 5]
def fg18 : List (Nat × List Nat) := [(7, [3, 6, 7, 8, 9, 25]), (6, [24]), (5, [5, 12, 13, 14, 15, 16, 17, 18, 19, 20, 21, 22, 23]), (4, [9, 10, 11]), (2, [0]), (0, [2])]
theorem comp18 : compFn Tryd.prog loc18 (fun i => (fg18.lookup i).getD []) Tryd.f18 = some lit18 := by kernel_rfl

-- parcener/ask.Mark
def lit19 : AFn := ⟨4, [.cell 8 true 2, .cell 9 true 2, .tmp 10],
 (.seq
 (.ops [⟨some 4, (.boxL (.t 0)), none⟩,
 ⟨some 6, (.boxL (.t 2)), none⟩,
 ⟨some 7, (.boxL (.t 3)), none⟩,
 ⟨some 8, (.allocL (.agg [.nils, .nils])), none⟩,
 ⟨some 9, (.allocL (.agg [(.int .i64 (0)), (.int .i64 (0))])), none⟩,
 ⟨some 10, (.mv (.c (.int .i64 (0)))), none⟩]
 [] [0, 2, 3, 10])
 (.seq
 (.ops [⟨some 12, (.load true 2 (.t 4)), none⟩,
 ⟨some 13, (.build [.nils, .nils] [(0, 2, (.t 12))]), none⟩,
 ⟨some 11, (.allocL (.agg [.nils, .nils])), none⟩,
 ⟨none, (.store 2 (.t 11) (.t 13)), none⟩]
 [] [4, 12, 13])
 (.seq
 (.ops [⟨some 14, (.load true 2 (.t 11)), none⟩,
 ⟨some 15, (.mv (.t 1)), none⟩,
 ⟨some 16, (.load true 2 (.t 6)), none⟩,
 ⟨some 17, (.load true 2 (.t 7)), none⟩,
 ⟨some 18, (.build [(.int .i64 (0)), (.int .u8 (0)), (.int .i64 (0)), (.int .i64 (0)), (.int .i64 (0)), (.int .i64 (0)), (.int .i64 (0)), (.int .i64 (0))] [(0, 1, (.t 15)), (1, 1, (.c (.int .u8 (2)))), (2, 2, (.t 16)), (4, 2, (.t 17))]), none⟩,
 ⟨some 19, (.load true 2 (.t 11)), none⟩,
 ⟨some 20, (.mkFn (.func 27) [(.t 19)] []), none⟩,
 ⟨some 21, (.call (.f 26) [(.t 14), (.t 18), (.t 20)]), none⟩,
 ⟨some 22, (.ext (.t 21) 0), none⟩,
 ⟨some 23, (.ext (.t 21) 1), none⟩,
 ⟨some 24, (.ext (.t 21) 2), none⟩,
 ⟨none, (.store 2 (.t 8) (.t 22)), none⟩,
 ⟨none, (.store 2 (.t 9) (.t 23)), none⟩,
 ⟨some 10, (.mv (.t 24)), none⟩]
 [] [1, 6, 7, 11, 14, 15, 16, 17, 18, 19, 20, 21, 22, 23, 24])
 .ret)))⟩
def loc19 : List Nat := [4, 6, 7, 8, 9, 11]
def fg19 : List (Nat × List Nat) := [(2, [1, 6, 7, 11, 14, 15, 16, 17, 18, 19, 20, 21, 22, 23, 24]), (1, [4, 12, 13]), (0, [0, 2, 3, 10])]
theorem comp19 : compFn Tryd.prog loc19 (fun i => (fg19.lookup i).getD []) Tryd.f19 = some lit19 := by kernel_rfl

-- parcener/choose.half
def lit20 : AFn := ⟨1, [.cell 2 true 2],
 (.seq
 (.ops [⟨some 1, (.boxL (.t 0)), none⟩,
 ⟨some 2, (.allocL (.agg [(.int .i64 (0)), (.int .i64 (0))])), none⟩]
 [] [0])
 (.seq
 (.ops [⟨some 8, (.load true 3 (.t 1)), none⟩,
 ⟨some 9, (.call (.f 28) [(.t 8)]), none⟩,
 ⟨some 7, (.mv (.t 9)), none⟩,
 ⟨some 10, (.ext (.t 7) 0), none⟩,
 ⟨some 11, (.ext (.t 7) 1), none⟩,
 ⟨some 3, (.mv (.t 10)), none⟩,
 ⟨some 4, (.mv (.t 11)), none⟩]
 [] [1, 4, 7, 8, 9, 10, 11])
 (.seq
 (.ops [⟨some 13, (.mv (.t 3)), none⟩,
 ⟨some 14, (.call (.f 29) [(.t 13), (.c (.int .i64 (2)))]), none⟩,
 ⟨some 12, (.mv (.t 14)), none⟩,
 ⟨some 15, (.ext (.t 12) 0), none⟩,
 ⟨some 16, (.ext (.t 12) 1), none⟩,
 ⟨some 5, (.allocL (.agg [(.int .i64 (0)), (.int .i64 (0))])), none⟩,
 ⟨none, (.store 2 (.t 5) (.t 15)), none⟩,
 ⟨some 6, (.mv (.t 16)), none⟩]
 [] [3, 6, 12, 13, 14, 15, 16])
 (.seq
 (.ops [⟨some 17, (.load true 2 (.t 5)), none⟩,
 ⟨none, (.store 2 (.t 2) (.t 17)), none⟩]
 [] [5, 17])
 .ret))))⟩
def loc20 : List Nat := [1, 2, 5]
def fg20 : List (Nat × List Nat) := [(3, [5, 17]), (2, [3, 6, 12, 13, 14, 15, 16]), (1, [1, 4, 7, 8, 9, 10, 11]), (0, [0])]
theorem comp20 : compFn Tryd.prog loc20 (fun i => (fg20.lookup i).getD []) Tryd.f20 = some lit20 := by kernel_rfl

-- parcener/ask.Value
def lit21 : AFn := ⟨4, [.cell 8 true 2, .cell 9 true 2, .tmp 10],
 (.seq
 (.ops [⟨some 4, (.boxL (.t 0)), none⟩,
 ⟨some 6, (.boxL (.t 2)), none⟩,
 ⟨some 7, (.boxL (.t 3)), none⟩,
 ⟨some 8, (.allocL (.agg [.nils, .nils])), none⟩,
 ⟨some 9, (.allocL (.agg [(.int .i64 (0)), (.int .i64 (0))])), none⟩,
 ⟨some 10, (.mv (.c (.int .i64 (0)))), none⟩]
 [] [0, 2, 3, 10])
 (.seq
 (.ops [⟨some 12, (.load true 2 (.t 4)), none⟩,
 ⟨some 13, (.build [.nils, .nils] [(0, 2, (.t 12))]), none⟩,
 ⟨some 11, (.allocL (.agg [.nils, .nils])), none⟩,
 ⟨none, (.store 2 (.t 11) (.t 13)), none⟩]
 [] [4, 12, 13])
 (.seq
 (.ops [⟨some 14, (.load true 2 (.t 11)), none⟩,
 ⟨some 15, (.mv (.t 1)), none⟩,
 ⟨some 16, (.load true 2 (.t 6)), none⟩,
 ⟨some 17, (.load true 2 (.t 7)), none⟩,
 ⟨some 18, (.build [(.int .i64 (0)), (.int .u8 (0)), (.int .i64 (0)), (.int .i64 (0)), (.int .i64 (0)), (.int .i64 (0)), (.int .i64 (0)), (.int .i64 (0))] [(0, 1, (.t 15)), (1, 1, (.c (.int .u8 (1)))), (2, 2, (.t 16)), (4, 2, (.t 17))]), none⟩,
 ⟨some 19, (.load true 2 (.t 11)), none⟩,
 ⟨some 20, (.mkFn (.func 30) [(.t 19)] []), none⟩,
 ⟨some 21, (.call (.f 26) [(.t 14), (.t 18), (.t 20)]), none⟩,
 ⟨some 22, (.ext (.t 21) 0), none⟩,
 ⟨some 23, (.ext (.t 21) 1), none⟩,
 ⟨some 24, (.ext (.t 21) 2), none⟩,
 ⟨none, (.store 2 (.t 8) (.t 22)), none⟩,
 ⟨none, (.store 2 (.t 9) (.t 23)), none⟩,
 ⟨some 10, (.mv (.t 24)), none⟩]
 [] [1, 6, 7, 11, 14, 15, 16, 17, 18, 19, 20, 21, 22, 23, 24])
 .ret)))⟩
def loc21 : List Nat := [4, 6, 7, 8, 9, 11]
def fg21 : List (Nat × List Nat) := [(2, [1, 6, 7, 11, 14, 15, 16, 17, 18, 19, 20, 21, 22, 23, 24]), (1, [4, 12, 13]), (0, [0, 2, 3, 10])]
theorem comp21 : compFn Tryd.prog loc21 (fun i => (fg21.lookup i).getD []) Tryd.f21 = some lit21 := by kernel_rfl

-- parcener/ratio.Cmp
def lit22 : AFn := ⟨2, [.tmp 4, .tmp 5],
 (.seq
 (.ops [⟨some 2, (.boxL (.t 0)), none⟩,
 ⟨some 3, (.boxL (.t 1)), none⟩,
 ⟨some 4, (.mv (.c (.int .i64 (0)))), none⟩,
 ⟨some 5, (.mv (.c (.int .i64 (0)))), none⟩]
 [] [0, 1, 4, 5])
 (.seq
 (.seq
 (.ops [⟨some 12, (.load true 2 (.t 2)), none⟩,
 ⟨some 13, (.load true 2 (.t 3)), none⟩,
 ⟨some 14, (.call (.f 31) [(.t 12), (.t 13)]), none⟩,
 ⟨some 6, (.mv (.t 14)), none⟩]
 [] [12, 13, 14])
 (.seq
 (.ops [⟨some 15, (.mv (.t 6)), none⟩,
 ⟨some 16, (.bin .neq (.t 15) (.c (.int .i64 (0)))), none⟩]
 [] [15])
 (.cond (.t 16)
 (.seq
 (.ops [⟨some 17, (.mv (.t 6)), none⟩,
 ⟨some 4, (.mv (.c (.int .i64 (0)))), none⟩,
 ⟨some 5, (.mv (.t 17)), none⟩]
 [] [2, 3, 6, 16, 17])
 .ret)
 .skip)))
 (.seq
 (.seq
 (.ops [⟨some 18, (.fad 0 (.t 2)), none⟩,
 ⟨some 19, (.load false 1 (.t 18)), none⟩,
 ⟨some 20, (.bin .lss (.t 19) (.c (.int .i64 (0)))), none⟩,
 ⟨some 21, (.fad 0 (.t 3)), none⟩,
 ⟨some 22, (.load false 1 (.t 21)), none⟩,
 ⟨some 23, (.bin .lss (.t 22) (.c (.int .i64 (0)))), none⟩,
 ⟨some 24, (.eqB true (.t 20) (.t 23)), none⟩]
 [] [6, 16, 18, 19, 20, 21, 22, 23])
 (.cond (.t 24)
 (.seq
 (.ops [⟨some 25, (.fad 0 (.t 2)), none⟩,
 ⟨some 26, (.load false 1 (.t 25)), none⟩,
 ⟨some 27, (.fad 0 (.t 3)), none⟩,
 ⟨some 28, (.load false 1 (.t 27)), none⟩,
 ⟨some 29, (.call (.f 32) [(.t 26), (.t 28)]), none⟩,
 ⟨some 4, (.mv (.t 29)), none⟩,
 ⟨some 5, (.mv (.c (.int .i64 (0)))), none⟩]
 [] [2, 3, 24, 25, 26, 27, 28, 29])
 .ret)
 .skip))
 (.seq
 (.ops [⟨some 31, (.fad 0 (.t 2)), none⟩,
 ⟨some 32, (.load false 1 (.t 31)), none⟩,
 ⟨some 33, (.call (.f 34) [(.t 32)]), none⟩,
 ⟨some 34, (.fad 1 (.t 3)), none⟩,
 ⟨some 35, (.load false 1 (.t 34)), none⟩,
 ⟨some 36, (.conv .u64 (.t 35)), none⟩,
 ⟨some 37, (.call (.f 33) [(.t 33), (.t 36)]), none⟩,
 ⟨some 30, (.mv (.t 37)), none⟩,
 ⟨some 38, (.ext (.t 30) 0), none⟩,
 ⟨some 39, (.ext (.t 30) 1), none⟩,
 ⟨some 7, (.mv (.t 38)), none⟩,
 ⟨some 8, (.mv (.t 39)), none⟩]
 [(0, 3), (1, 3), (2, 3), (0, 4), (1, 4), (2, 4), (0, 5), (1, 5), (2, 5), (8, 9), (9, 10)] [24, 30, 31, 32, 33, 34, 35, 36, 37, 38, 39])
 (.seq
 (.ops [⟨some 41, (.fad 0 (.t 3)), none⟩,
 ⟨some 42, (.load false 1 (.t 41)), none⟩,
 ⟨some 43, (.call (.f 34) [(.t 42)]), none⟩,
 ⟨some 44, (.fad 1 (.t 2)), none⟩,
 ⟨some 45, (.load false 1 (.t 44)), none⟩,
 ⟨some 46, (.conv .u64 (.t 45)), none⟩,
 ⟨some 47, (.call (.f 33) [(.t 43), (.t 46)]), none⟩,
 ⟨some 40, (.mv (.t 47)), none⟩,
 ⟨some 48, (.ext (.t 40) 0), none⟩,
 ⟨some 49, (.ext (.t 40) 1), none⟩,
 ⟨some 9, (.mv (.t 48)), none⟩,
 ⟨some 10, (.mv (.t 49)), none⟩]
 [(0, 3), (1, 3), (2, 3), (0, 4), (1, 4), (2, 4), (0, 5), (1, 5), (2, 5), (8, 9), (9, 10)] [3, 40, 41, 42, 43, 44, 45, 46, 47, 48, 49])
 (.seq
 (.ops [⟨some 50, (.mv (.t 7)), none⟩,
 ⟨some 51, (.mv (.t 9)), none⟩,
 ⟨some 52, (.call (.f 36) [(.t 50), (.t 51)]), none⟩,
 ⟨some 53, (.mv (.t 8)), none⟩,
 ⟨some 54, (.mv (.t 10)), none⟩,
 ⟨some 55, (.call (.f 36) [(.t 53), (.t 54)]), none⟩,
 ⟨some 56, (.buildD 1 (.int .i64 (0)) 2 [(0, (.t 52)), (1, (.t 55))]), none⟩,
 ⟨some 57, (.call (.f 35) [(.t 56)]), none⟩,
 ⟨some 11, (.mv (.t 57)), none⟩]
 [] [7, 8, 9, 10, 50, 51, 52, 53, 54, 55, 56, 57])
 (.seq
 (.seq
 (.ops [⟨some 58, (.fad 0 (.t 2)), none⟩,
 ⟨some 59, (.load false 1 (.t 58)), none⟩,
 ⟨some 60, (.bin .lss (.t 59) (.c (.int .i64 (0)))), none⟩]
 [] [2, 58, 59])
 (.cond (.t 60)
 (.ops [⟨some 61, (.mv (.t 11)), none⟩,
 ⟨some 62, (.un .neg (.t 61)), none⟩,
 ⟨some 11, (.mv (.t 62)), none⟩]
 [] [60, 61, 62])
 .skip))
 (.seq
 (.ops [⟨some 63, (.mv (.t 11)), none⟩,
 ⟨some 4, (.mv (.t 63)), none⟩,
 ⟨some 5, (.mv (.c (.int .i64 (0)))), none⟩]
 [] [11, 60, 63])
 .ret))))))))⟩
def loc22 : List Nat := [56, 2, 3]
def fg22 : List (Nat × List Nat) := [(11, [11, 60, 63]), (10, [60, 61, 62]), (9, [2, 58, 59]), (8, [7, 8, 9, 10, 50, 51, 52, 53, 54, 55, 56, 57]), (7, [3, 40, 41, 42, 43, 44, 45, 46, 47, 48, 49]), (6, [24, 30, 31, 32, 33, 34, 35, 36, 37, 38, 39]), (5, [2, 3, 24, 25, 26, 27, 28, 29]), (4, [6, 16, 18, 19, 20, 21, 22, 23]), (3, [2, 3, 6, 16, 17]), (2, [15]), (1, [12, 13, 14]), (0, [0, 1, 4, 5])]
theorem comp22 : compFn Tryd.prog loc22 (fun i => (fg22.lookup i).getD []) Tryd.f22 = some lit22 := by kernel_rfl

-- parcener/cake.Check
def lit23 : AFn := ⟨1, [.tmp 2],
 (.seq
 (.ops [⟨some 1, (.boxL (.t 0)), none⟩,
 ⟨some 2, (.mv (.c (.int .i64 (0)))), none⟩]
 [] [0, 2])
 (.seq
 (.ops [⟨some 5, (.fad 1 (.t 1)), none⟩,
 ⟨some 6, (.load false 1 (.t 5)), none⟩,
 ⟨some 7, (.len (.t 6)), none⟩,
 ⟨some 3, (.mv (.t 7)), none⟩]
 [] [5, 6, 7])
 (.seq
 (.seq
 (.ops [⟨some 8, (.fad 0 (.t 1)), none⟩,
 ⟨some 9, (.load false 1 (.t 8)), none⟩,
 ⟨some 10, (.bin .gtr (.t 9) (.c (.int .i64 (1000)))), none⟩,
 ⟨some 11, (.mv (.t 10)), none⟩,
 ⟨some 12, (.mv (.t 3)), some (11, false)⟩,
 ⟨some 13, (.bin .gtr (.t 12) (.c (.int .i64 (40)))), some (11, false)⟩,
 ⟨some 14, (.pick (.t 11) (.c (.bool true)) (.t 13)), none⟩]
 [] [8, 9, 10, 11, 12, 13])
 (.cond (.t 14)
 (.seq
 (.ops [⟨some 2, (.mv (.c (.int .i64 (4)))), none⟩]
 [] [1, 3, 14])
 .ret)
 .skip))
 (.seq
 (.seq
 (.ops [⟨some 15, (.fad 0 (.t 1)), none⟩,
 ⟨some 16, (.load false 1 (.t 15)), none⟩,
 ⟨some 17, (.bin .lss (.t 16) (.c (.int .i64 (1)))), none⟩,
 ⟨some 18, (.mv (.t 17)), none⟩,
 ⟨some 19, (.mv (.t 3)), some (18, false)⟩,
 ⟨some 20, (.bin .lss (.t 19) (.c (.int .i64 (2)))), some (18, false)⟩,
 ⟨some 21, (.pick (.t 18) (.c (.bool true)) (.t 20)), none⟩,
 ⟨some 22, (.mv (.t 21)), none⟩,
 ⟨some 23, (.fad 2 (.t 1)), some (22, false)⟩,
 ⟨some 24, (.load false 1 (.t 23)), some (22, false)⟩,
 ⟨some 25, (.len (.t 24)), some (22, false)⟩,
 ⟨some 26, (.mv (.t 3)), some (22, false)⟩,
 ⟨some 27, (.bin .sub (.t 26) (.c (.int .i64 (1)))), some (22, false)⟩,
 ⟨some 28, (.bin .neq (.t 25) (.t 27)), some (22, false)⟩,
 ⟨some 29, (.pick (.t 22) (.c (.bool true)) (.t 28)), none⟩,
 ⟨some 30, (.mv (.t 29)), none⟩,
 ⟨some 31, (.fad 1 (.t 1)), some (30, false)⟩,
 ⟨some 32, (.load false 1 (.t 31)), some (30, false)⟩,
 ⟨some 33, (.iad 1 (.t 32) (.c (.int .i64 (0)))), some (30, false)⟩,
 ⟨some 34, (.load false 1 (.t 33)), some (30, false)⟩,
 ⟨some 35, (.bin .neq (.t 34) (.c (.int .i64 (0)))), some (30, false)⟩,
 ⟨some 36, (.pick (.t 30) (.c (.bool true)) (.t 35)), none⟩,
 ⟨some 37, (.mv (.t 36)), none⟩,
 ⟨some 38, (.fad 1 (.t 1)), some (37, false)⟩,
 ⟨some 39, (.load false 1 (.t 38)), some (37, false)⟩,
 ⟨some 40, (.mv (.t 3)), some (37, false)⟩,
 ⟨some 41, (.bin .sub (.t 40) (.c (.int .i64 (1)))), some (37, false)⟩,
 ⟨some 42, (.iad 1 (.t 39) (.t 41)), some (37, false)⟩,
 ⟨some 43, (.load false 1 (.t 42)), some (37, false)⟩,
 ⟨some 44, (.fad 0 (.t 1)), some (37, false)⟩,
 ⟨some 45, (.load false 1 (.t 44)), some (37, false)⟩,
 ⟨some 46, (.bin .neq (.t 43) (.t 45)), some (37, false)⟩,
 ⟨some 47, (.pick (.t 37) (.c (.bool true)) (.t 46)), none⟩]
 [(8, 11), (9, 11), (10, 11), (8, 12), (9, 12), (10, 12), (23, 25), (24, 25), (23, 26), (24, 26), (23, 29), (24, 29), (25, 29), (26, 29), (27, 29), (28, 29), (23, 30), (24, 30), (25, 30), (26, 30), (27, 30), (28, 30)] [14, 15, 16, 17, 18, 19, 20, 21, 22, 23, 24, 25, 26, 27, 28, 29, 30, 31, 32, 33, 34, 35, 36, 37, 38, 39, 40, 41, 42, 43, 44, 45, 46])
 (.cond (.t 47)
 (.seq
 (.ops [⟨some 2, (.mv (.c (.int .i64 (8)))), none⟩]
 [] [1, 3, 47])
 .ret)
 .skip))
 (.seq
 (.seq
 (.ops [⟨some 48, (.mv (.t 3)), none⟩,
 ⟨some 49, (.bin .sub (.t 48) (.c (.int .i64 (1)))), none⟩,
 ⟨some 50, (.mv (.c (.int .i64 (0)))), none⟩]
 [] [3, 47, 48])
 (.block 0
 (.loop
 (.seq
 (.ops [⟨some 51, (.bin .lss (.t 50) (.t 49)), none⟩]
 [] [])
 (.seq
 (.cond (.t 51)
 .skip
 (.exit 0))
 (.seq
 (.block 1
 (.seq
 (.ops [⟨some 52, (.mv (.t 50)), none⟩,
 ⟨some 4, (.mv (.t 52)), none⟩]
 [] [51, 52])
 (.seq
 (.ops [⟨some 53, (.fad 1 (.t 1)), none⟩,
 ⟨some 54, (.load false 1 (.t 53)), none⟩,
 ⟨some 55, (.mv (.t 4)), none⟩,
 ⟨some 56, (.iad 1 (.t 54) (.t 55)), none⟩,
 ⟨some 57, (.load false 1 (.t 56)), none⟩,
 ⟨some 58, (.fad 1 (.t 1)), none⟩,
 ⟨some 59, (.load false 1 (.t 58)), none⟩,
 ⟨some 60, (.mv (.t 4)), none⟩,
 ⟨some 61, (.bin .add (.t 60) (.c (.int .i64 (1)))), none⟩,
 ⟨some 62, (.iad 1 (.t 59) (.t 61)), none⟩,
 ⟨some 63, (.load false 1 (.t 62)), none⟩,
 ⟨some 64, (.bin .geq (.t 57) (.t 63)), none⟩]
 [(0, 2), (1, 2), (0, 5), (1, 5), (2, 5), (3, 5), (4, 5), (0, 6), (1, 6), (2, 6), (3, 6), (4, 6), (0, 7), (1, 7), (2, 7), (3, 7), (4, 7), (5, 7), (6, 7), (0, 8), (1, 8), (2, 8), (3, 8), (4, 8), (5, 8), (6, 8), (0, 9), (1, 9), (2, 9), (3, 9), (4, 9), (0, 10), (1, 10), (2, 10), (3, 10), (4, 10)] [4, 53, 54, 55, 56, 57, 58, 59, 60, 61, 62, 63])
 (.cond (.t 64)
 (.seq
 (.ops [⟨some 2, (.mv (.c (.int .i64 (8)))), none⟩]
 [] [1, 49, 50, 64])
 .ret)
 .skip))))
 (.ops [⟨some 65, (.bin .add (.t 50) (.c (.int .i64 (1)))), none⟩,
 ⟨some 50, (.mv (.t 65)), none⟩]
 [] [64, 65])))))))
 (.seq
 (.seq
 (.ops [⟨some 66, (.fad 2 (.t 1)), none⟩,
 ⟨some 67, (.load false 1 (.t 66)), none⟩,
 ⟨some 68, (.call (.f 37) [(.t 67)]), none⟩,
 ⟨some 69, (.bin .lss (.t 68) (.c (.int .i64 (0)))), none⟩,
 ⟨some 70, (.mv (.t 69)), none⟩,
 ⟨some 71, (.fad 2 (.t 1)), some (70, false)⟩,
 ⟨some 72, (.load false 1 (.t 71)), some (70, false)⟩,
 ⟨some 73, (.call (.f 38) [(.t 72)]), some (70, false)⟩,
 ⟨some 74, (.bin .gtr (.t 73) (.c (.int .i64 (12)))), some (70, false)⟩,
 ⟨some 75, (.pick (.t 70) (.c (.bool true)) (.t 74)), none⟩,
 ⟨some 76, (.mv (.t 75)), none⟩,
 ⟨some 77, (.fad 2 (.t 1)), some (76, false)⟩,
 ⟨some 78, (.load false 1 (.t 77)), some (76, false)⟩,
 ⟨some 79, (.call (.f 38) [(.t 78)]), some (76, false)⟩,
 ⟨some 80, (.bin .eql (.t 79) (.c (.int .i64 (0)))), some (76, false)⟩,
 ⟨some 81, (.pick (.t 76) (.c (.bool true)) (.t 80)), none⟩]
 [] [1, 49, 50, 51, 66, 67, 68, 69, 70, 71, 72, 73, 74, 75, 76, 77, 78, 79, 80])
 (.cond (.t 81)
 (.seq
 (.ops [⟨some 2, (.mv (.c (.int .i64 (8)))), none⟩]
 [] [81])
 .ret)
 .skip))
 (.seq
 (.ops [⟨some 2, (.mv (.c (.int .i64 (0)))), none⟩]
 [] [81])
 .ret)))))))⟩
def loc23 : List Nat := [1]
def fg23 : List (Nat × List Nat) := [(14, [81]), (13, [81]), (12, [1, 49, 50, 51, 66, 67, 68, 69, 70, 71, 72, 73, 74, 75, 76, 77, 78, 79, 80]), (11, [64, 65]), (10, [1, 49, 50, 64]), (9, [4, 53, 54, 55, 56, 57, 58, 59, 60, 61, 62, 63]), (8, [51, 52]), (6, [3, 47, 48]), (5, [1, 3, 47]), (4, [14, 15, 16, 17, 18, 19, 20, 21, 22, 23, 24, 25, 26, 27, 28, 29, 30, 31, 32, 33, 34, 35, 36, 37, 38, 39, 40, 41, 42, 43, 44, 45, 46]), (3, [1, 3, 14]), (2, [8, 9, 10, 11, 12, 13]), (1, [5, 6, 7]), (0, [0, 2])]
theorem comp23 : compFn Tryd.prog loc23 (fun i => (fg23.lookup i).getD []) Tryd.f23 = some lit23 := by kernel_rfl

-- parcener/parcenerref03.Same
def lit24 : AFn := ⟨2, [.tmp 4],
 (.seq
 (.ops [⟨some 4, (.mv (.c (.bool false))), none⟩]
 [] [4])
 (.seq
 (.seq
 (.ops [⟨some 6, (.mv (.t 0)), none⟩,
 ⟨some 7, (.len (.t 6)), none⟩,
 ⟨some 8, (.mv (.t 1)), none⟩,
 ⟨some 9, (.len (.t 8)), none⟩,
 ⟨some 10, (.bin .neq (.t 7) (.t 9)), none⟩]
 [] [6, 7, 8, 9])
 (.cond (.t 10)
 (.seq
 (.ops [⟨some 4, (.mv (.c (.bool false))), none⟩]
 [] [0, 1, 10])
 .ret)
 .skip))
 (.seq
 (.seq
 (.ops [⟨some 5, (.mv (.c (.int .i64 (0)))), none⟩]
 [] [10])
 (.block 0
 (.loop
 (.seq
 (.seq
 (.ops [⟨some 11, (.mv (.t 5)), none⟩,
 ⟨some 12, (.mv (.t 0)), none⟩,
 ⟨some 13, (.len (.t 12)), none⟩,
 ⟨some 14, (.bin .lss (.t 11) (.t 13)), none⟩]
 [] [11, 12, 13])
 (.cond (.t 14)
 .skip
 (.exit 0)))
 (.seq
 (.block 1
 (.seq
 (.ops [⟨some 17, (.mv (.t 0)), none⟩,
 ⟨some 18, (.mv (.t 5)), none⟩,
 ⟨some 19, (.iad 4 (.t 17) (.t 18)), none⟩,
 ⟨some 20, (.load true 4 (.t 19)), none⟩,
 ⟨some 21, (.mv (.t 1)), none⟩,
 ⟨some 22, (.mv (.t 5)), none⟩,
 ⟨some 23, (.iad 4 (.t 21) (.t 22)), none⟩,
 ⟨some 24, (.load true 4 (.t 23)), none⟩,
 ⟨some 25, (.eqA true 4 [(0, (some .i64)), (1, (some .i64)), (2, (some .i64)), (3, (some .i64))] (.t 20) (.t 24)), none⟩]
 [(0, 1), (0, 4), (1, 4), (2, 4), (3, 4), (0, 5), (1, 5), (2, 5), (3, 5), (4, 5), (0, 6), (1, 6), (2, 6), (3, 6), (0, 7), (1, 7), (2, 7), (3, 7)] [14, 17, 18, 19, 20, 21, 22, 23, 24])
 (.cond (.t 25)
 (.seq
 (.ops [⟨some 4, (.mv (.c (.bool false))), none⟩]
 [] [0, 1, 5, 25])
 .ret)
 .skip)))
 (.ops [⟨some 15, (.mv (.t 5)), none⟩,
 ⟨some 16, (.bin .add (.t 15) (.c (.int .i64 (1)))), none⟩,
 ⟨some 5, (.mv (.t 16)), none⟩]
 [] [15, 16, 25]))))))
 (.seq
 (.ops [⟨some 4, (.mv (.c (.bool true))), none⟩]
 [] [0, 1, 5, 14])
 .ret))))⟩
def loc24 : List Nat := []
def fg24 : List (Nat × List Nat) := [(8, [0, 1, 5, 14]), (5, [15, 16, 25]), (7, [0, 1, 5, 25]), (6, [14, 17, 18, 19, 20, 21, 22, 23, 24]), (4, [11, 12, 13]), (3, [10]), (2, [0, 1, 10]), (1, [6, 7, 8, 9]), (0, [4])]
theorem comp24 : compFn Tryd.prog loc24 (fun i => (fg24.lookup i).getD []) Tryd.f24 = some lit24 := by kernel_rfl

-- slices.Clone[[]int,int]
def lit25 : AFn := ⟨1, [.tmp 2],
 (.seq
 (.ops [⟨some 2, (.mv (.c .nils)), none⟩]
 [] [2])
 (.seq
 (.seq
 (.ops [⟨some 3, (.mv (.t 0)), none⟩,
 ⟨some 4, (.eqN false (.t 3)), none⟩]
 [] [3])
 (.cond (.t 4)
 (.seq
 (.ops [⟨some 2, (.mv (.c .nils)), none⟩]
 [] [0, 4])
 .ret)
 .skip))
 (.seq
 (.ops [⟨some 5, (.buildSl true 1 (.int .i64 (0)) 0 []), none⟩,
 ⟨some 6, (.mv (.t 0)), none⟩,
 ⟨some 7, (.app true 1 8 (.t 5) (.t 6)), none⟩,
 ⟨some 2, (.mv (.t 7)), none⟩]
 [] [0, 4, 5, 6, 7])
 .ret)))⟩
def loc25 : List Nat := []
def fg25 : List (Nat × List Nat) := [(3, [0, 4, 5, 6, 7]), (2, [0, 4]), (1, [3]), (0, [2])]
theorem comp25 : compFn Tryd.prog loc25 (fun i => (fg25.lookup i).getD []) Tryd.f25 = some lit25 := by kernel_rfl

-- (parcener/ask.office).ask
def lit26 : AFn := ⟨3, [.cell 6 true 2, .cell 7 true 2, .tmp 8],
 (.seq
 (.ops [⟨some 3, (.boxL (.t 0)), none⟩,
 ⟨some 4, (.boxL (.t 1)), none⟩,
 ⟨some 6, (.allocL (.agg [.nils, .nils])), none⟩,
 ⟨some 7, (.allocL (.agg [(.int .i64 (0)), (.int .i64 (0))])), none⟩,
 ⟨some 8, (.mv (.c (.int .i64 (0)))), none⟩]
 [] [0, 1, 8])
 (.seq
 (.seq
 (.ops [⟨some 13, (.fad 0 (.t 3)), none⟩,
 ⟨some 14, (.load true 2 (.t 13)), none⟩,
 ⟨some 15, (.call (.f 14) [(.t 14)]), none⟩,
 ⟨some 9, (.mv (.t 15)), none⟩]
 [] [13, 14, 15])
 (.seq
 (.ops [⟨some 16, (.mv (.t 9)), none⟩,
 ⟨some 17, (.bin .neq (.t 16) (.c (.int .i64 (0)))), none⟩]
 [] [16])
 (.cond (.t 17)
 (.seq
 (.ops [⟨some 18, (.build [.nils, .nils] []), none⟩,
 ⟨some 19, (.build [(.int .i64 (0)), (.int .i64 (0))] []), none⟩,
 ⟨some 20, (.mv (.t 9)), none⟩,
 ⟨none, (.store 2 (.t 6) (.t 18)), none⟩,
 ⟨none, (.store 2 (.t 7) (.t 19)), none⟩,
 ⟨some 8, (.mv (.t 20)), none⟩]
 [] [2, 3, 4, 9, 17, 18, 19, 20])
 .ret)
 .skip)))
 (.seq
 (.seq
 (.ops [⟨some 21, (.load true 2 (.t 3)), none⟩,
 ⟨some 22, (.fad 0 (.t 4)), none⟩,
 ⟨some 23, (.load false 1 (.t 22)), none⟩,
 ⟨some 24, (.call (.f 39) [(.t 21), (.t 23)]), none⟩,
 ⟨some 25, (.un .not (.t 24)), none⟩]
 [] [9, 17, 21, 22, 23, 24])
 (.cond (.t 25)
 (.seq
 (.ops [⟨some 26, (.build [.nils, .nils] []), none⟩,
 ⟨some 27, (.build [(.int .i64 (0)), (.int .i64 (0))] []), none⟩,
 ⟨none, (.store 2 (.t 6) (.t 26)), none⟩,
 ⟨none, (.store 2 (.t 7) (.t 27)), none⟩,
 ⟨some 8, (.mv (.c (.int .i64 (2)))), none⟩]
 [] [2, 3, 4, 25, 26, 27])
 .ret)
 .skip))
 (.seq
 (.ops [⟨some 29, (.mv (.t 2)), none⟩,
 ⟨some 30, (.fad 0 (.t 4)), none⟩,
 ⟨some 31, (.load false 1 (.t 30)), none⟩,
 ⟨some 32, (.fad 2 (.t 4)), none⟩,
 ⟨some 33, (.load true 2 (.t 32)), none⟩,
 ⟨some 34, (.fad 4 (.t 4)), none⟩,
 ⟨some 35, (.load true 2 (.t 34)), none⟩,
 ⟨some 36, (.call (.t 29) [(.t 31), (.t 33), (.t 35)]), none⟩,
 ⟨some 28, (.mv (.t 36)), none⟩,
 ⟨some 37, (.ext (.t 28) 0), none⟩,
 ⟨some 38, (.ext (.t 28) 1), none⟩,
 ⟨some 10, (.allocL (.agg [(.int .i64 (0)), (.int .i64 (0))])), none⟩,
 ⟨none, (.store 2 (.t 10) (.t 37)), none⟩,
 ⟨some 11, (.mv (.t 38)), none⟩]
 [] [2, 25, 28, 29, 30, 31, 32, 33, 34, 35, 36, 37, 38])
 (.seq
 (.seq
 (.ops [⟨some 39, (.mv (.t 11)), none⟩,
 ⟨some 40, (.bin .neq (.t 39) (.c (.int .i64 (0)))), none⟩]
 [] [39])
 (.cond (.t 40)
 (.seq
 (.ops [⟨some 41, (.build [.nils, .nils] []), none⟩,
 ⟨some 42, (.build [(.int .i64 (0)), (.int .i64 (0))] []), none⟩,
 ⟨some 43, (.mv (.t 11)), none⟩,
 ⟨none, (.store 2 (.t 6) (.t 41)), none⟩,
 ⟨none, (.store 2 (.t 7) (.t 42)), none⟩,
 ⟨some 8, (.mv (.t 43)), none⟩]
 [] [3, 4, 10, 11, 40, 41, 42, 43])
 .ret)
 .skip))
 (.seq
 (.seq
 (.ops [⟨some 44, (.fad 0 (.t 3)), none⟩,
 ⟨some 45, (.fad 1 (.t 44)), none⟩,
 ⟨some 46, (.load false 1 (.t 45)), none⟩,
 ⟨some 47, (.len (.t 46)), none⟩,
 ⟨some 48, (.bin .geq (.t 47) (.c (.int .i64 (2000)))), none⟩]
 [] [11, 40, 44, 45, 46, 47])
 (.cond (.t 48)
 (.seq
 (.ops [⟨some 49, (.build [.nils, .nils] []), none⟩,
 ⟨some 50, (.build [(.int .i64 (0)), (.int .i64 (0))] []), none⟩,
 ⟨none, (.store 2 (.t 6) (.t 49)), none⟩,
 ⟨none, (.store 2 (.t 7) (.t 50)), none⟩,
 ⟨some 8, (.mv (.c (.int .i64 (4)))), none⟩]
 [] [3, 4, 10, 48, 49, 50])
 .ret)
 .skip))
 (.seq
 (.ops [⟨some 51, (.load true 2 (.t 10)), none⟩,
 ⟨some 52, (.fad 6 (.t 4)), none⟩,
 ⟨none, (.store 2 (.t 52) (.t 51)), none⟩]
 [] [48, 51, 52])
 (.seq
 (.ops [⟨some 53, (.fad 0 (.t 3)), none⟩,
 ⟨some 54, (.fad 1 (.t 53)), none⟩,
 ⟨some 55, (.load false 1 (.t 54)), none⟩,
 ⟨some 56, (.len (.t 55)), none⟩,
 ⟨some 57, (.bin .add (.t 56) (.c (.int .i64 (1)))), none⟩,
 ⟨some 58, (.mkSl true 8 64 (.agg [(.int .i64 (0)), (.int .u8 (0)), (.int .i64 (0)), (.int .i64 (0)), (.int .i64 (0)), (.int .i64 (0)), (.int .i64 (0)), (.int .i64 (0))]) (.c (.int .i64 (0))) (.t 57)), none⟩,
 ⟨some 12, (.mv (.t 58)), none⟩]
 [] [53, 54, 55, 56, 57, 58])
 (.seq
 (.ops [⟨some 59, (.fad 0 (.t 3)), none⟩,
 ⟨some 60, (.fad 0 (.t 59)), none⟩,
 ⟨some 61, (.load false 1 (.t 60)), none⟩,
 ⟨some 62, (.call (.f 18) [(.t 61)]), none⟩,
 ⟨some 63, (.mv (.t 12)), none⟩,
 ⟨some 64, (.fad 0 (.t 3)), none⟩,
 ⟨some 65, (.fad 1 (.t 64)), none⟩,
 ⟨some 66, (.load false 1 (.t 65)), none⟩,
 ⟨some 67, (.app true 8 64 (.t 63) (.t 66)), none⟩,
 ⟨some 68, (.load true 8 (.t 4)), none⟩,
 ⟨some 69, (.buildD 8 (.agg [(.int .i64 (0)), (.int .u8 (0)), (.int .i64 (0)), (.int .i64 (0)), (.int .i64 (0)), (.int .i64 (0)), (.int .i64 (0)), (.int .i64 (0))]) 1 [(0, (.t 68))]), none⟩,
 ⟨some 70, (.app true 8 64 (.t 67) (.t 69)), none⟩,
 ⟨some 71, (.build [.nils, .nils] [(0, 1, (.t 62)), (1, 1, (.t 70))]), none⟩,
 ⟨some 72, (.load true 2 (.t 10)), none⟩,
 ⟨none, (.store 2 (.t 6) (.t 71)), none⟩,
 ⟨none, (.store 2 (.t 7) (.t 72)), none⟩,
 ⟨some 8, (.mv (.c (.int .i64 (0)))), none⟩]
 [(0, 4), (1, 4), (2, 4), (3, 4), (0, 5), (1, 5), (2, 5), (3, 5), (4, 5), (0, 6), (1, 6), (2, 6), (3, 6), (4, 6), (0, 7), (1, 7), (2, 7), (3, 7), (4, 7), (0, 9), (1, 9), (2, 9), (3, 9), (4, 9), (5, 9), (6, 9), (7, 9), (8, 9), (0, 10), (1, 10), (2, 10), (3, 10), (4, 10), (5, 10), (6, 10), (7, 10), (8, 10), (0, 13), (1, 13), (2, 13), (3, 13), (4, 13), (5, 13), (6, 13), (7, 13), (8, 13), (9, 13), (10, 13), (11, 13), (12, 13), (13, 14)] [3, 4, 10, 12, 59, 60, 61, 62, 63, 64, 65, 66, 67, 68, 69, 70, 71, 72])
 .ret)))))))))⟩
def loc26 : List Nat := [69, 3, 4, 6, 7, 10]
def fg26 : List (Nat × List Nat) := [(13, [3, 4, 10, 12, 59, 60, 61, 62, 63, 64, 65, 66, 67, 68, 69, 70, 71, 72]), (12, [53, 54, 55, 56, 57, 58]), (11, [48, 51, 52]), (10, [3, 4, 10, 48, 49, 50]), (9, [11, 40, 44, 45, 46, 47]), (8, [3, 4, 10, 11, 40, 41, 42, 43]), (7, [39]), (6, [2, 25, 28, 29, 30, 31, 32, 33, 34, 35, 36, 37, 38]), (5, [2, 3, 4, 25, 26, 27]), (4, [9, 17, 21, 22, 23, 24]), (3, [2, 3, 4, 9, 17, 18, 19, 20]), (2, [16]), (1, [13, 14, 15]), (0, [0, 1, 8])]
theorem comp26 : compFn Tryd.prog loc26 (fun i => (fg26.lookup i).getD []) Tryd.f26 = some lit26 := by kernel_rfl

-- (parcener/ask.office).mark
def lit27 : AFn := ⟨4, [.cell 8 true 2, .tmp 9],
 (.seq
 (.ops [⟨some 4, (.boxL (.t 0)), none⟩,
 ⟨some 6, (.boxL (.t 2)), none⟩,
 ⟨some 7, (.boxL (.t 3)), none⟩,
 ⟨some 8, (.allocL (.agg [(.int .i64 (0)), (.int .i64 (0))])), none⟩,
 ⟨some 9, (.mv (.c (.int .i64 (0)))), none⟩]
 [] [0, 2, 3, 9])
 (.seq
 (.ops [⟨some 10, (.fad 0 (.t 4)), none⟩,
 ⟨some 11, (.fad 0 (.t 10)), none⟩,
 ⟨some 12, (.load false 1 (.t 11)), none⟩,
 ⟨some 13, (.mv (.t 1)), none⟩,
 ⟨some 14, (.iad 3 (.t 12) (.t 13)), none⟩,
 ⟨some 15, (.load true 3 (.t 14)), none⟩,
 ⟨some 16, (.load true 2 (.t 6)), none⟩,
 ⟨some 17, (.load true 2 (.t 7)), none⟩,
 ⟨some 18, (.call (.f 40) [(.t 15), (.t 16), (.t 17)]), none⟩,
 ⟨some 19, (.ext (.t 18) 0), none⟩,
 ⟨some 20, (.ext (.t 18) 1), none⟩,
 ⟨none, (.store 2 (.t 8) (.t 19)), none⟩,
 ⟨some 9, (.mv (.t 20)), none⟩]
 [(0, 3), (1, 3), (2, 3), (0, 6), (1, 6), (2, 6), (3, 6), (4, 6), (5, 6), (0, 7), (1, 7), (2, 7), (3, 7), (4, 7), (5, 7), (6, 7), (9, 10)] [1, 4, 6, 7, 10, 11, 12, 13, 14, 15, 16, 17, 18, 19, 20])
 .ret))⟩
def loc27 : List Nat := [4, 6, 7, 8]
def fg27 : List (Nat × List Nat) := [(1, [1, 4, 6, 7, 10, 11, 12, 13, 14, 15, 16, 17, 18, 19, 20]), (0, [0, 2, 3, 9])]
theorem comp27 : compFn Tryd.prog loc27 (fun i => (fg27.lookup i).getD []) Tryd.f27 = some lit27 := by kernel_rfl

-- parcener/cake.Total
def lit28 : AFn := ⟨1, [.tmp 2, .tmp 3],
 (.seq
 (.ops [⟨some 1, (.boxL (.t 0)), none⟩,
 ⟨some 2, (.mv (.c (.int .i64 (0)))), none⟩,
 ⟨some 3, (.mv (.c (.int .i64 (0)))), none⟩]
 [] [0, 2, 3])
 (.seq
 (.seq
 (.ops [⟨some 8, (.load true 3 (.t 1)), none⟩,
 ⟨some 9, (.call (.f 23) [(.t 8)]), none⟩,
 ⟨some 4, (.mv (.t 9)), none⟩]
 [] [8, 9])
 (.seq
 (.ops [⟨some 10, (.mv (.t 4)), none⟩,
 ⟨some 11, (.bin .neq (.t 10) (.c (.int .i64 (0)))), none⟩]
 [] [10])
 (.cond (.t 11)
 (.seq
 (.ops [⟨some 12, (.mv (.t 4)), none⟩,
 ⟨some 2, (.mv (.c (.int .i64 (0)))), none⟩,
 ⟨some 3, (.mv (.t 12)), none⟩]
 [] [1, 4, 11, 12])
 .ret)
 .skip)))
 (.seq
 (.ops [⟨some 5, (.mv (.c (.int .i64 (0)))), none⟩]
 [] [4, 11])
 (.seq
 (.seq
 (.ops [⟨some 13, (.fad 2 (.t 1)), none⟩,
 ⟨some 14, (.load false 1 (.t 13)), none⟩,
 ⟨some 15, (.len (.t 14)), none⟩,
 ⟨some 16, (.mv (.c (.int .i64 (0)))), none⟩]
 [] [13])
 (.block 0
 (.loop
 (.seq
 (.ops [⟨some 17, (.bin .lss (.t 16) (.t 15)), none⟩]
 [] [])
 (.seq
 (.cond (.t 17)
 .skip
 (.exit 0))
 (.seq
 (.block 1
 (.seq
 (.ops [⟨some 18, (.mv (.t 16)), none⟩,
 ⟨some 19, (.iad 1 (.t 14) (.t 16)), none⟩,
 ⟨some 20, (.load false 1 (.t 19)), none⟩,
 ⟨some 6, (.mv (.t 18)), none⟩,
 ⟨some 7, (.mv (.t 20)), none⟩]
 [] [17, 18, 19, 20])
 (.ops [⟨some 21, (.mv (.t 5)), none⟩,
 ⟨some 22, (.mv (.t 7)), none⟩,
 ⟨some 23, (.fad 1 (.t 1)), none⟩,
 ⟨some 24, (.load false 1 (.t 23)), none⟩,
 ⟨some 25, (.mv (.t 6)), none⟩,
 ⟨some 26, (.bin .add (.t 25) (.c (.int .i64 (1)))), none⟩,
 ⟨some 27, (.iad 1 (.t 24) (.t 26)), none⟩,
 ⟨some 28, (.load false 1 (.t 27)), none⟩,
 ⟨some 29, (.fad 1 (.t 1)), none⟩,
 ⟨some 30, (.load false 1 (.t 29)), none⟩,
 ⟨some 31, (.mv (.t 6)), none⟩,
 ⟨some 32, (.iad 1 (.t 30) (.t 31)), none⟩,
 ⟨some 33, (.load false 1 (.t 32)), none⟩,
 ⟨some 34, (.bin .sub (.t 28) (.t 33)), none⟩,
 ⟨some 35, (.bin .mul (.t 22) (.t 34)), none⟩,
 ⟨some 36, (.bin .add (.t 21) (.t 35)), none⟩,
 ⟨some 5, (.mv (.t 36)), none⟩]
 [(0, 1), (0, 2), (1, 2), (0, 3), (1, 3), (0, 4), (1, 4), (2, 4), (3, 4), (0, 5), (1, 5), (2, 5), (3, 5), (0, 6), (1, 6), (0, 7), (1, 7), (0, 8), (1, 8), (2, 8), (3, 8), (4, 8), (5, 8), (6, 8), (7, 8), (0, 9), (1, 9), (2, 9), (3, 9), (4, 9), (5, 9), (6, 9), (7, 9), (0, 10), (1, 10), (2, 10), (3, 10), (4, 10), (5, 10), (6, 10), (7, 10), (8, 10), (9, 10), (0, 11), (1, 11), (2, 11), (3, 11), (4, 11), (5, 11), (6, 11), (7, 11), (0, 12), (1, 12), (2, 12), (3, 12), (4, 12), (5, 12), (6, 12), (7, 12), (0, 13), (1, 13), (0, 14)] [6, 7, 21, 22, 23, 24, 25, 26, 27, 28, 29, 30, 31, 32, 33, 34, 35, 36])))
 (.ops [⟨some 37, (.bin .add (.t 16) (.c (.int .i64 (1)))), none⟩,
 ⟨some 16, (.mv (.t 37)), none⟩]
 [] [37])))))))
 (.seq
 (.ops [⟨some 38, (.mv (.t 5)), none⟩,
 ⟨some 2, (.mv (.t 38)), none⟩,
 ⟨some 3, (.mv (.c (.int .i64 (0)))), none⟩]
 [] [1, 5, 14, 15, 16, 17, 38])
 .ret)))))⟩
def loc28 : List Nat := [1]
def fg28 : List (Nat × List Nat) := [(10, [1, 5, 14, 15, 16, 17, 38]), (9, [37]), (8, [6, 7, 21, 22, 23, 24, 25, 26, 27, 28, 29, 30, 31, 32, 33, 34, 35, 36]), (7, [17, 18, 19, 20]), (5, [13]), (4, [4, 11]), (3, [1, 4, 11, 12]), (2, [10]), (1, [8, 9]), (0, [0, 2, 3])]
theorem comp28 : compFn Tryd.prog loc28 (fun i => (fg28.lookup i).getD []) Tryd.f28 = some lit28 := by kernel_rfl

-- parcener/ratio.Make
def lit29 : AFn := ⟨2, [.cell 4 true 2, .tmp 5],
 (.seq
 (.ops [⟨some 4, (.allocL (.agg [(.int .i64 (0)), (.int .i64 (0))])), none⟩,
 ⟨some 5, (.mv (.c (.int .i64 (0)))), none⟩]
 [] [5])
 (.seq
 (.seq
 (.ops [⟨some 9, (.mv (.t 1)), none⟩,
 ⟨some 10, (.bin .eql (.t 9) (.c (.int .i64 (0)))), none⟩]
 [] [9])
 (.cond (.t 10)
 (.seq
 (.ops [⟨some 11, (.build [(.int .i64 (0)), (.int .i64 (0))] []), none⟩,
 ⟨none, (.store 2 (.t 4) (.t 11)), none⟩,
 ⟨some 5, (.mv (.c (.int .i64 (18)))), none⟩]
 [] [0, 1, 10, 11])
 .ret)
 .skip))
 (.seq
 (.ops [⟨some 12, (.mv (.t 0)), none⟩,
 ⟨some 13, (.call (.f 34) [(.t 12)]), none⟩,
 ⟨some 14, (.mv (.t 1)), none⟩,
 ⟨some 15, (.call (.f 34) [(.t 14)]), none⟩,
 ⟨some 6, (.mv (.t 13)), none⟩,
 ⟨some 7, (.mv (.t 15)), none⟩]
 [] [10, 12, 13, 14, 15])
 (.seq
 (.ops [⟨some 16, (.mv (.t 6)), none⟩,
 ⟨some 17, (.mv (.t 7)), none⟩,
 ⟨some 18, (.call (.f 41) [(.t 16), (.t 17)]), none⟩,
 ⟨some 8, (.mv (.t 18)), none⟩]
 [] [16, 17, 18])
 (.seq
 (.ops [⟨some 19, (.mv (.t 0)), none⟩,
 ⟨some 20, (.bin .lss (.t 19) (.c (.int .i64 (0)))), none⟩,
 ⟨some 21, (.mv (.t 1)), none⟩,
 ⟨some 22, (.bin .lss (.t 21) (.c (.int .i64 (0)))), none⟩,
 ⟨some 23, (.eqB true (.t 20) (.t 22)), none⟩,
 ⟨some 24, (.mv (.t 6)), none⟩,
 ⟨some 25, (.mv (.t 8)), none⟩,
 ⟨some 26, (.bin .quo (.t 24) (.t 25)), none⟩,
 ⟨some 27, (.mv (.t 7)), none⟩,
 ⟨some 28, (.mv (.t 8)), none⟩,
 ⟨some 29, (.bin .quo (.t 27) (.t 28)), none⟩,
 ⟨some 30, (.call (.f 42) [(.t 23), (.t 26), (.t 29)]), none⟩,
 ⟨some 31, (.ext (.t 30) 0), none⟩,
 ⟨some 32, (.ext (.t 30) 1), none⟩,
 ⟨none, (.store 2 (.t 4) (.t 31)), none⟩,
 ⟨some 5, (.mv (.t 32)), none⟩]
 [(0, 2), (1, 2), (0, 3), (1, 3), (0, 5), (1, 5), (2, 5), (3, 5), (4, 5), (0, 6), (1, 6), (2, 6), (3, 6), (4, 6), (5, 6), (0, 7), (1, 7), (2, 7), (3, 7), (4, 7), (0, 8), (1, 8), (2, 8), (3, 8), (4, 8), (5, 8), (6, 8), (7, 8), (0, 9), (1, 9), (2, 9), (3, 9), (4, 9), (5, 9), (6, 9), (7, 9), (8, 9), (0, 10), (1, 10), (2, 10), (3, 10), (4, 10), (5, 10), (6, 10), (7, 10), (12, 13)] [0, 1, 6, 7, 8, 19, 20, 21, 22, 23, 24, 25, 26, 27, 28, 29, 30, 31, 32])
 .ret)))))⟩
def loc29 : List Nat := [4]
def fg29 : List (Nat × List Nat) := [(5, [0, 1, 6, 7, 8, 19, 20, 21, 22, 23, 24, 25, 26, 27, 28, 29, 30, 31, 32]), (4, [16, 17, 18]), (3, [10, 12, 13, 14, 15]), (2, [0, 1, 10, 11]), (1, [9]), (0, [5])]
theorem comp29 : compFn Tryd.prog loc29 (fun i => (fg29.lookup i).getD []) Tryd.f29 = some lit29 := by kernel_rfl

-- (parcener/ask.office).value
def lit30 : AFn := ⟨4, [.cell 8 true 2, .tmp 9],
 (.seq
 (.ops [⟨some 4, (.boxL (.t 0)), none⟩,
 ⟨some 6, (.boxL (.t 2)), none⟩,
 ⟨some 7, (.boxL (.t 3)), none⟩,
 ⟨some 8, (.allocL (.agg [(.int .i64 (0)), (.int .i64 (0))])), none⟩,
 ⟨some 9, (.mv (.c (.int .i64 (0)))), none⟩]
 [] [0, 2, 3, 9])
 (.seq
 (.ops [⟨some 10, (.fad 0 (.t 4)), none⟩,
 ⟨some 11, (.fad 0 (.t 10)), none⟩,
 ⟨some 12, (.load false 1 (.t 11)), none⟩,
 ⟨some 13, (.mv (.t 1)), none⟩,
 ⟨some 14, (.iad 3 (.t 12) (.t 13)), none⟩,
 ⟨some 15, (.load true 3 (.t 14)), none⟩,
 ⟨some 16, (.load true 2 (.t 6)), none⟩,
 ⟨some 17, (.load true 2 (.t 7)), none⟩,
 ⟨some 18, (.call (.f 43) [(.t 15), (.t 16), (.t 17)]), none⟩,
 ⟨some 19, (.ext (.t 18) 0), none⟩,
 ⟨some 20, (.ext (.t 18) 1), none⟩,
 ⟨none, (.store 2 (.t 8) (.t 19)), none⟩,
 ⟨some 9, (.mv (.t 20)), none⟩]
 [(0, 3), (1, 3), (2, 3), (0, 6), (1, 6), (2, 6), (3, 6), (4, 6), (5, 6), (0, 7), (1, 7), (2, 7), (3, 7), (4, 7), (5, 7), (6, 7), (9, 10)] [1, 4, 6, 7, 10, 11, 12, 13, 14, 15, 16, 17, 18, 19, 20])
 .ret))⟩
def loc30 : List Nat := [4, 6, 7, 8]
def fg30 : List (Nat × List Nat) := [(1, [1, 4, 6, 7, 10, 11, 12, 13, 14, 15, 16, 17, 18, 19, 20]), (0, [0, 2, 3, 9])]
theorem comp30 : compFn Tryd.prog loc30 (fun i => (fg30.lookup i).getD []) Tryd.f30 = some lit30 := by kernel_rfl

-- parcener/ratio.check
def lit31 : AFn := ⟨2, [.tmp 4],
 (.seq
 (.ops [⟨some 2, (.boxL (.t 0)), none⟩,
 ⟨some 3, (.boxL (.t 1)), none⟩,
 ⟨some 4, (.mv (.c (.int .i64 (0)))), none⟩]
 [] [0, 1, 4])
 (.seq
 (.ops [⟨some 5, (.load true 2 (.t 2)), none⟩,
 ⟨some 6, (.call (.f 45) [(.t 5)]), none⟩,
 ⟨some 7, (.load true 2 (.t 3)), none⟩,
 ⟨some 8, (.call (.f 45) [(.t 7)]), none⟩,
 ⟨some 9, (.buildD 1 (.int .i64 (0)) 2 [(0, (.t 6)), (1, (.t 8))]), none⟩,
 ⟨some 10, (.call (.f 44) [(.t 9)]), none⟩,
 ⟨some 4, (.mv (.t 10)), none⟩]
 [(0, 2), (1, 2)] [2, 3, 5, 6, 7, 8, 9, 10])
 .ret))⟩
def loc31 : List Nat := [9, 2, 3]
def fg31 : List (Nat × List Nat) := [(1, [2, 3, 5, 6, 7, 8, 9, 10]), (0, [0, 1, 4])]
theorem comp31 : compFn Tryd.prog loc31 (fun i => (fg31.lookup i).getD []) Tryd.f31 = some lit31 := by kernel_rfl

-- math/bits.Mul64
def lit33 : AFn := ⟨2, [.tmp 4, .tmp 5],
 (.seq
 (.ops [⟨some 4, (.mv (.c (.int .u64 (0)))), none⟩,
 ⟨some 5, (.mv (.c (.int .u64 (0)))), none⟩]
 [] [4, 5])
 (.seq
 (.ops [⟨some 14, (.mv (.t 0)), none⟩,
 ⟨some 15, (.bin .and (.t 14) (.c (.int .u64 (4294967295)))), none⟩,
 ⟨some 6, (.mv (.t 15)), none⟩]
 [] [14, 15])
 (.seq
 (.ops [⟨some 16, (.mv (.t 0)), none⟩,
 ⟨some 17, (.bin .shr (.t 16) (.c (.int .u64 (32)))), none⟩,
 ⟨some 7, (.mv (.t 17)), none⟩]
 [] [16, 17])
 (.seq
 (.ops [⟨some 18, (.mv (.t 1)), none⟩,
 ⟨some 19, (.bin .and (.t 18) (.c (.int .u64 (4294967295)))), none⟩,
 ⟨some 8, (.mv (.t 19)), none⟩]
 [] [18, 19])
 (.seq
 (.ops [⟨some 20, (.mv (.t 1)), none⟩,
 ⟨some 21, (.bin .shr (.t 20) (.c (.int .u64 (32)))), none⟩,
 ⟨some 9, (.mv (.t 21)), none⟩]
 [] [20, 21])
 (.seq
 (.ops [⟨some 22, (.mv (.t 6)), none⟩,
 ⟨some 23, (.mv (.t 8)), none⟩,
 ⟨some 24, (.bin .mul (.t 22) (.t 23)), none⟩,
 ⟨some 10, (.mv (.t 24)), none⟩]
 [] [22, 23, 24])
 (.seq
 (.ops [⟨some 25, (.mv (.t 7)), none⟩,
 ⟨some 26, (.mv (.t 8)), none⟩,
 ⟨some 27, (.bin .mul (.t 25) (.t 26)), none⟩,
 ⟨some 28, (.mv (.t 10)), none⟩,
 ⟨some 29, (.bin .shr (.t 28) (.c (.int .u64 (32)))), none⟩,
 ⟨some 30, (.bin .add (.t 27) (.t 29)), none⟩,
 ⟨some 11, (.mv (.t 30)), none⟩]
 [] [8, 10, 25, 26, 27, 28, 29, 30])
 (.seq
 (.ops [⟨some 31, (.mv (.t 11)), none⟩,
 ⟨some 32, (.bin .and (.t 31) (.c (.int .u64 (4294967295)))), none⟩,
 ⟨some 12, (.mv (.t 32)), none⟩]
 [] [31, 32])
 (.seq
 (.ops [⟨some 33, (.mv (.t 11)), none⟩,
 ⟨some 34, (.bin .shr (.t 33) (.c (.int .u64 (32)))), none⟩,
 ⟨some 13, (.mv (.t 34)), none⟩]
 [] [11, 33, 34])
 (.seq
 (.ops [⟨some 35, (.mv (.t 12)), none⟩,
 ⟨some 36, (.mv (.t 6)), none⟩,
 ⟨some 37, (.mv (.t 9)), none⟩,
 ⟨some 38, (.bin .mul (.t 36) (.t 37)), none⟩,
 ⟨some 39, (.bin .add (.t 35) (.t 38)), none⟩,
 ⟨some 12, (.mv (.t 39)), none⟩]
 [] [6, 35, 36, 37, 38, 39])
 (.seq
 (.ops [⟨some 40, (.mv (.t 7)), none⟩,
 ⟨some 41, (.mv (.t 9)), none⟩,
 ⟨some 42, (.bin .mul (.t 40) (.t 41)), none⟩,
 ⟨some 43, (.mv (.t 13)), none⟩,
 ⟨some 44, (.bin .add (.t 42) (.t 43)), none⟩,
 ⟨some 45, (.mv (.t 12)), none⟩,
 ⟨some 46, (.bin .shr (.t 45) (.c (.int .u64 (32)))), none⟩,
 ⟨some 47, (.bin .add (.t 44) (.t 46)), none⟩,
 ⟨some 4, (.mv (.t 47)), none⟩]
 [] [7, 9, 12, 13, 40, 41, 42, 43, 44, 45, 46, 47])
 (.seq
 (.ops [⟨some 48, (.mv (.t 0)), none⟩,
 ⟨some 49, (.mv (.t 1)), none⟩,
 ⟨some 50, (.bin .mul (.t 48) (.t 49)), none⟩,
 ⟨some 5, (.mv (.t 50)), none⟩]
 [] [0, 1, 48, 49, 50])
 .ret))))))))))))⟩
def loc33 : List Nat := []
def fg33 : List (Nat × List Nat) := [(11, [0, 1, 48, 49, 50]), (10, [7, 9, 12, 13, 40, 41, 42, 43, 44, 45, 46, 47]), (9, [6, 35, 36, 37, 38, 39]), (8, [11, 33, 34]), (7, [31, 32]), (6, [8, 10, 25, 26, 27, 28, 29, 30]), (5, [22, 23, 24]), (4, [20, 21]), (3, [18, 19]), (2, [16, 17]), (1, [14, 15]), (0, [4, 5])]
theorem comp33 : compFn Tryd.prog loc33 (fun i => (fg33.lookup i).getD []) Tryd.f33 = some lit33 := by kernel_rfl

-- parcener/ratio.size
def lit34 : AFn := ⟨1, [.tmp 2],
 (.seq
 (.ops [⟨some 2, (.mv (.c (.int .u64 (0)))), none⟩]
 [] [2])
 (.seq
 (.seq
 (.ops [⟨some 3, (.mv (.t 0)), none⟩,
 ⟨some 4, (.bin .lss (.t 3) (.c (.int .i64 (0)))), none⟩]
 [] [3])
 (.cond (.t 4)
 (.seq
 (.ops [⟨some 5, (.mv (.t 0)), none⟩,
 ⟨some 6, (.conv .u64 (.t 5)), none⟩,
 ⟨some 7, (.un .neg (.t 6)), none⟩,
 ⟨some 2, (.mv (.t 7)), none⟩]
 [] [0, 4, 5, 6, 7])
 .ret)
 .skip))
 (.seq
 (.ops [⟨some 8, (.mv (.t 0)), none⟩,
 ⟨some 9, (.conv .u64 (.t 8)), none⟩,
 ⟨some 2, (.mv (.t 9)), none⟩]
 [] [0, 4, 8, 9])
 .ret)))⟩
def loc34 : List Nat := []
def fg34 : List (Nat × List Nat) := [(3, [0, 4, 8, 9]), (2, [0, 4, 5, 6, 7]), (1, [3]), (0, [2])]
theorem comp34 : compFn Tryd.prog loc34 (fun i => (fg34.lookup i).getD []) Tryd.f34 = some lit34 := by kernel_rfl

-- cmp.Or[int]
def lit35 : AFn := ⟨1, [.tmp 2],
 (.seq
 (.ops [⟨some 2, (.mv (.c (.int .i64 (0)))), none⟩]
 [] [2])
 (.seq
 (.ops [⟨some 3, (.mv (.c (.int .i64 (0)))), none⟩]
 [] [])
 (.seq
 (.seq
 (.ops [⟨some 6, (.mv (.t 0)), none⟩,
 ⟨some 7, (.len (.t 6)), none⟩,
 ⟨some 8, (.mv (.c (.int .i64 (0)))), none⟩]
 [] [0])
 (.block 0
 (.loop
 (.seq
 (.ops [⟨some 9, (.bin .lss (.t 8) (.t 7)), none⟩]
 [] [])
 (.seq
 (.cond (.t 9)
 .skip
 (.exit 0))
 (.seq
 (.block 1
 (.seq
 (.ops [⟨some 10, (.iad 1 (.t 6) (.t 8)), none⟩,
 ⟨some 11, (.load false 1 (.t 10)), none⟩,
 ⟨some 5, (.mv (.t 11)), none⟩]
 [] [9, 10, 11])
 (.seq
 (.ops [⟨some 12, (.mv (.t 5)), none⟩,
 ⟨some 13, (.mv (.t 3)), none⟩,
 ⟨some 14, (.bin .neq (.t 12) (.t 13)), none⟩]
 [] [12, 13])
 (.cond (.t 14)
 (.seq
 (.ops [⟨some 15, (.mv (.t 5)), none⟩,
 ⟨some 2, (.mv (.t 15)), none⟩]
 [] [3, 5, 6, 7, 8, 14, 15])
 .ret)
 .skip))))
 (.ops [⟨some 16, (.bin .add (.t 8) (.c (.int .i64 (1)))), none⟩,
 ⟨some 8, (.mv (.t 16)), none⟩]
 [] [5, 14, 16])))))))
 (.seq
 (.ops [⟨some 17, (.mv (.t 3)), none⟩,
 ⟨some 2, (.mv (.t 17)), none⟩]
 [] [3, 6, 7, 8, 9, 17])
 .ret))))⟩
def loc35 : List Nat := []
def fg35 : List (Nat × List Nat) := [(8, [3, 6, 7, 8, 9, 17]), (7, [5, 14, 16]), (6, [3, 5, 6, 7, 8, 14, 15]), (5, [12, 13]), (4, [9, 10, 11]), (2, [0]), (0, [2])]
theorem comp35 : compFn Tryd.prog loc35 (fun i => (fg35.lookup i).getD []) Tryd.f35 = some lit35 := by kernel_rfl

-- cmp.Compare[uint64]
def lit36 : AFn := ⟨2, [.tmp 4],
 (.seq
 (.ops [⟨some 4, (.mv (.c (.int .i64 (0)))), none⟩]
 [] [4])
 (.seq
 (.ops [⟨some 7, (.mv (.t 0)), none⟩,
 ⟨some 8, (.call (.f 47) [(.t 7)]), none⟩,
 ⟨some 5, (.mv (.t 8)), none⟩]
 [] [7, 8])
 (.seq
 (.ops [⟨some 9, (.mv (.t 1)), none⟩,
 ⟨some 10, (.call (.f 47) [(.t 9)]), none⟩,
 ⟨some 6, (.mv (.t 10)), none⟩]
 [] [9, 10])
 (.seq
 (.seq
 (.ops [⟨some 11, (.mv (.t 5)), none⟩]
 [] [5])
 (.cond (.t 11)
 (.seq
 (.seq
 (.ops [⟨some 12, (.mv (.t 6)), none⟩]
 [] [0, 1, 6, 11])
 (.cond (.t 12)
 (.seq
 (.ops [⟨some 4, (.mv (.c (.int .i64 (0)))), none⟩]
 [] [12])
 .ret)
 .skip))
 (.seq
 (.ops [⟨some 4, (.mv (.c (.int .i64 (-1)))), none⟩]
 [] [12])
 .ret))
 .skip))
 (.seq
 (.seq
 (.ops [⟨some 13, (.mv (.t 6)), none⟩]
 [] [6, 11])
 (.cond (.t 13)
 (.seq
 (.ops [⟨some 4, (.mv (.c (.int .i64 (1)))), none⟩]
 [] [0, 1, 13])
 .ret)
 .skip))
 (.seq
 (.seq
 (.ops [⟨some 14, (.mv (.t 0)), none⟩,
 ⟨some 15, (.mv (.t 1)), none⟩,
 ⟨some 16, (.bin .lss (.t 14) (.t 15)), none⟩]
 [] [13, 14, 15])
 (.cond (.t 16)
 (.seq
 (.ops [⟨some 4, (.mv (.c (.int .i64 (-1)))), none⟩]
 [] [0, 1, 16])
 .ret)
 .skip))
 (.seq
 (.seq
 (.ops [⟨some 17, (.mv (.t 0)), none⟩,
 ⟨some 18, (.mv (.t 1)), none⟩,
 ⟨some 19, (.bin .gtr (.t 17) (.t 18)), none⟩]
 [] [0, 1, 16, 17, 18])
 (.cond (.t 19)
 (.seq
 (.ops [⟨some 4, (.mv (.c (.int .i64 (1)))), none⟩]
 [] [19])
 .ret)
 .skip))
 (.seq
 (.ops [⟨some 4, (.mv (.c (.int .i64 (0)))), none⟩]
 [] [19])
 .ret))))))))⟩
def loc36 : List Nat := []
def fg36 : List (Nat × List Nat) := [(13, [19]), (12, [19]), (11, [0, 1, 16, 17, 18]), (10, [0, 1, 16]), (9, [13, 14, 15]), (8, [0, 1, 13]), (7, [6, 11]), (6, [12]), (5, [12]), (4, [0, 1, 6, 11]), (3, [5]), (2, [9, 10]), (1, [7, 8]), (0, [4])]
theorem comp36 : compFn Tryd.prog loc36 (fun i => (fg36.lookup i).getD []) Tryd.f36 = some lit36 := by kernel_rfl

-- slices.Min[[]int,int]
def lit37 : AFn := ⟨1, [.tmp 2],
 (.seq
 (.ops [⟨some 2, (.mv (.c (.int .i64 (0)))), none⟩]
 [] [2])
 (.seq
 (.seq
 (.ops [⟨some 5, (.mv (.t 0)), none⟩,
 ⟨some 6, (.len (.t 5)), none⟩,
 ⟨some 7, (.bin .lss (.t 6) (.c (.int .i64 (1)))), none⟩]
 [] [5, 6])
 (.cond (.t 7)
 (.ops [⟨some 8, .bad, none⟩,
 ⟨none, .bad, none⟩]
 [] [7, 8])
 .skip))
 (.seq
 (.ops [⟨some 9, (.mv (.t 0)), none⟩,
 ⟨some 10, (.iad 1 (.t 9) (.c (.int .i64 (0)))), none⟩,
 ⟨some 11, (.load false 1 (.t 10)), none⟩,
 ⟨some 3, (.mv (.t 11)), none⟩]
 [] [7, 9, 10, 11])
 (.seq
 (.seq
 (.ops [⟨some 4, (.mv (.c (.int .i64 (1)))), none⟩]
 [] [])
 (.block 0
 (.loop
 (.seq
 (.seq
 (.ops [⟨some 12, (.mv (.t 4)), none⟩,
 ⟨some 13, (.mv (.t 0)), none⟩,
 ⟨some 14, (.len (.t 13)), none⟩,
 ⟨some 15, (.bin .lss (.t 12) (.t 14)), none⟩]
 [] [12, 13, 14])
 (.cond (.t 15)
 .skip
 (.exit 0)))
 (.seq
 (.block 1
 (.ops [⟨some 18, (.mv (.t 3)), none⟩,
 ⟨some 19, (.mv (.t 0)), none⟩,
 ⟨some 20, (.mv (.t 4)), none⟩,
 ⟨some 21, (.iad 1 (.t 19) (.t 20)), none⟩,
 ⟨some 22, (.load false 1 (.t 21)), none⟩,
 ⟨some 23, (.minmax false [(.t 18), (.t 22)]), none⟩,
 ⟨some 3, (.mv (.t 23)), none⟩]
 [] [15, 18, 19, 20, 21, 22, 23]))
 (.ops [⟨some 16, (.mv (.t 4)), none⟩,
 ⟨some 17, (.bin .add (.t 16) (.c (.int .i64 (1)))), none⟩,
 ⟨some 4, (.mv (.t 17)), none⟩]
 [] [16, 17]))))))
 (.seq
 (.ops [⟨some 24, (.mv (.t 3)), none⟩,
 ⟨some 2, (.mv (.t 24)), none⟩]
 [] [0, 3, 4, 15, 24])
 .ret)))))⟩
def loc37 : List Nat := []
def fg37 : List (Nat × List Nat) := [(8, [0, 3, 4, 15, 24]), (6, [16, 17]), (7, [15, 18, 19, 20, 21, 22, 23]), (5, [12, 13, 14]), (3, [7, 9, 10, 11]), (2, [7, 8]), (1, [5, 6]), (0, [2])]
theorem comp37 : compFn Tryd.prog loc37 (fun i => (fg37.lookup i).getD []) Tryd.f37 = some lit37 := by kernel_rfl

-- slices.Max[[]int,int]
def lit38 : AFn := ⟨1, [.tmp 2],
 (.seq
 (.ops [⟨some 2, (.mv (.c (.int .i64 (0)))), none⟩]
 [] [2])
 (.seq
 (.seq
 (.ops [⟨some 5, (.mv (.t 0)), none⟩,
 ⟨some 6, (.len (.t 5)), none⟩,
 ⟨some 7, (.bin .lss (.t 6) (.c (.int .i64 (1)))), none⟩]
 [] [5, 6])
 (.cond (.t 7)
 (.ops [⟨some 8, .bad, none⟩,
 ⟨none, .bad, none⟩]
 [] [7, 8])
 .skip))
 (.seq
 (.ops [⟨some 9, (.mv (.t 0)), none⟩,
 ⟨some 10, (.iad 1 (.t 9) (.c (.int .i64 (0)))), none⟩,
 ⟨some 11, (.load false 1 (.t 10)), none⟩,
 ⟨some 3, (.mv (.t 11)), none⟩]
 [] [7, 9, 10, 11])
 (.seq
 (.seq
 (.ops [⟨some 4, (.mv (.c (.int .i64 (1)))), none⟩]
 [] [])
 (.block 0
 (.loop
 (.seq
 (.seq
 (.ops [⟨some 12, (.mv (.t 4)), none⟩,
 ⟨some 13, (.mv (.t 0)), none⟩,
 ⟨some 14, (.len (.t 13)), none⟩,
 ⟨some 15, (.bin .lss (.t 12) (.t 14)), none⟩]
 [] [12, 13, 14])
 (.cond (.t 15)
 .skip
 (.exit 0)))
 (.seq
 (.block 1
 (.ops [⟨some 18, (.mv (.t 3)), none⟩,
 ⟨some 19, (.mv (.t 0)), none⟩,
 ⟨some 20, (.mv (.t 4)), none⟩,
 ⟨some 21, (.iad 1 (.t 19) (.t 20)), none⟩,
 ⟨some 22, (.load false 1 (.t 21)), none⟩,
 ⟨some 23, (.minmax true [(.t 18), (.t 22)]), none⟩,
 ⟨some 3, (.mv (.t 23)), none⟩]
 [] [15, 18, 19, 20, 21, 22, 23]))
 (.ops [⟨some 16, (.mv (.t 4)), none⟩,
 ⟨some 17, (.bin .add (.t 16) (.c (.int .i64 (1)))), none⟩,
 ⟨some 4, (.mv (.t 17)), none⟩]
 [] [16, 17]))))))
 (.seq
 (.ops [⟨some 24, (.mv (.t 3)), none⟩,
 ⟨some 2, (.mv (.t 24)), none⟩]
 [] [0, 3, 4, 15, 24])
 .ret)))))⟩
def loc38 : List Nat := []
def fg38 : List (Nat × List Nat) := [(8, [0, 3, 4, 15, 24]), (6, [16, 17]), (7, [15, 18, 19, 20, 21, 22, 23]), (5, [12, 13, 14]), (3, [7, 9, 10, 11]), (2, [7, 8]), (1, [5, 6]), (0, [2])]
theorem comp38 : compFn Tryd.prog loc38 (fun i => (fg38.lookup i).getD []) Tryd.f38 = some lit38 := by kernel_rfl

-- (parcener/ask.office).has
def lit39 : AFn := ⟨2, [.tmp 4],
 (.seq
 (.ops [⟨some 2, (.boxL (.t 0)), none⟩,
 ⟨some 4, (.mv (.c (.bool false))), none⟩]
 [] [0, 4])
 (.seq
 (.ops [⟨some 5, (.mv (.t 1)), none⟩,
 ⟨some 6, (.bin .geq (.t 5) (.c (.int .i64 (0)))), none⟩,
 ⟨some 7, (.mv (.t 6)), none⟩,
 ⟨some 8, (.mv (.t 1)), some (7, true)⟩,
 ⟨some 9, (.fad 0 (.t 2)), some (7, true)⟩,
 ⟨some 10, (.fad 0 (.t 9)), some (7, true)⟩,
 ⟨some 11, (.load false 1 (.t 10)), some (7, true)⟩,
 ⟨some 12, (.len (.t 11)), some (7, true)⟩,
 ⟨some 13, (.bin .lss (.t 8) (.t 12)), some (7, true)⟩,
 ⟨some 14, (.pick (.t 7) (.t 13) (.c (.bool false))), none⟩,
 ⟨some 4, (.mv (.t 14)), none⟩]
 [] [1, 2, 5, 6, 7, 8, 9, 10, 11, 12, 13, 14])
 .ret))⟩
def loc39 : List Nat := [2]
def fg39 : List (Nat × List Nat) := [(1, [1, 2, 5, 6, 7, 8, 9, 10, 11, 12, 13, 14]), (0, [0, 4])]
theorem comp39 : compFn Tryd.prog loc39 (fun i => (fg39.lookup i).getD []) Tryd.f39 = some lit39 := by kernel_rfl

-- parcener/cake.Mark
def lit40 : AFn := ⟨3, [.cell 6 true 2, .tmp 7],
 (.seq
 (.ops [⟨some 3, (.boxL (.t 0)), none⟩,
 ⟨some 4, (.boxL (.t 1)), none⟩,
 ⟨some 5, (.boxH true 2 (.t 2)), none⟩,
 ⟨some 6, (.allocL (.agg [(.int .i64 (0)), (.int .i64 (0))])), none⟩,
 ⟨some 7, (.mv (.c (.int .i64 (0)))), none⟩]
 [] [0, 1, 2, 7])
 (.seq
 (.seq
 (.ops [⟨some 12, (.load true 3 (.t 3)), none⟩,
 ⟨some 13, (.call (.f 23) [(.t 12)]), none⟩,
 ⟨some 8, (.mv (.t 13)), none⟩]
 [] [12, 13])
 (.seq
 (.ops [⟨some 14, (.mv (.t 8)), none⟩,
 ⟨some 15, (.bin .neq (.t 14) (.c (.int .i64 (0)))), none⟩]
 [] [14])
 (.cond (.t 15)
 (.seq
 (.ops [⟨some 16, (.build [(.int .i64 (0)), (.int .i64 (0))] []), none⟩,
 ⟨some 17, (.mv (.t 8)), none⟩,
 ⟨none, (.store 2 (.t 6) (.t 16)), none⟩,
 ⟨some 7, (.mv (.t 17)), none⟩]
 [] [3, 4, 5, 8, 15, 16, 17])
 .ret)
 .skip)))
 (.seq
 (.seq
 (.ops [⟨some 18, (.load true 3 (.t 3)), none⟩,
 ⟨some 19, (.load true 2 (.t 4)), none⟩,
 ⟨some 20, (.call (.f 48) [(.t 18), (.t 19)]), none⟩,
 ⟨some 21, (.un .not (.t 20)), none⟩,
 ⟨some 22, (.mv (.t 21)), none⟩,
 ⟨some 23, (.load true 2 (.t 5)), some (22, false)⟩,
 ⟨some 24, (.call (.f 45) [(.t 23)]), some (22, false)⟩,
 ⟨some 25, (.bin .neq (.t 24) (.c (.int .i64 (0)))), some (22, false)⟩,
 ⟨some 26, (.pick (.t 22) (.c (.bool true)) (.t 25)), none⟩,
 ⟨some 27, (.mv (.t 26)), none⟩,
 ⟨some 28, (.fad 0 (.t 5)), some (27, false)⟩,
 ⟨some 29, (.load false 1 (.t 28)), some (27, false)⟩,
 ⟨some 30, (.bin .lss (.t 29) (.c (.int .i64 (0)))), some (27, false)⟩,
 ⟨some 31, (.pick (.t 27) (.c (.bool true)) (.t 30)), none⟩]
 [] [8, 15, 18, 19, 20, 21, 22, 23, 24, 25, 26, 27, 28, 29, 30])
 (.cond (.t 31)
 (.seq
 (.ops [⟨some 32, (.build [(.int .i64 (0)), (.int .i64 (0))] []), none⟩,
 ⟨none, (.store 2 (.t 6) (.t 32)), none⟩,
 ⟨some 7, (.mv (.c (.int .i64 (2)))), none⟩]
 [] [3, 4, 5, 31, 32])
 .ret)
 .skip))
 (.seq
 (.seq
 (.ops [⟨some 33, (.fad 0 (.t 5)), none⟩,
 ⟨some 34, (.load false 1 (.t 33)), none⟩,
 ⟨some 35, (.bin .eql (.t 34) (.c (.int .i64 (0)))), none⟩]
 [] [31, 33, 34])
 (.cond (.t 35)
 (.seq
 (.ops [⟨some 36, (.load true 2 (.t 4)), none⟩,
 ⟨none, (.store 2 (.t 6) (.t 36)), none⟩,
 ⟨some 7, (.mv (.c (.int .i64 (0)))), none⟩]
 [] [3, 4, 5, 35, 36])
 .ret)
 .skip))
 (.seq
 (.ops [⟨some 9, (.allocH true 2 (.agg [(.int .i64 (0)), (.int .i64 (0))])), none⟩]
 [] [35])
 (.seq
 (.ops [⟨some 10, (.allocH true 1 (.int .i64 (0))), none⟩,
 ⟨none, (.store 1 (.t 10) (.c (.int .i64 (6)))), none⟩]
 [] [])
 (.seq
 (.ops [⟨some 37, (.load true 3 (.t 3)), none⟩,
 ⟨some 38, (.load true 2 (.t 4)), none⟩,
 ⟨some 39, (.mkFn (.func 50) [] [(.t 5), (.t 10), (.t 9)]), none⟩,
 ⟨some 40, (.call (.f 49) [(.t 37), (.t 38), (.t 39)]), none⟩,
 ⟨some 11, (.mv (.t 40)), none⟩]
 [] [3, 4, 5, 37, 38, 39, 40])
 (.seq
 (.seq
 (.ops [⟨some 41, (.mv (.t 11)), none⟩,
 ⟨some 42, (.bin .neq (.t 41) (.c (.int .i64 (0)))), none⟩]
 [] [41])
 (.cond (.t 42)
 (.ops [⟨some 43, (.mv (.t 11)), none⟩,
 ⟨none, (.store 1 (.t 10) (.t 43)), none⟩]
 [] [11, 42, 43])
 .skip))
 (.seq
 (.seq
 (.ops [⟨some 44, (.load false 1 (.t 10)), none⟩,
 ⟨some 45, (.bin .neq (.t 44) (.c (.int .i64 (0)))), none⟩]
 [] [11, 42, 44])
 (.cond (.t 45)
 (.seq
 (.ops [⟨some 46, (.build [(.int .i64 (0)), (.int .i64 (0))] []), none⟩,
 ⟨some 47, (.load false 1 (.t 10)), none⟩,
 ⟨none, (.store 2 (.t 6) (.t 46)), none⟩,
 ⟨some 7, (.mv (.t 47)), none⟩]
 [(0, 1), (1, 2)] [9, 10, 45, 46, 47])
 .ret)
 .skip))
 (.seq
 (.ops [⟨some 48, (.load true 2 (.t 9)), none⟩,
 ⟨none, (.store 2 (.t 6) (.t 48)), none⟩,
 ⟨some 7, (.mv (.c (.int .i64 (0)))), none⟩]
 [] [9, 10, 45, 48])
 .ret))))))))))⟩
def loc40 : List Nat := [3, 4, 6]
def fg40 : List (Nat × List Nat) := [(15, [9, 10, 45, 48]), (14, [9, 10, 45, 46, 47]), (13, [11, 42, 44]), (12, [11, 42, 43]), (11, [41]), (10, [3, 4, 5, 37, 38, 39, 40]), (8, [35]), (7, [3, 4, 5, 35, 36]), (6, [31, 33, 34]), (5, [3, 4, 5, 31, 32]), (4, [8, 15, 18, 19, 20, 21, 22, 23, 24, 25, 26, 27, 28, 29, 30]), (3, [3, 4, 5, 8, 15, 16, 17]), (2, [14]), (1, [12, 13]), (0, [0, 1, 2, 7])]
theorem comp40 : compFn Tryd.prog loc40 (fun i => (fg40.lookup i).getD []) Tryd.f40 = some lit40 := by kernel_rfl

-- parcener/ratio.gcd
def lit41 : AFn := ⟨2, [.tmp 4],
 (.seq
 (.ops [⟨some 4, (.mv (.c (.int .u64 (0)))), none⟩]
 [] [4])
 (.seq
 (.block 0
 (.loop
 (.seq
 (.seq
 (.ops [⟨some 5, (.mv (.t 1)), none⟩,
 ⟨some 6, (.bin .gtr (.t 5) (.c (.int .u64 (0)))), none⟩]
 [] [5])
 (.cond (.t 6)
 .skip
 (.exit 0)))
 (.block 1
 (.ops [⟨some 7, (.mv (.t 1)), none⟩,
 ⟨some 8, (.mv (.t 0)), none⟩,
 ⟨some 9, (.mv (.t 1)), none⟩,
 ⟨some 10, (.bin .rem (.t 8) (.t 9)), none⟩,
 ⟨some 0, (.mv (.t 7)), none⟩,
 ⟨some 1, (.mv (.t 10)), none⟩]
 [(0, 1), (0, 2), (1, 2), (0, 3), (2, 4), (3, 4)] [6, 7, 8, 9, 10])))))
 (.seq
 (.ops [⟨some 11, (.mv (.t 0)), none⟩,
 ⟨some 4, (.mv (.t 11)), none⟩]
 [] [0, 1, 6, 11])
 .ret)))⟩
def loc41 : List Nat := []
def fg41 : List (Nat × List Nat) := [(3, [0, 1, 6, 11]), (2, [6, 7, 8, 9, 10]), (1, [5]), (0, [4])]
theorem comp41 : compFn Tryd.prog loc41 (fun i => (fg41.lookup i).getD []) Tryd.f41 = some lit41 := by kernel_rfl

-- parcener/ratio.signed
def lit42 : AFn := ⟨3, [.cell 6 true 2, .tmp 7],
 (.seq
 (.ops [⟨some 6, (.allocL (.agg [(.int .i64 (0)), (.int .i64 (0))])), none⟩,
 ⟨some 7, (.mv (.c (.int .i64 (0)))), none⟩]
 [] [7])
 (.seq
 (.seq
 (.ops [⟨some 8, (.mv (.t 1)), none⟩,
 ⟨some 9, (.mv (.t 2)), none⟩,
 ⟨some 10, (.minmax true [(.t 8), (.t 9)]), none⟩,
 ⟨some 11, (.bin .gtr (.t 10) (.c (.int .u64 (1000000000000000000)))), none⟩]
 [] [8, 9, 10])
 (.cond (.t 11)
 (.seq
 (.ops [⟨some 12, (.build [(.int .i64 (0)), (.int .i64 (0))] []), none⟩,
 ⟨none, (.store 2 (.t 6) (.t 12)), none⟩,
 ⟨some 7, (.mv (.c (.int .i64 (16)))), none⟩]
 [] [0, 1, 2, 11, 12])
 .ret)
 .skip))
 (.seq
 (.seq
 (.ops [⟨some 13, (.mv (.t 0)), none⟩]
 [] [0, 11])
 (.cond (.t 13)
 (.seq
 (.ops [⟨some 14, (.mv (.t 1)), none⟩,
 ⟨some 15, (.conv .i64 (.t 14)), none⟩,
 ⟨some 16, (.un .neg (.t 15)), none⟩,
 ⟨some 17, (.mv (.t 2)), none⟩,
 ⟨some 18, (.conv .i64 (.t 17)), none⟩,
 ⟨some 19, (.build [(.int .i64 (0)), (.int .i64 (0))] [(0, 1, (.t 16)), (1, 1, (.t 18))]), none⟩,
 ⟨none, (.store 2 (.t 6) (.t 19)), none⟩,
 ⟨some 7, (.mv (.c (.int .i64 (0)))), none⟩]
 [] [1, 2, 13, 14, 15, 16, 17, 18, 19])
 .ret)
 .skip))
 (.seq
 (.ops [⟨some 20, (.mv (.t 1)), none⟩,
 ⟨some 21, (.conv .i64 (.t 20)), none⟩,
 ⟨some 22, (.mv (.t 2)), none⟩,
 ⟨some 23, (.conv .i64 (.t 22)), none⟩,
 ⟨some 24, (.build [(.int .i64 (0)), (.int .i64 (0))] [(0, 1, (.t 21)), (1, 1, (.t 23))]), none⟩,
 ⟨none, (.store 2 (.t 6) (.t 24)), none⟩,
 ⟨some 7, (.mv (.c (.int .i64 (0)))), none⟩]
 [] [1, 2, 13, 20, 21, 22, 23, 24])
 .ret))))⟩
def loc42 : List Nat := [6]
def fg42 : List (Nat × List Nat) := [(5, [1, 2, 13, 20, 21, 22, 23, 24]), (4, [1, 2, 13, 14, 15, 16, 17, 18, 19]), (3, [0, 11]), (2, [0, 1, 2, 11, 12]), (1, [8, 9, 10]), (0, [7])]
theorem comp42 : compFn Tryd.prog loc42 (fun i => (fg42.lookup i).getD []) Tryd.f42 = some lit42 := by kernel_rfl

-- parcener/cake.Value
def lit43 : AFn := ⟨3, [.cell 6 true 2, .tmp 7],
 (.seq
 (.ops [⟨some 3, (.boxL (.t 0)), none⟩,
 ⟨some 4, (.boxL (.t 1)), none⟩,
 ⟨some 5, (.boxL (.t 2)), none⟩,
 ⟨some 6, (.allocL (.agg [(.int .i64 (0)), (.int .i64 (0))])), none⟩,
 ⟨some 7, (.mv (.c (.int .i64 (0)))), none⟩]
 [] [0, 1, 2, 7])
 (.seq
 (.seq
 (.ops [⟨some 17, (.load true 3 (.t 3)), none⟩,
 ⟨some 18, (.call (.f 23) [(.t 17)]), none⟩,
 ⟨some 8, (.mv (.t 18)), none⟩]
 [] [17, 18])
 (.seq
 (.ops [⟨some 19, (.mv (.t 8)), none⟩,
 ⟨some 20, (.bin .neq (.t 19) (.c (.int .i64 (0)))), none⟩]
 [] [19])
 (.cond (.t 20)
 (.seq
 (.ops [⟨some 21, (.build [(.int .i64 (0)), (.int .i64 (0))] []), none⟩,
 ⟨some 22, (.mv (.t 8)), none⟩,
 ⟨none, (.store 2 (.t 6) (.t 21)), none⟩,
 ⟨some 7, (.mv (.t 22)), none⟩]
 [] [3, 4, 5, 8, 20, 21, 22])
 .ret)
 .skip)))
 (.seq
 (.seq
 (.ops [⟨some 23, (.load true 3 (.t 3)), none⟩,
 ⟨some 24, (.load true 2 (.t 4)), none⟩,
 ⟨some 25, (.call (.f 48) [(.t 23), (.t 24)]), none⟩,
 ⟨some 26, (.un .not (.t 25)), none⟩,
 ⟨some 27, (.mv (.t 26)), none⟩,
 ⟨some 28, (.load true 3 (.t 3)), some (27, false)⟩,
 ⟨some 29, (.load true 2 (.t 5)), some (27, false)⟩,
 ⟨some 30, (.call (.f 48) [(.t 28), (.t 29)]), some (27, false)⟩,
 ⟨some 31, (.un .not (.t 30)), some (27, false)⟩,
 ⟨some 32, (.pick (.t 27) (.c (.bool true)) (.t 31)), none⟩,
 ⟨some 33, (.mv (.t 32)), none⟩,
 ⟨some 34, (.load true 2 (.t 5)), some (33, false)⟩,
 ⟨some 35, (.load true 2 (.t 4)), some (33, false)⟩,
 ⟨some 36, (.call (.f 51) [(.t 34), (.t 35)]), some (33, false)⟩,
 ⟨some 37, (.pick (.t 33) (.c (.bool true)) (.t 36)), none⟩]
 [] [8, 20, 23, 24, 25, 26, 27, 28, 29, 30, 31, 32, 33, 34, 35, 36])
 (.cond (.t 37)
 (.seq
 (.ops [⟨some 38, (.build [(.int .i64 (0)), (.int .i64 (0))] []), none⟩,
 ⟨none, (.store 2 (.t 6) (.t 38)), none⟩,
 ⟨some 7, (.mv (.c (.int .i64 (2)))), none⟩]
 [] [3, 4, 5, 37, 38])
 .ret)
 .skip))
 (.seq
 (.ops [⟨some 39, (.call (.f 54) [(.c (.int .i64 (0)))]), none⟩,
 ⟨some 9, (.allocL (.agg [(.int .i64 (0)), (.int .i64 (0))])), none⟩,
 ⟨none, (.store 2 (.t 9) (.t 39)), none⟩]
 [] [37, 39])
 (.seq
 (.ops [⟨some 40, (.load true 2 (.t 4)), none⟩,
 ⟨some 10, (.allocL (.agg [(.int .i64 (0)), (.int .i64 (0))])), none⟩,
 ⟨none, (.store 2 (.t 10) (.t 40)), none⟩]
 [] [4, 40])
 (.seq
 (.seq
 (.ops [⟨some 41, (.fad 2 (.t 3)), none⟩,
 ⟨some 42, (.load false 1 (.t 41)), none⟩,
 ⟨some 43, (.len (.t 42)), none⟩,
 ⟨some 44, (.mv (.c (.int .i64 (0)))), none⟩]
 [] [41])
 (.block 0
 (.loop
 (.seq
 (.ops [⟨some 45, (.bin .lss (.t 44) (.t 43)), none⟩]
 [] [])
 (.seq
 (.cond (.t 45)
 .skip
 (.exit 0))
 (.seq
 (.block 1
 (.seq
 (.ops [⟨some 46, (.mv (.t 44)), none⟩,
 ⟨some 47, (.iad 1 (.t 42) (.t 44)), none⟩,
 ⟨some 48, (.load false 1 (.t 47)), none⟩,
 ⟨some 11, (.mv (.t 46)), none⟩,
 ⟨some 12, (.mv (.t 48)), none⟩]
 [] [45, 46, 47, 48])
 (.seq
 (.ops [⟨some 49, (.fad 1 (.t 3)), none⟩,
 ⟨some 50, (.load false 1 (.t 49)), none⟩,
 ⟨some 51, (.mv (.t 11)), none⟩,
 ⟨some 52, (.bin .add (.t 51) (.c (.int .i64 (1)))), none⟩,
 ⟨some 53, (.iad 1 (.t 50) (.t 52)), none⟩,
 ⟨some 54, (.load false 1 (.t 53)), none⟩,
 ⟨some 55, (.call (.f 54) [(.t 54)]), none⟩,
 ⟨some 13, (.allocL (.agg [(.int .i64 (0)), (.int .i64 (0))])), none⟩,
 ⟨none, (.store 2 (.t 13) (.t 55)), none⟩]
 [] [11, 49, 50, 51, 52, 53, 54, 55])
 (.seq
 (.seq
 (.ops [⟨some 56, (.load true 2 (.t 5)), none⟩,
 ⟨some 57, (.load true 2 (.t 13)), none⟩,
 ⟨some 58, (.call (.f 51) [(.t 56), (.t 57)]), none⟩]
 [] [56, 57])
 (.cond (.t 58)
 (.ops [⟨some 59, (.load true 2 (.t 5)), none⟩,
 ⟨none, (.store 2 (.t 13) (.t 59)), none⟩]
 [] [58, 59])
 .skip))
 (.seq
 (.seq
 (.ops [⟨some 60, (.mv (.t 12)), none⟩,
 ⟨some 61, (.bin .eql (.t 60) (.c (.int .i64 (0)))), none⟩,
 ⟨some 62, (.mv (.t 61)), none⟩,
 ⟨some 63, (.load true 2 (.t 10)), some (62, false)⟩,
 ⟨some 64, (.load true 2 (.t 13)), some (62, false)⟩,
 ⟨some 65, (.call (.f 51) [(.t 63), (.t 64)]), some (62, false)⟩,
 ⟨some 66, (.un .not (.t 65)), some (62, false)⟩,
 ⟨some 67, (.pick (.t 62) (.c (.bool true)) (.t 66)), none⟩]
 [] [58, 60, 61, 62, 63, 64, 65, 66])
 (.cond (.t 67)
 (.seq
 (.seq
 (.ops [⟨some 68, (.load true 2 (.t 10)), none⟩,
 ⟨some 69, (.load true 2 (.t 13)), none⟩,
 ⟨some 70, (.call (.f 51) [(.t 68), (.t 69)]), none⟩]
 [] [12, 67, 68, 69])
 (.cond (.t 70)
 (.ops [⟨some 71, (.load true 2 (.t 13)), none⟩,
 ⟨none, (.store 2 (.t 10) (.t 71)), none⟩]
 [] [13, 70, 71])
 .skip))
 (.exit 1))
 .skip))
 (.seq
 (.ops [⟨some 73, (.load true 2 (.t 13)), none⟩,
 ⟨some 74, (.load true 2 (.t 10)), none⟩,
 ⟨some 75, (.call (.f 52) [(.t 73), (.t 74)]), none⟩,
 ⟨some 72, (.mv (.t 75)), none⟩,
 ⟨some 76, (.ext (.t 72) 0), none⟩,
 ⟨some 77, (.ext (.t 72) 1), none⟩,
 ⟨some 14, (.allocL (.agg [(.int .i64 (0)), (.int .i64 (0))])), none⟩,
 ⟨none, (.store 2 (.t 14) (.t 76)), none⟩,
 ⟨some 15, (.mv (.t 77)), none⟩]
 [] [67, 72, 73, 74, 75, 76, 77])
 (.seq
 (.seq
 (.ops [⟨some 78, (.mv (.t 15)), none⟩,
 ⟨some 79, (.bin .neq (.t 78) (.c (.int .i64 (0)))), none⟩]
 [] [78])
 (.cond (.t 79)
 (.seq
 (.ops [⟨some 80, (.build [(.int .i64 (0)), (.int .i64 (0))] []), none⟩,
 ⟨some 81, (.mv (.t 15)), none⟩,
 ⟨none, (.store 2 (.t 6) (.t 80)), none⟩,
 ⟨some 7, (.mv (.t 81)), none⟩]
 [] [3, 5, 9, 10, 12, 13, 14, 15, 42, 43, 44, 79, 80, 81])
 .ret)
 .skip))
 (.seq
 (.ops [⟨some 83, (.load true 2 (.t 14)), none⟩,
 ⟨some 84, (.mv (.t 12)), none⟩,
 ⟨some 85, (.call (.f 54) [(.t 84)]), none⟩,
 ⟨some 86, (.call (.f 56) [(.t 83), (.t 85)]), none⟩,
 ⟨some 82, (.mv (.t 86)), none⟩,
 ⟨some 87, (.ext (.t 82) 0), none⟩,
 ⟨some 88, (.ext (.t 82) 1), none⟩,
 ⟨some 16, (.allocL (.agg [(.int .i64 (0)), (.int .i64 (0))])), none⟩,
 ⟨none, (.store 2 (.t 16) (.t 87)), none⟩,
 ⟨some 15, (.mv (.t 88)), none⟩]
 [(0, 1), (0, 2), (5, 6), (0, 7), (1, 7), (2, 7), (3, 7), (4, 7), (5, 7), (6, 7), (6, 8)] [12, 14, 79, 82, 83, 84, 85, 86, 87, 88])
 (.seq
 (.seq
 (.ops [⟨some 89, (.mv (.t 15)), none⟩,
 ⟨some 90, (.bin .neq (.t 89) (.c (.int .i64 (0)))), none⟩]
 [] [89])
 (.cond (.t 90)
 (.seq
 (.ops [⟨some 91, (.build [(.int .i64 (0)), (.int .i64 (0))] []), none⟩,
 ⟨some 92, (.mv (.t 15)), none⟩,
 ⟨none, (.store 2 (.t 6) (.t 91)), none⟩,
 ⟨some 7, (.mv (.t 92)), none⟩]
 [] [3, 5, 9, 10, 13, 15, 16, 42, 43, 44, 90, 91, 92])
 .ret)
 .skip))
 (.seq
 (.seq
 (.ops [⟨some 94, (.load true 2 (.t 9)), none⟩,
 ⟨some 95, (.load true 2 (.t 16)), none⟩,
 ⟨some 96, (.call (.f 55) [(.t 94), (.t 95)]), none⟩,
 ⟨some 93, (.mv (.t 96)), none⟩,
 ⟨some 97, (.ext (.t 93) 0), none⟩,
 ⟨some 98, (.ext (.t 93) 1), none⟩,
 ⟨none, (.store 2 (.t 9) (.t 97)), none⟩,
 ⟨some 15, (.mv (.t 98)), none⟩]
 [] [16, 90, 93, 94, 95, 96, 97, 98])
 (.seq
 (.ops [⟨some 99, (.mv (.t 15)), none⟩,
 ⟨some 100, (.bin .neq (.t 99) (.c (.int .i64 (0)))), none⟩]
 [] [99])
 (.cond (.t 100)
 (.seq
 (.ops [⟨some 101, (.build [(.int .i64 (0)), (.int .i64 (0))] []), none⟩,
 ⟨some 102, (.mv (.t 15)), none⟩,
 ⟨none, (.store 2 (.t 6) (.t 101)), none⟩,
 ⟨some 7, (.mv (.t 102)), none⟩]
 [] [3, 5, 9, 10, 13, 15, 42, 43, 44, 100, 101, 102])
 .ret)
 .skip)))
 (.ops [⟨some 103, (.load true 2 (.t 13)), none⟩,
 ⟨none, (.store 2 (.t 10) (.t 103)), none⟩]
 [] [13, 15, 100, 103])))))))))))
 (.ops [⟨some 104, (.bin .add (.t 44) (.c (.int .i64 (1)))), none⟩,
 ⟨some 44, (.mv (.t 104)), none⟩]
 [] [13, 70, 104])))))))
 (.seq
 (.ops [⟨some 105, (.load true 2 (.t 9)), none⟩,
 ⟨none, (.store 2 (.t 6) (.t 105)), none⟩,
 ⟨some 7, (.mv (.c (.int .i64 (0)))), none⟩]
 [] [3, 5, 9, 10, 42, 43, 44, 45, 105])
 .ret)))))))⟩
def loc43 : List Nat := [3, 4, 5, 6, 9, 10, 13, 14, 16]
def fg43 : List (Nat × List Nat) := [(28, [3, 5, 9, 10, 42, 43, 44, 45, 105]), (27, [13, 70, 104]), (26, [13, 15, 100, 103]), (25, [3, 5, 9, 10, 13, 15, 42, 43, 44, 100, 101, 102]), (24, [99]), (23, [16, 90, 93, 94, 95, 96, 97, 98]), (22, [3, 5, 9, 10, 13, 15, 16, 42, 43, 44, 90, 91, 92]), (21, [89]), (20, [12, 14, 79, 82, 83, 84, 85, 86, 87, 88]), (19, [3, 5, 9, 10, 12, 13, 14, 15, 42, 43, 44, 79, 80, 81]), (18, [78]), (17, [67, 72, 73, 74, 75, 76, 77]), (16, [13, 70, 71]), (15, [12, 67, 68, 69]), (14, [58, 60, 61, 62, 63, 64, 65, 66]), (13, [58, 59]), (12, [56, 57]), (11, [11, 49, 50, 51, 52, 53, 54, 55]), (10, [45, 46, 47, 48]), (8, [41]), (7, [4, 40]), (6, [37, 39]), (5, [3, 4, 5, 37, 38]), (4, [8, 20, 23, 24, 25, 26, 27, 28, 29, 30, 31, 32, 33, 34, 35, 36]), (3, [3, 4, 5, 8, 20, 21, 22]), (2, [19]), (1, [17, 18]), (0, [0, 1, 2, 7])]
theorem comp43 : compFn Tryd.prog loc43 (fun i => (fg43.lookup i).getD []) Tryd.f43 = some lit43 := by kernel_rfl

-- cmp.Or[parcener/api.Errno]
def lit44 : AFn := ⟨1, [.tmp 2],
 (.seq
 (.ops [⟨some 2, (.mv (.c (.int .i64 (0)))), none⟩]
 [] [2])
 (.seq
 (.ops [⟨some 3, (.mv (.c (.int .i64 (0)))), none⟩]
 [] [])
 (.seq
 (.seq
 (.ops [⟨some 6, (.mv (.t 0)), none⟩,
 ⟨some 7, (.len (.t 6)), none⟩,
 ⟨some 8, (.mv (.c (.int .i64 (0)))), none⟩]
 [] [0])
 (.block 0
 (.loop
 (.seq
 (.ops [⟨some 9, (.bin .lss (.t 8) (.t 7)), none⟩]
 [] [])
 (.seq
 (.cond (.t 9)
 .skip
 (.exit 0))
 (.seq
 (.block 1
 (.seq
 (.ops [⟨some 10, (.iad 1 (.t 6) (.t 8)), none⟩,
 ⟨some 11, (.load false 1 (.t 10)), none⟩,
 ⟨some 5, (.mv (.t 11)), none⟩]
 [] [9, 10, 11])
 (.seq
 (.ops [⟨some 12, (.mv (.t 5)), none⟩,
 ⟨some 13, (.mv (.t 3)), none⟩,
 ⟨some 14, (.bin .neq (.t 12) (.t 13)), none⟩]
 [] [12, 13])
 (.cond (.t 14)
 (.seq
 (.ops [⟨some 15, (.mv (.t 5)), none⟩,
 ⟨some 2, (.mv (.t 15)), none⟩]
 [] [3, 5, 6, 7, 8, 14, 15])
 .ret)
 .skip))))
 (.ops [⟨some 16, (.bin .add (.t 8) (.c (.int .i64 (1)))), none⟩,
 ⟨some 8, (.mv (.t 16)), none⟩]
 [] [5, 14, 16])))))))
 (.seq
 (.ops [⟨some 17, (.mv (.t 3)), none⟩,
 ⟨some 2, (.mv (.t 17)), none⟩]
 [] [3, 6, 7, 8, 9, 17])
 .ret))))⟩
def loc44 : List Nat := []
def fg44 : List (Nat × List Nat) := [(8, [3, 6, 7, 8, 9, 17]), (7, [5, 14, 16]), (6, [3, 5, 6, 7, 8, 14, 15]), (5, [12, 13]), (4, [9, 10, 11]), (2, [0]), (0, [2])]
theorem comp44 : compFn Tryd.prog loc44 (fun i => (fg44.lookup i).getD []) Tryd.f44 = some lit44 := by kernel_rfl

-- parcener/ratio.Check
def lit45 : AFn := ⟨1, [.tmp 2],
 (.seq
 (.ops [⟨some 1, (.boxL (.t 0)), none⟩,
 ⟨some 2, (.mv (.c (.int .i64 (0)))), none⟩]
 [] [0, 2])
 (.seq
 (.seq
 (.ops [⟨some 3, (.fad 1 (.t 1)), none⟩,
 ⟨some 4, (.load false 1 (.t 3)), none⟩,
 ⟨some 5, (.bin .lss (.t 4) (.c (.int .i64 (1)))), none⟩,
 ⟨some 6, (.mv (.t 5)), none⟩,
 ⟨some 7, (.fad 0 (.t 1)), some (6, false)⟩,
 ⟨some 8, (.load false 1 (.t 7)), some (6, false)⟩,
 ⟨some 9, (.call (.f 34) [(.t 8)]), some (6, false)⟩,
 ⟨some 10, (.fad 1 (.t 1)), some (6, false)⟩,
 ⟨some 11, (.load false 1 (.t 10)), some (6, false)⟩,
 ⟨some 12, (.conv .u64 (.t 11)), some (6, false)⟩,
 ⟨some 13, (.minmax true [(.t 9), (.t 12)]), some (6, false)⟩,
 ⟨some 14, (.bin .gtr (.t 13) (.c (.int .u64 (1000000000000000000)))), some (6, false)⟩,
 ⟨some 15, (.pick (.t 6) (.c (.bool true)) (.t 14)), none⟩,
 ⟨some 16, (.mv (.t 15)), none⟩,
 ⟨some 17, (.fad 0 (.t 1)), some (16, false)⟩,
 ⟨some 18, (.load false 1 (.t 17)), some (16, false)⟩,
 ⟨some 19, (.call (.f 34) [(.t 18)]), some (16, false)⟩,
 ⟨some 20, (.fad 1 (.t 1)), some (16, false)⟩,
 ⟨some 21, (.load false 1 (.t 20)), some (16, false)⟩,
 ⟨some 22, (.conv .u64 (.t 21)), some (16, false)⟩,
 ⟨some 23, (.call (.f 41) [(.t 19), (.t 22)]), some (16, false)⟩,
 ⟨some 24, (.bin .gtr (.t 23) (.c (.int .u64 (1)))), some (16, false)⟩,
 ⟨some 25, (.pick (.t 16) (.c (.bool true)) (.t 24)), none⟩]
 [(4, 7), (5, 7), (6, 7), (4, 8), (5, 8), (6, 8), (4, 9), (5, 9), (6, 9), (14, 17), (15, 17), (16, 17), (14, 18), (15, 18), (16, 18), (14, 19), (15, 19), (16, 19)] [1, 3, 4, 5, 6, 7, 8, 9, 10, 11, 12, 13, 14, 15, 16, 17, 18, 19, 20, 21, 22, 23, 24])
 (.cond (.t 25)
 (.seq
 (.ops [⟨some 2, (.mv (.c (.int .i64 (8)))), none⟩]
 [] [25])
 .ret)
 .skip))
 (.seq
 (.ops [⟨some 2, (.mv (.c (.int .i64 (0)))), none⟩]
 [] [25])
 .ret)))⟩
def loc45 : List Nat := [1]
def fg45 : List (Nat × List Nat) := [(3, [25]), (2, [25]), (1, [1, 3, 4, 5, 6, 7, 8, 9, 10, 11, 12, 13, 14, 15, 16, 17, 18, 19, 20, 21, 22, 23, 24]), (0, [0, 2])]
theorem comp45 : compFn Tryd.prog loc45 (fun i => (fg45.lookup i).getD []) Tryd.f45 = some lit45 := by kernel_rfl

-- cmp.isNaN[uint64]
def lit47 : AFn := ⟨1, [.tmp 2],
 (.seq
 (.ops [⟨some 2, (.mv (.c (.bool false))), none⟩]
 [] [2])
 (.seq
 (.ops [⟨some 3, (.mv (.t 0)), none⟩,
 ⟨some 4, (.mv (.t 0)), none⟩,
 ⟨some 5, (.bin .neq (.t 3) (.t 4)), none⟩,
 ⟨some 2, (.mv (.t 5)), none⟩]
 [] [0, 3, 4, 5])
 .ret))⟩
def loc47 : List Nat := []
def fg47 : List (Nat × List Nat) := [(1, [0, 3, 4, 5]), (0, [2])]
theorem comp47 : compFn Tryd.prog loc47 (fun i => (fg47.lookup i).getD []) Tryd.f47 = some lit47 := by kernel_rfl

-- parcener/cake.point
def lit48 : AFn := ⟨2, [.tmp 4],
 (.seq
 (.ops [⟨some 2, (.boxL (.t 0)), none⟩,
 ⟨some 3, (.boxL (.t 1)), none⟩,
 ⟨some 4, (.mv (.c (.bool false))), none⟩]
 [] [0, 1, 4])
 (.seq
 (.ops [⟨some 5, (.load true 2 (.t 3)), none⟩,
 ⟨some 6, (.call (.f 45) [(.t 5)]), none⟩,
 ⟨some 7, (.bin .eql (.t 6) (.c (.int .i64 (0)))), none⟩,
 ⟨some 8, (.mv (.t 7)), none⟩,
 ⟨some 9, (.fad 0 (.t 3)), some (8, true)⟩,
 ⟨some 10, (.load false 1 (.t 9)), some (8, true)⟩,
 ⟨some 11, (.bin .geq (.t 10) (.c (.int .i64 (0)))), some (8, true)⟩,
 ⟨some 12, (.pick (.t 8) (.t 11) (.c (.bool false))), none⟩,
 ⟨some 13, (.mv (.t 12)), none⟩,
 ⟨some 14, (.fad 0 (.t 2)), some (13, true)⟩,
 ⟨some 15, (.load false 1 (.t 14)), some (13, true)⟩,
 ⟨some 16, (.call (.f 54) [(.t 15)]), some (13, true)⟩,
 ⟨some 17, (.load true 2 (.t 3)), some (13, true)⟩,
 ⟨some 18, (.call (.f 51) [(.t 16), (.t 17)]), some (13, true)⟩,
 ⟨some 19, (.un .not (.t 18)), some (13, true)⟩,
 ⟨some 20, (.pick (.t 13) (.t 19) (.c (.bool false))), none⟩,
 ⟨some 4, (.mv (.t 20)), none⟩]
 [(9, 12), (10, 12), (11, 12)] [2, 3, 5, 6, 7, 8, 9, 10, 11, 12, 13, 14, 15, 16, 17, 18, 19, 20])
 .ret))⟩
def loc48 : List Nat := [2, 3]
def fg48 : List (Nat × List Nat) := [(1, [2, 3, 5, 6, 7, 8, 9, 10, 11, 12, 13, 14, 15, 16, 17, 18, 19, 20]), (0, [0, 1, 4])]
theorem comp48 : compFn Tryd.prog loc48 (fun i => (fg48.lookup i).getD []) Tryd.f48 = some lit48 := by kernel_rfl

-- parcener/cake.walk
def lit49 : AFn := ⟨3, [.tmp 6],
 (.seq
 (.ops [⟨some 3, (.boxL (.t 0)), none⟩,
 ⟨some 4, (.boxL (.t 1)), none⟩,
 ⟨some 6, (.mv (.c (.int .i64 (0)))), none⟩]
 [] [0, 1, 6])
 (.seq
 (.seq
 (.ops [⟨some 13, (.fad 2 (.t 3)), none⟩,
 ⟨some 14, (.load false 1 (.t 13)), none⟩,
 ⟨some 15, (.len (.t 14)), none⟩,
 ⟨some 16, (.mv (.c (.int .i64 (0)))), none⟩]
 [] [13])
 (.block 0
 (.loop
 (.seq
 (.ops [⟨some 17, (.bin .lss (.t 16) (.t 15)), none⟩]
 [] [])
 (.seq
 (.cond (.t 17)
 .skip
 (.exit 0))
 (.seq
 (.block 1
 (.seq
 (.ops [⟨some 18, (.mv (.t 16)), none⟩,
 ⟨some 19, (.iad 1 (.t 14) (.t 16)), none⟩,
 ⟨some 20, (.load false 1 (.t 19)), none⟩,
 ⟨some 7, (.mv (.t 18)), none⟩,
 ⟨some 8, (.mv (.t 20)), none⟩]
 [] [17, 18, 19, 20])
 (.seq
 (.ops [⟨some 21, (.fad 1 (.t 3)), none⟩,
 ⟨some 22, (.load false 1 (.t 21)), none⟩,
 ⟨some 23, (.mv (.t 7)), none⟩,
 ⟨some 24, (.bin .add (.t 23) (.c (.int .i64 (1)))), none⟩,
 ⟨some 25, (.iad 1 (.t 22) (.t 24)), none⟩,
 ⟨some 26, (.load false 1 (.t 25)), none⟩,
 ⟨some 27, (.call (.f 54) [(.t 26)]), none⟩,
 ⟨some 9, (.allocL (.agg [(.int .i64 (0)), (.int .i64 (0))])), none⟩,
 ⟨none, (.store 2 (.t 9) (.t 27)), none⟩]
 [] [7, 21, 22, 23, 24, 25, 26, 27])
 (.seq
 (.seq
 (.ops [⟨some 28, (.load true 2 (.t 4)), none⟩,
 ⟨some 29, (.load true 2 (.t 9)), none⟩,
 ⟨some 30, (.call (.f 51) [(.t 28), (.t 29)]), none⟩,
 ⟨some 31, (.un .not (.t 30)), none⟩]
 [] [28, 29, 30])
 (.cond (.t 31)
 (.exit 1)
 .skip))
 (.seq
 (.ops [⟨some 32, (.call (.f 54) [(.c (.int .i64 (0)))]), none⟩,
 ⟨some 10, (.allocL (.agg [(.int .i64 (0)), (.int .i64 (0))])), none⟩,
 ⟨none, (.store 2 (.t 10) (.t 32)), none⟩]
 [] [31, 32])
 (.seq
 (.seq
 (.ops [⟨some 33, (.mv (.t 8)), none⟩,
 ⟨some 34, (.bin .gtr (.t 33) (.c (.int .i64 (0)))), none⟩]
 [] [33])
 (.cond (.t 34)
 (.seq
 (.ops [⟨some 36, (.load true 2 (.t 9)), none⟩,
 ⟨some 37, (.load true 2 (.t 4)), none⟩,
 ⟨some 38, (.call (.f 52) [(.t 36), (.t 37)]), none⟩,
 ⟨some 35, (.mv (.t 38)), none⟩,
 ⟨some 39, (.ext (.t 35) 0), none⟩,
 ⟨some 40, (.ext (.t 35) 1), none⟩,
 ⟨some 11, (.allocL (.agg [(.int .i64 (0)), (.int .i64 (0))])), none⟩,
 ⟨none, (.store 2 (.t 11) (.t 39)), none⟩,
 ⟨some 12, (.mv (.t 40)), none⟩]
 [] [34, 35, 36, 37, 38, 39, 40])
 (.seq
 (.seq
 (.ops [⟨some 41, (.mv (.t 12)), none⟩,
 ⟨some 42, (.bin .neq (.t 41) (.c (.int .i64 (0)))), none⟩]
 [] [41])
 (.cond (.t 42)
 (.seq
 (.ops [⟨some 43, (.mv (.t 12)), none⟩,
 ⟨some 6, (.mv (.t 43)), none⟩]
 [] [2, 3, 4, 8, 9, 10, 11, 12, 14, 15, 16, 42, 43])
 .ret)
 .skip))
 (.seq
 (.ops [⟨some 45, (.load true 2 (.t 11)), none⟩,
 ⟨some 46, (.mv (.t 8)), none⟩,
 ⟨some 47, (.call (.f 54) [(.t 46)]), none⟩,
 ⟨some 48, (.call (.f 56) [(.t 45), (.t 47)]), none⟩,
 ⟨some 44, (.mv (.t 48)), none⟩,
 ⟨some 49, (.ext (.t 44) 0), none⟩,
 ⟨some 50, (.ext (.t 44) 1), none⟩,
 ⟨none, (.store 2 (.t 10) (.t 49)), none⟩,
 ⟨some 12, (.mv (.t 50)), none⟩]
 [(0, 1), (0, 2), (5, 6), (6, 7)] [11, 42, 44, 45, 46, 47, 48, 49, 50])
 (.seq
 (.ops [⟨some 51, (.mv (.t 12)), none⟩,
 ⟨some 52, (.bin .neq (.t 51) (.c (.int .i64 (0)))), none⟩]
 [] [51])
 (.cond (.t 52)
 (.seq
 (.ops [⟨some 53, (.mv (.t 12)), none⟩,
 ⟨some 6, (.mv (.t 53)), none⟩]
 [] [2, 3, 4, 8, 9, 10, 12, 14, 15, 16, 52, 53])
 .ret)
 .skip)))))
 .skip))
 (.seq
 (.seq
 (.ops [⟨some 54, (.mv (.t 2)), none⟩,
 ⟨some 55, (.load true 2 (.t 4)), none⟩,
 ⟨some 56, (.load true 2 (.t 9)), none⟩,
 ⟨some 57, (.load true 2 (.t 10)), none⟩,
 ⟨some 58, (.mv (.t 8)), none⟩,
 ⟨some 59, (.call (.t 54) [(.t 55), (.t 56), (.t 57), (.t 58)]), none⟩]
 [] [8, 10, 12, 34, 52, 54, 55, 56, 57, 58])
 (.cond (.t 59)
 (.seq
 (.ops [⟨some 6, (.mv (.c (.int .i64 (0)))), none⟩]
 [] [2, 3, 4, 9, 14, 15, 16, 59])
 .ret)
 .skip))
 (.ops [⟨some 60, (.load true 2 (.t 9)), none⟩,
 ⟨none, (.store 2 (.t 4) (.t 60)), none⟩]
 [] [9, 59, 60]))))))))
 (.ops [⟨some 61, (.bin .add (.t 16) (.c (.int .i64 (1)))), none⟩,
 ⟨some 16, (.mv (.t 61)), none⟩]
 [] [8, 9, 31, 61])))))))
 (.seq
 (.ops [⟨some 6, (.mv (.c (.int .i64 (0)))), none⟩]
 [] [2, 3, 4, 14, 15, 16, 17])
 .ret)))⟩
def loc49 : List Nat := [3, 4, 9, 10, 11]
def fg49 : List (Nat × List Nat) := [(18, [2, 3, 4, 14, 15, 16, 17]), (17, [8, 9, 31, 61]), (16, [9, 59, 60]), (15, [2, 3, 4, 9, 14, 15, 16, 59]), (14, [8, 10, 12, 34, 52, 54, 55, 56, 57, 58]), (13, [2, 3, 4, 8, 9, 10, 12, 14, 15, 16, 52, 53]), (12, [51]), (11, [11, 42, 44, 45, 46, 47, 48, 49, 50]), (10, [2, 3, 4, 8, 9, 10, 11, 12, 14, 15, 16, 42, 43]), (9, [41]), (8, [34, 35, 36, 37, 38, 39, 40]), (7, [33]), (6, [31, 32]), (5, [28, 29, 30]), (4, [7, 21, 22, 23, 24, 25, 26, 27]), (3, [17, 18, 19, 20]), (1, [13]), (0, [0, 1, 6])]
theorem comp49 : compFn Tryd.prog loc49 (fun i => (fg49.lookup i).getD []) Tryd.f49 = some lit49 := by kernel_rfl

-- parcener/cake.Mark$1
def lit50 : AFn := ⟨7, [.tmp 11],
 (.seq
 (.ops [⟨some 7, (.boxL (.t 0)), none⟩,
 ⟨some 8, (.boxL (.t 1)), none⟩,
 ⟨some 9, (.boxL (.t 2)), none⟩,
 ⟨some 11, (.mv (.c (.bool false))), none⟩]
 [] [0, 1, 2, 8, 11])
 (.seq
 (.seq
 (.ops [⟨some 16, (.mv (.t 3)), none⟩,
 ⟨some 17, (.bin .eql (.t 16) (.c (.int .i64 (0)))), none⟩]
 [] [16])
 (.cond (.t 17)
 (.seq
 (.ops [⟨some 11, (.mv (.c (.bool false))), none⟩]
 [] [3, 4, 5, 6, 7, 9, 17])
 .ret)
 .skip))
 (.seq
 (.seq
 (.ops [⟨some 18, (.load true 2 (.t 9)), none⟩,
 ⟨some 19, (.load true 2 (.t 4)), none⟩,
 ⟨some 20, (.call (.f 51) [(.t 18), (.t 19)]), none⟩]
 [] [17, 18, 19])
 (.cond (.t 20)
 (.seq
 (.ops [⟨some 22, (.load true 2 (.t 4)), none⟩,
 ⟨some 23, (.load true 2 (.t 9)), none⟩,
 ⟨some 24, (.call (.f 52) [(.t 22), (.t 23)]), none⟩,
 ⟨some 21, (.mv (.t 24)), none⟩,
 ⟨some 25, (.ext (.t 21) 0), none⟩,
 ⟨some 26, (.ext (.t 21) 1), none⟩,
 ⟨some 12, (.allocL (.agg [(.int .i64 (0)), (.int .i64 (0))])), none⟩,
 ⟨none, (.store 2 (.t 12) (.t 25)), none⟩,
 ⟨some 13, (.mv (.t 26)), none⟩]
 [] [3, 6, 7, 9, 20, 21, 22, 23, 24, 25, 26])
 (.seq
 (.ops [⟨some 27, (.load true 2 (.t 12)), none⟩,
 ⟨none, (.store 2 (.t 4) (.t 27)), none⟩,
 ⟨none, (.store 1 (.t 5) (.c (.int .i64 (6)))), none⟩]
 [] [4, 12, 27])
 (.seq
 (.seq
 (.ops [⟨some 28, (.mv (.t 13)), none⟩,
 ⟨some 29, (.bin .neq (.t 28) (.c (.int .i64 (0)))), none⟩]
 [] [28])
 (.cond (.t 29)
 (.ops [⟨some 30, (.mv (.t 13)), none⟩,
 ⟨none, (.store 1 (.t 5) (.t 30)), none⟩]
 [] [5, 29, 30])
 .skip))
 (.seq
 (.ops [⟨some 31, (.mv (.t 13)), none⟩,
 ⟨some 32, (.bin .neq (.t 31) (.c (.int .i64 (0)))), none⟩,
 ⟨some 11, (.mv (.t 32)), none⟩]
 [] [5, 13, 29, 31, 32])
 .ret))))
 .skip))
 (.seq
 (.ops [⟨some 34, (.load true 2 (.t 4)), none⟩,
 ⟨some 35, (.mv (.t 3)), none⟩,
 ⟨some 36, (.call (.f 54) [(.t 35)]), none⟩,
 ⟨some 37, (.call (.f 53) [(.t 34), (.t 36)]), none⟩,
 ⟨some 33, (.mv (.t 37)), none⟩,
 ⟨some 38, (.ext (.t 33) 0), none⟩,
 ⟨some 39, (.ext (.t 33) 1), none⟩,
 ⟨some 14, (.allocL (.agg [(.int .i64 (0)), (.int .i64 (0))])), none⟩,
 ⟨none, (.store 2 (.t 14) (.t 38)), none⟩,
 ⟨some 15, (.mv (.t 39)), none⟩]
 [(0, 1), (0, 2), (5, 6), (0, 7), (1, 7), (2, 7), (3, 7), (4, 7), (5, 7), (6, 7), (6, 8)] [3, 4, 9, 20, 33, 34, 35, 36, 37, 38, 39])
 (.seq
 (.seq
 (.ops [⟨some 40, (.mv (.t 15)), none⟩,
 ⟨some 41, (.bin .eql (.t 40) (.c (.int .i64 (0)))), none⟩]
 [] [40])
 (.cond (.t 41)
 (.ops [⟨some 43, (.load true 2 (.t 7)), none⟩,
 ⟨some 44, (.load true 2 (.t 14)), none⟩,
 ⟨some 45, (.call (.f 55) [(.t 43), (.t 44)]), none⟩,
 ⟨some 42, (.mv (.t 45)), none⟩,
 ⟨some 46, (.ext (.t 42) 0), none⟩,
 ⟨some 47, (.ext (.t 42) 1), none⟩,
 ⟨none, (.store 2 (.t 6) (.t 46)), none⟩,
 ⟨some 15, (.mv (.t 47)), none⟩]
 [] [6, 7, 14, 41, 42, 43, 44, 45, 46, 47])
 .skip))
 (.seq
 (.ops [⟨some 48, (.mv (.t 15)), none⟩,
 ⟨none, (.store 1 (.t 5) (.t 48)), none⟩]
 [] [5, 6, 7, 14, 15, 41, 48])
 (.seq
 (.ops [⟨some 11, (.mv (.c (.bool true))), none⟩]
 [] [])
 .ret)))))))⟩
def loc50 : List Nat := [7, 8, 9, 12, 14]
def fg50 : List (Nat × List Nat) := [(12, [5, 6, 7, 14, 15, 41, 48]), (11, [6, 7, 14, 41, 42, 43, 44, 45, 46, 47]), (10, [40]), (9, [3, 4, 9, 20, 33, 34, 35, 36, 37, 38, 39]), (8, [5, 13, 29, 31, 32]), (7, [5, 29, 30]), (6, [28]), (5, [4, 12, 27]), (4, [3, 6, 7, 9, 20, 21, 22, 23, 24, 25, 26]), (3, [17, 18, 19]), (2, [3, 4, 5, 6, 7, 9, 17]), (1, [16]), (0, [0, 1, 2, 8, 11])]
theorem comp50 : compFn Tryd.prog loc50 (fun i => (fg50.lookup i).getD []) Tryd.f50 = some lit50 := by kernel_rfl

-- parcener/cake.less
def lit51 : AFn := ⟨2, [.tmp 4],
 (.seq
 (.ops [⟨some 2, (.boxL (.t 0)), none⟩,
 ⟨some 3, (.boxL (.t 1)), none⟩,
 ⟨some 4, (.mv (.c (.bool false))), none⟩]
 [] [0, 1, 4])
 (.seq
 (.ops [⟨some 8, (.load true 2 (.t 2)), none⟩,
 ⟨some 9, (.load true 2 (.t 3)), none⟩,
 ⟨some 10, (.call (.f 22) [(.t 8), (.t 9)]), none⟩,
 ⟨some 7, (.mv (.t 10)), none⟩,
 ⟨some 11, (.ext (.t 7) 0), none⟩,
 ⟨some 12, (.ext (.t 7) 1), none⟩,
 ⟨some 5, (.mv (.t 11)), none⟩,
 ⟨some 6, (.mv (.t 12)), none⟩]
 [] [2, 3, 6, 7, 8, 9, 10, 11, 12])
 (.seq
 (.ops [⟨some 13, (.mv (.t 5)), none⟩,
 ⟨some 14, (.bin .lss (.t 13) (.c (.int .i64 (0)))), none⟩,
 ⟨some 4, (.mv (.t 14)), none⟩]
 [] [5, 13, 14])
 .ret)))⟩
def loc51 : List Nat := [2, 3]
def fg51 : List (Nat × List Nat) := [(2, [5, 13, 14]), (1, [2, 3, 6, 7, 8, 9, 10, 11, 12]), (0, [0, 1, 4])]
theorem comp51 : compFn Tryd.prog loc51 (fun i => (fg51.lookup i).getD []) Tryd.f51 = some lit51 := by kernel_rfl

-- parcener/ratio.Sub
def lit52 : AFn := ⟨2, [.cell 4 true 2, .tmp 5],
 (.seq
 (.ops [⟨some 2, (.boxL (.t 0)), none⟩,
 ⟨some 3, (.boxL (.t 1)), none⟩,
 ⟨some 4, (.allocL (.agg [(.int .i64 (0)), (.int .i64 (0))])), none⟩,
 ⟨some 5, (.mv (.c (.int .i64 (0)))), none⟩]
 [] [0, 1, 5])
 (.seq
 (.seq
 (.ops [⟨some 7, (.load true 2 (.t 2)), none⟩,
 ⟨some 8, (.load true 2 (.t 3)), none⟩,
 ⟨some 9, (.call (.f 31) [(.t 7), (.t 8)]), none⟩,
 ⟨some 6, (.mv (.t 9)), none⟩]
 [] [7, 8, 9])
 (.seq
 (.ops [⟨some 10, (.mv (.t 6)), none⟩,
 ⟨some 11, (.bin .neq (.t 10) (.c (.int .i64 (0)))), none⟩]
 [] [10])
 (.cond (.t 11)
 (.seq
 (.ops [⟨some 12, (.build [(.int .i64 (0)), (.int .i64 (0))] []), none⟩,
 ⟨some 13, (.mv (.t 6)), none⟩,
 ⟨none, (.store 2 (.t 4) (.t 12)), none⟩,
 ⟨some 5, (.mv (.t 13)), none⟩]
 [] [2, 3, 6, 11, 12, 13])
 .ret)
 .skip)))
 (.seq
 (.ops [⟨some 14, (.fad 0 (.t 3)), none⟩,
 ⟨some 15, (.load false 1 (.t 14)), none⟩,
 ⟨some 16, (.un .neg (.t 15)), none⟩,
 ⟨some 17, (.fad 0 (.t 3)), none⟩,
 ⟨none, (.store 1 (.t 17) (.t 16)), none⟩]
 [] [6, 11, 14, 15, 16, 17])
 (.seq
 (.ops [⟨some 18, (.load true 2 (.t 2)), none⟩,
 ⟨some 19, (.load true 2 (.t 3)), none⟩,
 ⟨some 20, (.call (.f 55) [(.t 18), (.t 19)]), none⟩,
 ⟨some 21, (.ext (.t 20) 0), none⟩,
 ⟨some 22, (.ext (.t 20) 1), none⟩,
 ⟨none, (.store 2 (.t 4) (.t 21)), none⟩,
 ⟨some 5, (.mv (.t 22)), none⟩]
 [] [2, 3, 18, 19, 20, 21, 22])
 .ret))))⟩
def loc52 : List Nat := [2, 3, 4]
def fg52 : List (Nat × List Nat) := [(5, [2, 3, 18, 19, 20, 21, 22]), (4, [6, 11, 14, 15, 16, 17]), (3, [2, 3, 6, 11, 12, 13]), (2, [10]), (1, [7, 8, 9]), (0, [0, 1, 5])]
theorem comp52 : compFn Tryd.prog loc52 (fun i => (fg52.lookup i).getD []) Tryd.f52 = some lit52 := by kernel_rfl

-- parcener/ratio.Div
def lit53 : AFn := ⟨2, [.cell 4 true 2, .tmp 5],
 (.seq
 (.ops [⟨some 2, (.boxL (.t 0)), none⟩,
 ⟨some 3, (.boxL (.t 1)), none⟩,
 ⟨some 4, (.allocL (.agg [(.int .i64 (0)), (.int .i64 (0))])), none⟩,
 ⟨some 5, (.mv (.c (.int .i64 (0)))), none⟩]
 [] [0, 1, 5])
 (.seq
 (.seq
 (.ops [⟨some 7, (.load true 2 (.t 2)), none⟩,
 ⟨some 8, (.load true 2 (.t 3)), none⟩,
 ⟨some 9, (.call (.f 31) [(.t 7), (.t 8)]), none⟩,
 ⟨some 6, (.mv (.t 9)), none⟩]
 [] [7, 8, 9])
 (.seq
 (.ops [⟨some 10, (.mv (.t 6)), none⟩,
 ⟨some 11, (.bin .neq (.t 10) (.c (.int .i64 (0)))), none⟩]
 [] [10])
 (.cond (.t 11)
 (.seq
 (.ops [⟨some 12, (.build [(.int .i64 (0)), (.int .i64 (0))] []), none⟩,
 ⟨some 13, (.mv (.t 6)), none⟩,
 ⟨none, (.store 2 (.t 4) (.t 12)), none⟩,
 ⟨some 5, (.mv (.t 13)), none⟩]
 [] [2, 3, 6, 11, 12, 13])
 .ret)
 .skip)))
 (.seq
 (.block 0
 (.seq
 (.ops [⟨some 15, (.fad 0 (.t 3)), none⟩,
 ⟨some 16, (.load false 1 (.t 15)), none⟩,
 ⟨some 17, (.bin .eql (.t 16) (.c (.int .i64 (0)))), none⟩,
 ⟨some 14, (.mv (.t 17)), none⟩]
 [] [6, 11, 15, 16, 17])
 (.cond (.t 14)
 (.seq
 (.ops [⟨some 18, (.build [(.int .i64 (0)), (.int .i64 (0))] []), none⟩,
 ⟨none, (.store 2 (.t 4) (.t 18)), none⟩,
 ⟨some 5, (.mv (.c (.int .i64 (18)))), none⟩]
 [] [2, 3, 14, 18])
 .ret)
 (.seq
 (.ops [⟨some 20, (.fad 0 (.t 3)), none⟩,
 ⟨some 21, (.load false 1 (.t 20)), none⟩,
 ⟨some 22, (.bin .lss (.t 21) (.c (.int .i64 (0)))), none⟩,
 ⟨some 19, (.mv (.t 22)), none⟩]
 [] [14, 20, 21, 22])
 (.cond (.t 19)
 (.seq
 (.ops [⟨some 23, (.load true 2 (.t 2)), none⟩,
 ⟨some 24, (.fad 1 (.t 3)), none⟩,
 ⟨some 25, (.load false 1 (.t 24)), none⟩,
 ⟨some 26, (.un .neg (.t 25)), none⟩,
 ⟨some 27, (.fad 0 (.t 3)), none⟩,
 ⟨some 28, (.load false 1 (.t 27)), none⟩,
 ⟨some 29, (.un .neg (.t 28)), none⟩,
 ⟨some 30, (.build [(.int .i64 (0)), (.int .i64 (0))] [(0, 1, (.t 26)), (1, 1, (.t 29))]), none⟩,
 ⟨some 31, (.call (.f 56) [(.t 23), (.t 30)]), none⟩,
 ⟨some 32, (.ext (.t 31) 0), none⟩,
 ⟨some 33, (.ext (.t 31) 1), none⟩,
 ⟨none, (.store 2 (.t 4) (.t 32)), none⟩,
 ⟨some 5, (.mv (.t 33)), none⟩]
 [] [2, 3, 19, 23, 24, 25, 26, 27, 28, 29, 30, 31, 32, 33])
 .ret)
 .skip)))))
 (.seq
 (.ops [⟨some 34, (.load true 2 (.t 2)), none⟩,
 ⟨some 35, (.fad 1 (.t 3)), none⟩,
 ⟨some 36, (.load false 1 (.t 35)), none⟩,
 ⟨some 37, (.fad 0 (.t 3)), none⟩,
 ⟨some 38, (.load false 1 (.t 37)), none⟩,
 ⟨some 39, (.build [(.int .i64 (0)), (.int .i64 (0))] [(0, 1, (.t 36)), (1, 1, (.t 38))]), none⟩,
 ⟨some 40, (.call (.f 56) [(.t 34), (.t 39)]), none⟩,
 ⟨some 41, (.ext (.t 40) 0), none⟩,
 ⟨some 42, (.ext (.t 40) 1), none⟩,
 ⟨none, (.store 2 (.t 4) (.t 41)), none⟩,
 ⟨some 5, (.mv (.t 42)), none⟩]
 [] [2, 3, 19, 34, 35, 36, 37, 38, 39, 40, 41, 42])
 .ret))))⟩
def loc53 : List Nat := [2, 3, 4]
def fg53 : List (Nat × List Nat) := [(8, [2, 3, 19, 34, 35, 36, 37, 38, 39, 40, 41, 42]), (7, [2, 3, 19, 23, 24, 25, 26, 27, 28, 29, 30, 31, 32, 33]), (6, [14, 20, 21, 22]), (5, [2, 3, 14, 18]), (4, [6, 11, 15, 16, 17]), (3, [2, 3, 6, 11, 12, 13]), (2, [10]), (1, [7, 8, 9]), (0, [0, 1, 5])]
theorem comp53 : compFn Tryd.prog loc53 (fun i => (fg53.lookup i).getD []) Tryd.f53 = some lit53 := by kernel_rfl

-- parcener/cake.whole
def lit54 : AFn := ⟨1, [.cell 2 true 2],
 (.seq
 (.ops [⟨some 2, (.allocL (.agg [(.int .i64 (0)), (.int .i64 (0))])), none⟩]
 [] [])
 (.seq
 (.ops [⟨some 3, (.mv (.t 0)), none⟩,
 ⟨some 4, (.build [(.int .i64 (0)), (.int .i64 (0))] [(0, 1, (.t 3)), (1, 1, (.c (.int .i64 (1))))]), none⟩,
 ⟨none, (.store 2 (.t 2) (.t 4)), none⟩]
 [] [0, 3, 4])
 .ret))⟩
def loc54 : List Nat := [2]
def fg54 : List (Nat × List Nat) := [(1, [0, 3, 4])]
theorem comp54 : compFn Tryd.prog loc54 (fun i => (fg54.lookup i).getD []) Tryd.f54 = some lit54 := by kernel_rfl

def tab0 : List (Nat × AFn) := [(3, lit3), (4, lit4), (5, lit5), (6, lit6), (7, lit7), (8, lit8), (9, lit9), (10, lit10), (11, lit11), (12, lit12), (13, lit13), (14, lit14), (15, lit15), (16, lit16), (17, lit17), (18, lit18), (19, lit19), (20, lit20), (21, lit21), (22, lit22), (23, lit23), (24, lit24), (25, lit25), (26, lit26), (27, lit27), (28, lit28), (29, lit29), (30, lit30), (31, lit31), (33, lit33), (34, lit34), (35, lit35), (36, lit36), (37, lit37), (38, lit38), (39, lit39), (40, lit40), (41, lit41), (42, lit42), (43, lit43), (44, lit44), (45, lit45), (47, lit47), (48, lit48), (49, lit49), (50, lit50), (51, lit51), (52, lit52), (53, lit53), (54, lit54)]
theorem tabOk0 : AllOk Tryd.prog tab0 := ⟨⟨_, _, _, Tryd.func3, comp3⟩, ⟨_, _, _, Tryd.func4, comp4⟩, ⟨_, _, _, Tryd.func5, comp5⟩, ⟨_, _, _, Tryd.func6, comp6⟩, ⟨_, _, _, Tryd.func7, comp7⟩, ⟨_, _, _, Tryd.func8, comp8⟩, ⟨_, _, _, Tryd.func9, comp9⟩, ⟨_, _, _, Tryd.func10, comp10⟩, ⟨_, _, _, Tryd.func11, comp11⟩, ⟨_, _, _, Tryd.func12, comp12⟩, ⟨_, _, _, Tryd.func13, comp13⟩, ⟨_, _, _, Tryd.func14, comp14⟩, ⟨_, _, _, Tryd.func15, comp15⟩, ⟨_, _, _, Tryd.func16, comp16⟩, ⟨_, _, _, Tryd.func17, comp17⟩, ⟨_, _, _, Tryd.func18, comp18⟩, ⟨_, _, _, Tryd.func19, comp19⟩, ⟨_, _, _, Tryd.func20, comp20⟩, ⟨_, _, _, Tryd.func21, comp21⟩, ⟨_, _, _, Tryd.func22, comp22⟩, ⟨_, _, _, Tryd.func23, comp23⟩, ⟨_, _, _, Tryd.func24, comp24⟩, ⟨_, _, _, Tryd.func25, comp25⟩, ⟨_, _, _, Tryd.func26, comp26⟩, ⟨_, _, _, Tryd.func27, comp27⟩, ⟨_, _, _, Tryd.func28, comp28⟩, ⟨_, _, _, Tryd.func29, comp29⟩, ⟨_, _, _, Tryd.func30, comp30⟩, ⟨_, _, _, Tryd.func31, comp31⟩, ⟨_, _, _, Tryd.func33, comp33⟩, ⟨_, _, _, Tryd.func34, comp34⟩, ⟨_, _, _, Tryd.func35, comp35⟩, ⟨_, _, _, Tryd.func36, comp36⟩, ⟨_, _, _, Tryd.func37, comp37⟩, ⟨_, _, _, Tryd.func38, comp38⟩, ⟨_, _, _, Tryd.func39, comp39⟩, ⟨_, _, _, Tryd.func40, comp40⟩, ⟨_, _, _, Tryd.func41, comp41⟩, ⟨_, _, _, Tryd.func42, comp42⟩, ⟨_, _, _, Tryd.func43, comp43⟩, ⟨_, _, _, Tryd.func44, comp44⟩, ⟨_, _, _, Tryd.func45, comp45⟩, ⟨_, _, _, Tryd.func47, comp47⟩, ⟨_, _, _, Tryd.func48, comp48⟩, ⟨_, _, _, Tryd.func49, comp49⟩, ⟨_, _, _, Tryd.func50, comp50⟩, ⟨_, _, _, Tryd.func51, comp51⟩, ⟨_, _, _, Tryd.func52, comp52⟩, ⟨_, _, _, Tryd.func53, comp53⟩, ⟨_, _, _, Tryd.func54, comp54⟩, trivial⟩
end Go.Proofs.YtfkfmlifhdcolaaDoor.Cn
