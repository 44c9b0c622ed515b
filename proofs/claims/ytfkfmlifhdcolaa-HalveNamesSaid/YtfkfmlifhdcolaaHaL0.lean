/- The functions that the statement HalveNames runs, in the small code (part 0); each is what the framework makes of the program. -/
import Derived.Test.YtfkfmlifhdcolaaFw27
import Derived.Test.YtfkfmlifhdcolaaRows
namespace Go.Proofs.Ytfkfmlifhdcolaa.Ha
open Go Go.Pf
-- parcener/parcenerlaw09.HalveNames
def lit10 : AFn := ⟨0, [.tmp 0],
 (.seq
 (.ops [⟨some 0, (.mv (.c (.bool false))), none⟩]
 [] [0])
 (.seq
 (.ops [⟨some 74, (.call (.f 73) []), none⟩,
 ⟨some 75, (.iad 3 (.t 74) (.c (.int .i64 (0)))), none⟩,
 ⟨some 76, (.load true 3 (.t 75)), none⟩,
 ⟨some 1, (.allocL (.agg [(.int .i64 (0)), .nils, .nils])), none⟩,
 ⟨none, (.store 3 (.t 1) (.t 76)), none⟩]
 [] [74, 75, 76])
 (.seq
 (.ops [⟨some 77, (.load true 3 (.t 1)), none⟩,
 ⟨some 78, (.load true 3 (.t 1)), none⟩,
 ⟨some 79, (.load true 3 (.t 1)), none⟩,
 ⟨some 80, (.load true 3 (.t 1)), none⟩,
 ⟨some 81, (.buildSl true 3 (.agg [(.int .i64 (0)), (.data []), (.data [])]) 4 [(0, (.t 77)), (1, (.t 78)), (2, (.t 79)), (3, (.t 80))]), none⟩,
 ⟨some 82, (.build [.nils, .nils] [(0, 1, (.t 81))]), none⟩,
 ⟨some 2, (.allocL (.agg [.nils, .nils])), none⟩,
 ⟨none, (.store 2 (.t 2) (.t 82)), none⟩]
 [] [1, 77, 78, 79, 80, 81, 82])
 (.seq
 (.ops [⟨some 83, (.call (.f 22) [(.c (.int .i64 (0)))]), none⟩,
 ⟨some 84, (.call (.f 22) [(.c (.int .i64 (6)))]), none⟩,
 ⟨some 3, (.allocL (.agg [(.int .i64 (0)), (.int .i64 (0))])), none⟩,
 ⟨some 4, (.allocL (.agg [(.int .i64 (0)), (.int .i64 (0))])), none⟩,
 ⟨none, (.store 2 (.t 3) (.t 83)), none⟩,
 ⟨none, (.store 2 (.t 4) (.t 84)), none⟩]
 [] [83, 84])
 (.seq
 (.ops [⟨some 86, (.load true 2 (.t 2)), none⟩,
 ⟨some 87, (.buildSl true 1 (.int .i64 (0)) 3 [(0, (.c (.int .i64 (0)))), (1, (.c (.int .i64 (1)))), (2, (.c (.int .i64 (3))))]), none⟩,
 ⟨some 88, (.load true 2 (.t 3)), none⟩,
 ⟨some 89, (.load true 2 (.t 4)), none⟩,
 ⟨some 90, (.call (.f 74) [(.t 86), (.t 87), (.t 88), (.t 89)]), none⟩,
 ⟨some 85, (.mv (.t 90)), none⟩,
 ⟨some 91, (.ext (.t 85) 0), none⟩,
 ⟨some 92, (.ext (.t 85) 1), none⟩,
 ⟨some 93, (.ext (.t 85) 2), none⟩,
 ⟨some 94, (.ext (.t 85) 3), none⟩,
 ⟨some 95, (.ext (.t 85) 4), none⟩,
 ⟨some 5, (.allocL (.agg [.nils, .nils])), none⟩,
 ⟨some 6, (.allocL (.agg [(.int .i64 (0)), (.int .i64 (0))])), none⟩,
 ⟨none, (.store 2 (.t 5) (.t 91)), none⟩,
 ⟨none, (.store 2 (.t 6) (.t 92)), none⟩,
 ⟨some 7, (.mv (.t 93)), none⟩,
 ⟨some 8, (.mv (.t 94)), none⟩,
 ⟨some 9, (.mv (.t 95)), none⟩]
 [] [85, 86, 87, 88, 89, 90, 91, 92, 93, 94, 95])
 (.seq
 (.ops [⟨some 97, (.load true 2 (.t 2)), none⟩,
 ⟨some 98, (.buildD 1 (.int .i64 (0)) 4 [(0, (.c (.int .i64 (1)))), (1, (.c (.int .i64 (2)))), (2, (.c (.int .i64 (3)))), (3, (.c (.int .i64 (0))))]), none⟩,
 ⟨some 99, (.slc 1 (.t 98) none (some (.c (.int .i64 (2)))) none), none⟩,
 ⟨some 100, (.load true 2 (.t 3)), none⟩,
 ⟨some 101, (.call (.f 22) [(.c (.int .i64 (4)))]), none⟩,
 ⟨some 102, (.call (.f 74) [(.t 97), (.t 99), (.t 100), (.t 101)]), none⟩,
 ⟨some 96, (.mv (.t 102)), none⟩,
 ⟨some 103, (.ext (.t 96) 0), none⟩,
 ⟨some 104, (.ext (.t 96) 1), none⟩,
 ⟨some 105, (.ext (.t 96) 2), none⟩,
 ⟨some 106, (.ext (.t 96) 3), none⟩,
 ⟨some 107, (.ext (.t 96) 4), none⟩,
 ⟨some 10, (.allocL (.agg [.nils, .nils])), none⟩,
 ⟨some 11, (.allocL (.agg [(.int .i64 (0)), (.int .i64 (0))])), none⟩,
 ⟨none, (.store 2 (.t 10) (.t 103)), none⟩,
 ⟨none, (.store 2 (.t 11) (.t 104)), none⟩,
 ⟨some 12, (.mv (.t 105)), none⟩,
 ⟨some 13, (.mv (.t 106)), none⟩,
 ⟨some 14, (.mv (.t 107)), none⟩]
 [(0, 1), (0, 2), (0, 3), (1, 3), (2, 3), (0, 4), (1, 4), (2, 4), (3, 4), (7, 8), (7, 9), (8, 9), (7, 10), (8, 10), (9, 10), (7, 11), (8, 11), (9, 11), (10, 11), (0, 12), (1, 12), (2, 12), (3, 12), (4, 12), (5, 12), (6, 12), (7, 12), (8, 12), (9, 12), (10, 12), (11, 12), (0, 13), (1, 13), (2, 13), (3, 13), (4, 13), (5, 13), (6, 13), (7, 13), (8, 13), (9, 13), (10, 13), (11, 13), (12, 13), (8, 14), (9, 14), (10, 14), (11, 14), (9, 15), (10, 15), (11, 15), (10, 16), (11, 16), (11, 17)] [12, 13, 96, 97, 98, 99, 100, 101, 102, 103, 104, 105, 106, 107])
 (.seq
 (.ops [⟨some 108, (.mv (.t 9)), none⟩,
 ⟨some 109, (.bin .eql (.t 108) (.c (.int .i64 (0)))), none⟩,
 ⟨some 110, (.mv (.t 109)), none⟩,
 ⟨some 111, (.load true 2 (.t 6)), some (110, true)⟩,
 ⟨some 112, (.call (.f 22) [(.c (.int .i64 (2)))]), some (110, true)⟩,
 ⟨some 113, (.eqA false 2 [(0, (some .i64)), (1, (some .i64))] (.t 111) (.t 112)), some (110, true)⟩,
 ⟨some 114, (.pick (.t 110) (.t 113) (.c (.bool false))), none⟩,
 ⟨some 115, (.mv (.t 114)), none⟩,
 ⟨some 116, (.mv (.t 7)), some (115, true)⟩,
 ⟨some 117, (.buildD 1 (.int .i64 (0)) 1 [(0, (.c (.int .i64 (0))))]), some (115, true)⟩,
 ⟨some 118, (.call (.f 15) [(.t 116), (.t 117)]), some (115, true)⟩,
 ⟨some 119, (.pick (.t 115) (.t 118) (.c (.bool false))), none⟩,
 ⟨some 120, (.mv (.t 119)), none⟩,
 ⟨some 121, (.mv (.t 8)), some (120, true)⟩,
 ⟨some 122, (.buildD 1 (.int .i64 (0)) 2 [(0, (.c (.int .i64 (1)))), (1, (.c (.int .i64 (3))))]), some (120, true)⟩,
 ⟨some 123, (.call (.f 15) [(.t 121), (.t 122)]), some (120, true)⟩,
 ⟨some 124, (.pick (.t 120) (.t 123) (.c (.bool false))), none⟩,
 ⟨some 125, (.mv (.t 124)), none⟩,
 ⟨some 126, (.fad 1 (.t 5)), some (125, true)⟩,
 ⟨some 127, (.load false 1 (.t 126)), some (125, true)⟩,
 ⟨some 128, (.len (.t 127)), some (125, true)⟩,
 ⟨some 129, (.bin .eql (.t 128) (.c (.int .i64 (3)))), some (125, true)⟩,
 ⟨some 130, (.pick (.t 125) (.t 129) (.c (.bool false))), none⟩,
 ⟨some 131, (.mv (.t 130)), none⟩,
 ⟨some 132, (.mv (.t 14)), some (131, true)⟩,
 ⟨some 133, (.bin .eql (.t 132) (.c (.int .i64 (0)))), some (131, true)⟩,
 ⟨some 134, (.pick (.t 131) (.t 133) (.c (.bool false))), none⟩,
 ⟨some 135, (.mv (.t 134)), none⟩,
 ⟨some 136, (.load true 2 (.t 11)), some (135, true)⟩,
 ⟨some 137, (.call (.f 22) [(.c (.int .i64 (2)))]), some (135, true)⟩,
 ⟨some 138, (.eqA false 2 [(0, (some .i64)), (1, (some .i64))] (.t 136) (.t 137)), some (135, true)⟩,
 ⟨some 139, (.pick (.t 135) (.t 138) (.c (.bool false))), none⟩,
 ⟨some 140, (.mv (.t 139)), none⟩,
 ⟨some 141, (.fad 1 (.t 10)), some (140, true)⟩,
 ⟨some 142, (.load false 1 (.t 141)), some (140, true)⟩,
 ⟨some 143, (.len (.t 142)), some (140, true)⟩,
 ⟨some 144, (.bin .eql (.t 143) (.c (.int .i64 (4)))), some (140, true)⟩,
 ⟨some 145, (.pick (.t 140) (.t 144) (.c (.bool false))), none⟩,
 ⟨some 15, (.mv (.t 145)), none⟩]
 [(3, 4), (8, 9), (13, 14), (28, 29)] [5, 6, 7, 8, 9, 10, 11, 14, 108, 109, 110, 111, 112, 113, 114, 115, 116, 117, 118, 119, 120, 121, 122, 123, 124, 125, 126, 127, 128, 129, 130, 131, 132, 133, 134, 135, 136, 137, 138, 139, 140, 141, 142, 143, 144, 145])
 (.seq
 (.ops [⟨some 147, (.load true 2 (.t 2)), none⟩,
 ⟨some 148, (.buildSl true 1 (.int .i64 (0)) 1 [(0, (.c (.int .i64 (0))))]), none⟩,
 ⟨some 149, (.load true 2 (.t 3)), none⟩,
 ⟨some 150, (.load true 2 (.t 4)), none⟩,
 ⟨some 151, (.call (.f 74) [(.t 147), (.t 148), (.t 149), (.t 150)]), none⟩,
 ⟨some 146, (.mv (.t 151)), none⟩,
 ⟨some 152, (.ext (.t 146) 0), none⟩,
 ⟨some 153, (.ext (.t 146) 1), none⟩,
 ⟨some 154, (.ext (.t 146) 2), none⟩,
 ⟨some 155, (.ext (.t 146) 3), none⟩,
 ⟨some 156, (.ext (.t 146) 4), none⟩,
 ⟨some 16, (.allocL (.agg [.nils, .nils])), none⟩,
 ⟨some 17, (.allocL (.agg [(.int .i64 (0)), (.int .i64 (0))])), none⟩,
 ⟨none, (.store 2 (.t 16) (.t 152)), none⟩,
 ⟨none, (.store 2 (.t 17) (.t 153)), none⟩,
 ⟨some 18, (.mv (.t 154)), none⟩,
 ⟨some 19, (.mv (.t 155)), none⟩,
 ⟨some 20, (.mv (.t 156)), none⟩]
 [] [16, 17, 18, 19, 146, 147, 148, 149, 150, 151, 152, 153, 154, 155, 156])
 (.seq
 (.ops [⟨some 158, (.load true 2 (.t 2)), none⟩,
 ⟨some 159, (.buildSl true 1 (.int .i64 (0)) 2 [(0, (.c (.int .i64 (1)))), (1, (.c (.int .i64 (0))))]), none⟩,
 ⟨some 160, (.load true 2 (.t 3)), none⟩,
 ⟨some 161, (.load true 2 (.t 4)), none⟩,
 ⟨some 162, (.call (.f 74) [(.t 158), (.t 159), (.t 160), (.t 161)]), none⟩,
 ⟨some 157, (.mv (.t 162)), none⟩,
 ⟨some 163, (.ext (.t 157) 0), none⟩,
 ⟨some 164, (.ext (.t 157) 1), none⟩,
 ⟨some 165, (.ext (.t 157) 2), none⟩,
 ⟨some 166, (.ext (.t 157) 3), none⟩,
 ⟨some 167, (.ext (.t 157) 4), none⟩,
 ⟨some 21, (.allocL (.agg [.nils, .nils])), none⟩,
 ⟨some 22, (.allocL (.agg [(.int .i64 (0)), (.int .i64 (0))])), none⟩,
 ⟨none, (.store 2 (.t 21) (.t 163)), none⟩,
 ⟨none, (.store 2 (.t 22) (.t 164)), none⟩,
 ⟨some 23, (.mv (.t 165)), none⟩,
 ⟨some 24, (.mv (.t 166)), none⟩,
 ⟨some 25, (.mv (.t 167)), none⟩]
 [] [21, 22, 23, 24, 157, 158, 159, 160, 161, 162, 163, 164, 165, 166, 167])
 (.seq
 (.ops [⟨some 169, (.load true 2 (.t 2)), none⟩,
 ⟨some 170, (.buildSl true 1 (.int .i64 (0)) 2 [(0, (.c (.int .i64 (0)))), (1, (.c (.int .i64 (4))))]), none⟩,
 ⟨some 171, (.load true 2 (.t 3)), none⟩,
 ⟨some 172, (.load true 2 (.t 4)), none⟩,
 ⟨some 173, (.call (.f 74) [(.t 169), (.t 170), (.t 171), (.t 172)]), none⟩,
 ⟨some 168, (.mv (.t 173)), none⟩,
 ⟨some 174, (.ext (.t 168) 0), none⟩,
 ⟨some 175, (.ext (.t 168) 1), none⟩,
 ⟨some 176, (.ext (.t 168) 2), none⟩,
 ⟨some 177, (.ext (.t 168) 3), none⟩,
 ⟨some 178, (.ext (.t 168) 4), none⟩,
 ⟨some 26, (.allocL (.agg [.nils, .nils])), none⟩,
 ⟨some 27, (.allocL (.agg [(.int .i64 (0)), (.int .i64 (0))])), none⟩,
 ⟨none, (.store 2 (.t 26) (.t 174)), none⟩,
 ⟨none, (.store 2 (.t 27) (.t 175)), none⟩,
 ⟨some 28, (.mv (.t 176)), none⟩,
 ⟨some 29, (.mv (.t 177)), none⟩,
 ⟨some 30, (.mv (.t 178)), none⟩]
 [] [26, 27, 28, 29, 168, 169, 170, 171, 172, 173, 174, 175, 176, 177, 178])
 (.seq
 (.ops [⟨some 180, (.load true 2 (.t 2)), none⟩,
 ⟨some 181, (.buildSl true 1 (.int .i64 (0)) 2 [(0, (.c (.int .i64 (0)))), (1, (.c (.int .i64 (1))))]), none⟩,
 ⟨some 182, (.load true 2 (.t 4)), none⟩,
 ⟨some 183, (.load true 2 (.t 4)), none⟩,
 ⟨some 184, (.call (.f 74) [(.t 180), (.t 181), (.t 182), (.t 183)]), none⟩,
 ⟨some 179, (.mv (.t 184)), none⟩,
 ⟨some 185, (.ext (.t 179) 0), none⟩,
 ⟨some 186, (.ext (.t 179) 1), none⟩,
 ⟨some 187, (.ext (.t 179) 2), none⟩,
 ⟨some 188, (.ext (.t 179) 3), none⟩,
 ⟨some 189, (.ext (.t 179) 4), none⟩,
 ⟨some 31, (.allocL (.agg [.nils, .nils])), none⟩,
 ⟨some 32, (.allocL (.agg [(.int .i64 (0)), (.int .i64 (0))])), none⟩,
 ⟨none, (.store 2 (.t 31) (.t 185)), none⟩,
 ⟨none, (.store 2 (.t 32) (.t 186)), none⟩,
 ⟨some 33, (.mv (.t 187)), none⟩,
 ⟨some 34, (.mv (.t 188)), none⟩,
 ⟨some 35, (.mv (.t 189)), none⟩]
 [] [31, 32, 33, 34, 179, 180, 181, 182, 183, 184, 185, 186, 187, 188, 189])
 (.seq
 (.ops [⟨some 191, (.load true 2 (.t 2)), none⟩,
 ⟨some 192, (.buildD 1 (.int .i64 (0)) 2 [(0, (.c (.int .i64 (0)))), (1, (.c (.int .i64 (1))))]), none⟩,
 ⟨some 193, (.load true 2 (.t 3)), none⟩,
 ⟨some 194, (.call (.f 22) [(.c (.int .i64 (7)))]), none⟩,
 ⟨some 195, (.call (.f 74) [(.t 191), (.t 192), (.t 193), (.t 194)]), none⟩,
 ⟨some 190, (.mv (.t 195)), none⟩,
 ⟨some 196, (.ext (.t 190) 0), none⟩,
 ⟨some 197, (.ext (.t 190) 1), none⟩,
 ⟨some 198, (.ext (.t 190) 2), none⟩,
 ⟨some 199, (.ext (.t 190) 3), none⟩,
 ⟨some 200, (.ext (.t 190) 4), none⟩,
 ⟨some 36, (.allocL (.agg [.nils, .nils])), none⟩,
 ⟨some 37, (.allocL (.agg [(.int .i64 (0)), (.int .i64 (0))])), none⟩,
 ⟨none, (.store 2 (.t 36) (.t 196)), none⟩,
 ⟨none, (.store 2 (.t 37) (.t 197)), none⟩,
 ⟨some 38, (.mv (.t 198)), none⟩,
 ⟨some 39, (.mv (.t 199)), none⟩,
 ⟨some 40, (.mv (.t 200)), none⟩]
 [(0, 1), (0, 2), (1, 2), (0, 3), (1, 3), (2, 3), (6, 7), (6, 8), (7, 8), (6, 9), (7, 9), (8, 9), (6, 10), (7, 10), (8, 10), (9, 10), (0, 11), (1, 11), (2, 11), (3, 11), (4, 11), (5, 11), (6, 11), (7, 11), (8, 11), (9, 11), (10, 11), (0, 12), (1, 12), (2, 12), (3, 12), (4, 12), (5, 12), (6, 12), (7, 12), (8, 12), (9, 12), (10, 12), (11, 12), (7, 13), (8, 13), (9, 13), (10, 13), (8, 14), (9, 14), (10, 14), (9, 15), (10, 15), (10, 16)] [36, 37, 38, 39, 190, 191, 192, 193, 194, 195, 196, 197, 198, 199, 200])
 (.seq
 (.ops [⟨some 202, (.load true 2 (.t 2)), none⟩,
 ⟨some 203, (.buildD 1 (.int .i64 (0)) 2 [(0, (.c (.int .i64 (0)))), (1, (.c (.int .i64 (1))))]), none⟩,
 ⟨some 204, (.call (.f 22) [(.c (.int .i64 (-1)))]), none⟩,
 ⟨some 205, (.load true 2 (.t 4)), none⟩,
 ⟨some 206, (.call (.f 74) [(.t 202), (.t 203), (.t 204), (.t 205)]), none⟩,
 ⟨some 201, (.mv (.t 206)), none⟩,
 ⟨some 207, (.ext (.t 201) 0), none⟩,
 ⟨some 208, (.ext (.t 201) 1), none⟩,
 ⟨some 209, (.ext (.t 201) 2), none⟩,
 ⟨some 210, (.ext (.t 201) 3), none⟩,
 ⟨some 211, (.ext (.t 201) 4), none⟩,
 ⟨some 41, (.allocL (.agg [.nils, .nils])), none⟩,
 ⟨some 42, (.allocL (.agg [(.int .i64 (0)), (.int .i64 (0))])), none⟩,
 ⟨none, (.store 2 (.t 41) (.t 207)), none⟩,
 ⟨none, (.store 2 (.t 42) (.t 208)), none⟩,
 ⟨some 43, (.mv (.t 209)), none⟩,
 ⟨some 44, (.mv (.t 210)), none⟩,
 ⟨some 45, (.mv (.t 211)), none⟩]
 [(0, 1), (0, 2), (1, 2), (0, 3), (1, 3), (2, 3), (6, 7), (6, 8), (7, 8), (6, 9), (7, 9), (8, 9), (6, 10), (7, 10), (8, 10), (9, 10), (0, 11), (1, 11), (2, 11), (3, 11), (4, 11), (5, 11), (6, 11), (7, 11), (8, 11), (9, 11), (10, 11), (0, 12), (1, 12), (2, 12), (3, 12), (4, 12), (5, 12), (6, 12), (7, 12), (8, 12), (9, 12), (10, 12), (11, 12), (7, 13), (8, 13), (9, 13), (10, 13), (8, 14), (9, 14), (10, 14), (9, 15), (10, 15), (10, 16)] [41, 42, 43, 44, 201, 202, 203, 204, 205, 206, 207, 208, 209, 210, 211])
 (.seq
 (.ops [⟨some 213, (.load true 2 (.t 2)), none⟩,
 ⟨some 214, (.buildSl true 1 (.int .i64 (0)) 2 [(0, (.c (.int .i64 (0)))), (1, (.c (.int .i64 (1))))]), none⟩,
 ⟨some 215, (.load true 2 (.t 3)), none⟩,
 ⟨some 216, (.build [(.int .i64 (0)), (.int .i64 (0))] [(0, 1, (.c (.int .i64 (4)))), (1, 1, (.c (.int .i64 (2))))]), none⟩,
 ⟨some 217, (.call (.f 74) [(.t 213), (.t 214), (.t 215), (.t 216)]), none⟩,
 ⟨some 212, (.mv (.t 217)), none⟩,
 ⟨some 218, (.ext (.t 212) 0), none⟩,
 ⟨some 219, (.ext (.t 212) 1), none⟩,
 ⟨some 220, (.ext (.t 212) 2), none⟩,
 ⟨some 221, (.ext (.t 212) 3), none⟩,
 ⟨some 222, (.ext (.t 212) 4), none⟩,
 ⟨some 46, (.allocL (.agg [.nils, .nils])), none⟩,
 ⟨some 47, (.allocL (.agg [(.int .i64 (0)), (.int .i64 (0))])), none⟩,
 ⟨none, (.store 2 (.t 46) (.t 218)), none⟩,
 ⟨none, (.store 2 (.t 47) (.t 219)), none⟩,
 ⟨some 48, (.mv (.t 220)), none⟩,
 ⟨some 49, (.mv (.t 221)), none⟩,
 ⟨some 50, (.mv (.t 222)), none⟩]
 [] [2, 46, 47, 48, 49, 212, 213, 214, 215, 216, 217, 218, 219, 220, 221, 222])
 (.seq
 (.ops [⟨some 224, (.build [.nils, .nils] []), none⟩,
 ⟨some 225, (.load true 2 (.t 3)), none⟩,
 ⟨some 226, (.load true 2 (.t 3)), none⟩,
 ⟨some 227, (.call (.f 74) [(.t 224), (.c .nils), (.t 225), (.t 226)]), none⟩,
 ⟨some 223, (.mv (.t 227)), none⟩,
 ⟨some 228, (.ext (.t 223) 0), none⟩,
 ⟨some 229, (.ext (.t 223) 1), none⟩,
 ⟨some 230, (.ext (.t 223) 2), none⟩,
 ⟨some 231, (.ext (.t 223) 3), none⟩,
 ⟨some 232, (.ext (.t 223) 4), none⟩,
 ⟨some 51, (.allocL (.agg [.nils, .nils])), none⟩,
 ⟨some 52, (.allocL (.agg [(.int .i64 (0)), (.int .i64 (0))])), none⟩,
 ⟨none, (.store 2 (.t 51) (.t 228)), none⟩,
 ⟨none, (.store 2 (.t 52) (.t 229)), none⟩,
 ⟨some 53, (.mv (.t 230)), none⟩,
 ⟨some 54, (.mv (.t 231)), none⟩,
 ⟨some 55, (.mv (.t 232)), none⟩]
 [] [51, 52, 53, 54, 223, 224, 225, 226, 227, 228, 229, 230, 231, 232])
 (.seq
 (.ops [⟨some 233, (.mv (.t 20)), none⟩,
 ⟨some 234, (.bin .eql (.t 233) (.c (.int .i64 (2)))), none⟩,
 ⟨some 235, (.mv (.t 234)), none⟩,
 ⟨some 236, (.mv (.t 25)), some (235, true)⟩,
 ⟨some 237, (.bin .eql (.t 236) (.c (.int .i64 (2)))), some (235, true)⟩,
 ⟨some 238, (.pick (.t 235) (.t 237) (.c (.bool false))), none⟩,
 ⟨some 239, (.mv (.t 238)), none⟩,
 ⟨some 240, (.mv (.t 30)), some (239, true)⟩,
 ⟨some 241, (.bin .eql (.t 240) (.c (.int .i64 (2)))), some (239, true)⟩,
 ⟨some 242, (.pick (.t 239) (.t 241) (.c (.bool false))), none⟩,
 ⟨some 243, (.mv (.t 242)), none⟩,
 ⟨some 244, (.mv (.t 35)), some (243, true)⟩,
 ⟨some 245, (.bin .eql (.t 244) (.c (.int .i64 (2)))), some (243, true)⟩,
 ⟨some 246, (.pick (.t 243) (.t 245) (.c (.bool false))), none⟩,
 ⟨some 247, (.mv (.t 246)), none⟩,
 ⟨some 248, (.mv (.t 40)), some (247, true)⟩,
 ⟨some 249, (.bin .eql (.t 248) (.c (.int .i64 (2)))), some (247, true)⟩,
 ⟨some 250, (.pick (.t 247) (.t 249) (.c (.bool false))), none⟩,
 ⟨some 251, (.mv (.t 250)), none⟩,
 ⟨some 252, (.mv (.t 45)), some (251, true)⟩,
 ⟨some 253, (.bin .eql (.t 252) (.c (.int .i64 (2)))), some (251, true)⟩,
 ⟨some 254, (.pick (.t 251) (.t 253) (.c (.bool false))), none⟩,
 ⟨some 255, (.mv (.t 254)), none⟩,
 ⟨some 256, (.mv (.t 50)), some (255, true)⟩,
 ⟨some 257, (.bin .eql (.t 256) (.c (.int .i64 (2)))), some (255, true)⟩,
 ⟨some 258, (.pick (.t 255) (.t 257) (.c (.bool false))), none⟩,
 ⟨some 259, (.mv (.t 258)), none⟩,
 ⟨some 260, (.mv (.t 55)), some (259, true)⟩,
 ⟨some 261, (.bin .eql (.t 260) (.c (.int .i64 (8)))), some (259, true)⟩,
 ⟨some 262, (.pick (.t 259) (.t 261) (.c (.bool false))), none⟩,
 ⟨some 56, (.mv (.t 262)), none⟩]
 [] [20, 25, 30, 35, 40, 45, 50, 55, 233, 234, 235, 236, 237, 238, 239, 240, 241, 242, 243, 244, 245, 246, 247, 248, 249, 250, 251, 252, 253, 254, 255, 256, 257, 258, 259, 260, 261, 262])
 (.seq
 (.ops [⟨some 263, (.buildSl true 1 (.int .i64 (0)) 6 [(0, (.c (.int .i64 (0)))), (1, (.c (.int .i64 (2)))), (2, (.c (.int .i64 (9)))), (3, (.c (.int .i64 (12)))), (4, (.c (.int .i64 (25)))), (5, (.c (.int .i64 (30))))]), none⟩,
 ⟨some 57, (.mv (.t 263)), none⟩]
 [] [263])
 (.seq
 (.seq
 (.ops [⟨some 58, (.mv (.c (.int .i64 (1)))), none⟩]
 [] [])
 (.block 0
 (.loop
 (.seq
 (.seq
 (.ops [⟨some 264, (.mv (.t 58)), none⟩,
 ⟨some 265, (.bin .leq (.t 264) (.c (.int .i64 (6)))), none⟩]
 [] [])
 (.cond (.t 265)
 .skip
 (.exit 0)))
 (.seq
 (.block 1
 (.seq
 (.ops [⟨some 269, (.mv (.t 58)), none⟩,
 ⟨some 270, (.call (.f 75) [(.t 269)]), none⟩,
 ⟨some 268, (.mv (.t 270)), none⟩,
 ⟨some 271, (.ext (.t 268) 0), none⟩,
 ⟨some 272, (.ext (.t 268) 1), none⟩,
 ⟨some 59, (.mv (.t 271)), none⟩,
 ⟨some 60, (.mv (.t 272)), none⟩]
 [] [265])
 (.seq
 (.ops [⟨some 273, (.mv (.t 60)), none⟩,
 ⟨some 274, (.bin .neq (.t 273) (.c (.int .i64 (0)))), none⟩,
 ⟨some 275, (.mv (.t 274)), none⟩,
 ⟨some 276, (.mv (.t 59)), some (275, false)⟩,
 ⟨some 277, (.mv (.t 57)), some (275, false)⟩,
 ⟨some 278, (.mv (.t 58)), some (275, false)⟩,
 ⟨some 279, (.bin .sub (.t 278) (.c (.int .i64 (1)))), some (275, false)⟩,
 ⟨some 280, (.iad 1 (.t 277) (.t 279)), some (275, false)⟩,
 ⟨some 281, (.load false 1 (.t 280)), some (275, false)⟩,
 ⟨some 282, (.bin .neq (.t 276) (.t 281)), some (275, false)⟩,
 ⟨some 283, (.pick (.t 275) (.c (.bool true)) (.t 282)), none⟩]
 [] [59, 60])
 (.cond (.t 283)
 (.seq
 (.ops [⟨some 0, (.mv (.c (.bool false))), none⟩]
 [] [3, 4, 15, 56, 57, 58, 264, 266, 267, 268, 269, 270, 271, 272, 273, 274, 275, 276, 277, 278, 279, 280, 281, 282, 283])
 .ret)
 .skip))))
 (.ops [⟨some 266, (.mv (.t 58)), none⟩,
 ⟨some 267, (.bin .add (.t 266) (.c (.int .i64 (1)))), none⟩,
 ⟨some 58, (.mv (.t 267)), none⟩]
 [] [283]))))))
 (.seq
 (.ops [⟨some 285, (.call (.f 75) [(.c (.int .i64 (0)))]), none⟩,
 ⟨some 284, (.mv (.t 285)), none⟩,
 ⟨some 286, (.ext (.t 284) 0), none⟩,
 ⟨some 287, (.ext (.t 284) 1), none⟩,
 ⟨some 61, (.mv (.t 286)), none⟩,
 ⟨some 62, (.mv (.t 287)), none⟩]
 [] [57, 58, 61, 264, 265, 266, 267, 268, 269, 270, 271, 272, 273, 274, 275, 276, 277, 278, 279, 280, 281, 282, 284, 285, 286, 287])
 (.seq
 (.ops [⟨some 289, (.call (.f 75) [(.c (.int .i64 (7)))]), none⟩,
 ⟨some 288, (.mv (.t 289)), none⟩,
 ⟨some 290, (.ext (.t 288) 0), none⟩,
 ⟨some 291, (.ext (.t 288) 1), none⟩,
 ⟨some 63, (.mv (.t 290)), none⟩,
 ⟨some 64, (.mv (.t 291)), none⟩]
 [] [63, 288, 289, 290, 291])
 (.seq
 (.ops [⟨some 293, (.call (.f 73) []), none⟩,
 ⟨some 294, (.slc 3 (.t 293) none (some (.c (.int .i64 (1)))) none), none⟩,
 ⟨some 295, (.call (.f 76) [(.t 294)]), none⟩,
 ⟨some 292, (.mv (.t 295)), none⟩,
 ⟨some 296, (.ext (.t 292) 0), none⟩,
 ⟨some 297, (.ext (.t 292) 1), none⟩,
 ⟨some 298, (.ext (.t 292) 2), none⟩,
 ⟨some 65, (.allocL (.agg [.nils])), none⟩,
 ⟨none, (.store 1 (.t 65) (.t 296)), none⟩,
 ⟨some 66, (.mv (.t 297)), none⟩,
 ⟨some 67, (.mv (.t 298)), none⟩]
 [] [292, 293, 294, 295, 296, 297, 298])
 (.seq
 (.ops [⟨some 300, (.call (.f 76) [(.c .nils)]), none⟩,
 ⟨some 299, (.mv (.t 300)), none⟩,
 ⟨some 301, (.ext (.t 299) 0), none⟩,
 ⟨some 302, (.ext (.t 299) 1), none⟩,
 ⟨some 303, (.ext (.t 299) 2), none⟩,
 ⟨some 68, (.allocL (.agg [.nils])), none⟩,
 ⟨none, (.store 1 (.t 68) (.t 301)), none⟩,
 ⟨some 69, (.mv (.t 302)), none⟩,
 ⟨some 70, (.mv (.t 303)), none⟩]
 [] [68, 69, 299, 300, 301, 302, 303])
 (.seq
 (.ops [⟨some 305, (.mkSl true 3 56 (.agg [(.int .i64 (0)), (.data []), (.data [])]) (.c (.int .i64 (7))) (.c (.int .i64 (7)))), none⟩,
 ⟨some 306, (.call (.f 76) [(.t 305)]), none⟩,
 ⟨some 304, (.mv (.t 306)), none⟩,
 ⟨some 307, (.ext (.t 304) 0), none⟩,
 ⟨some 308, (.ext (.t 304) 1), none⟩,
 ⟨some 309, (.ext (.t 304) 2), none⟩,
 ⟨some 71, (.allocL (.agg [.nils])), none⟩,
 ⟨none, (.store 1 (.t 71) (.t 307)), none⟩,
 ⟨some 72, (.mv (.t 308)), none⟩,
 ⟨some 73, (.mv (.t 309)), none⟩]
 [] [71, 72, 304, 305, 306, 307, 308, 309])
 (.seq
 (.ops [⟨some 310, (.mv (.t 15)), none⟩,
 ⟨some 311, (.mv (.t 310)), none⟩,
 ⟨some 312, (.mv (.t 56)), some (311, true)⟩,
 ⟨some 313, (.pick (.t 311) (.t 312) (.c (.bool false))), none⟩,
 ⟨some 314, (.mv (.t 313)), none⟩,
 ⟨some 315, (.mv (.t 62)), some (314, true)⟩,
 ⟨some 316, (.bin .eql (.t 315) (.c (.int .i64 (2)))), some (314, true)⟩,
 ⟨some 317, (.pick (.t 314) (.t 316) (.c (.bool false))), none⟩,
 ⟨some 318, (.mv (.t 317)), none⟩,
 ⟨some 319, (.mv (.t 64)), some (318, true)⟩,
 ⟨some 320, (.bin .eql (.t 319) (.c (.int .i64 (2)))), some (318, true)⟩,
 ⟨some 321, (.pick (.t 318) (.t 320) (.c (.bool false))), none⟩,
 ⟨some 322, (.mv (.t 321)), none⟩,
 ⟨some 323, (.mv (.t 67)), some (322, true)⟩,
 ⟨some 324, (.bin .eql (.t 323) (.c (.int .i64 (0)))), some (322, true)⟩,
 ⟨some 325, (.pick (.t 322) (.t 324) (.c (.bool false))), none⟩,
 ⟨some 326, (.mv (.t 325)), none⟩,
 ⟨some 327, (.mv (.t 66)), some (326, true)⟩,
 ⟨some 328, (.len (.t 327)), some (326, true)⟩,
 ⟨some 329, (.bin .eql (.t 328) (.c (.int .i64 (0)))), some (326, true)⟩,
 ⟨some 330, (.pick (.t 326) (.t 329) (.c (.bool false))), none⟩,
 ⟨some 331, (.mv (.t 330)), none⟩,
 ⟨some 332, (.load true 1 (.t 65)), some (331, true)⟩,
 ⟨some 333, (.load true 2 (.t 3)), some (331, true)⟩,
 ⟨some 334, (.load true 2 (.t 4)), some (331, true)⟩,
 ⟨some 335, (.call (.f 77) [(.t 333), (.t 334)]), some (331, true)⟩,
 ⟨some 336, (.buildD 1 (.data []) 1 [(0, (.t 335))]), some (331, true)⟩,
 ⟨some 337, (.build [.nils] [(0, 1, (.t 336))]), some (331, true)⟩,
 ⟨some 338, (.call (.f 58) [(.t 332), (.t 337)]), some (331, true)⟩,
 ⟨some 339, (.pick (.t 331) (.t 338) (.c (.bool false))), none⟩,
 ⟨some 340, (.mv (.t 339)), none⟩,
 ⟨some 341, (.mv (.t 70)), some (340, true)⟩,
 ⟨some 342, (.bin .eql (.t 341) (.c (.int .i64 (8)))), some (340, true)⟩,
 ⟨some 343, (.pick (.t 340) (.t 342) (.c (.bool false))), none⟩,
 ⟨some 344, (.mv (.t 343)), none⟩,
 ⟨some 345, (.mv (.t 73)), some (344, true)⟩,
 ⟨some 346, (.bin .eql (.t 345) (.c (.int .i64 (4)))), some (344, true)⟩,
 ⟨some 347, (.pick (.t 344) (.t 346) (.c (.bool false))), none⟩,
 ⟨some 348, (.mv (.t 347)), none⟩,
 ⟨some 349, (.call (.f 78) []), some (348, true)⟩,
 ⟨some 350, (.pick (.t 348) (.t 349) (.c (.bool false))), none⟩,
 ⟨some 0, (.mv (.t 350)), none⟩]
 [(22, 23), (22, 24), (23, 24), (22, 25), (22, 26), (22, 27)] [3, 4, 15, 56, 62, 64, 65, 66, 67, 70, 73, 310, 311, 312, 313, 314, 315, 316, 317, 318, 319, 320, 321, 322, 323, 324, 325, 326, 327, 328, 329, 330, 331, 332, 333, 334, 335, 336, 337, 338, 339, 340, 341, 342, 343, 344, 345, 346, 347, 348, 349, 350])
 .ret))))))))))))))))))))))))⟩
def loc10 : List Nat := [98, 117, 122, 192, 203, 336, 1, 2, 3, 4, 5, 6, 10, 11, 16, 17, 21, 22, 26, 27, 31, 32, 36, 37, 41, 42, 46, 47, 51, 52, 65, 68, 71]
def fg10 : List (Nat × List Nat) := [(28, [3, 4, 15, 56, 62, 64, 65, 66, 67, 70, 73, 310, 311, 312, 313, 314, 315, 316, 317, 318, 319, 320, 321, 322, 323, 324, 325, 326, 327, 328, 329, 330, 331, 332, 333, 334, 335, 336, 337, 338, 339, 340, 341, 342, 343, 344, 345, 346, 347, 348, 349, 350]), (27, [71, 72, 304, 305, 306, 307, 308, 309]), (26, [68, 69, 299, 300, 301, 302, 303]), (25, [292, 293, 294, 295, 296, 297, 298]), (24, [63, 288, 289, 290, 291]), (23, [57, 58, 61, 264, 265, 266, 267, 268, 269, 270, 271, 272, 273, 274, 275, 276, 277, 278, 279, 280, 281, 282, 284, 285, 286, 287]), (19, [283]), (22, [3, 4, 15, 56, 57, 58, 264, 266, 267, 268, 269, 270, 271, 272, 273, 274, 275, 276, 277, 278, 279, 280, 281, 282, 283]), (21, [59, 60]), (20, [265]), (16, [263]), (15, [20, 25, 30, 35, 40, 45, 50, 55, 233, 234, 235, 236, 237, 238, 239, 240, 241, 242, 243, 244, 245, 246, 247, 248, 249, 250, 251, 252, 253, 254, 255, 256, 257, 258, 259, 260, 261, 262]), (14, [51, 52, 53, 54, 223, 224, 225, 226, 227, 228, 229, 230, 231, 232]), (13, [2, 46, 47, 48, 49, 212, 213, 214, 215, 216, 217, 218, 219, 220, 221, 222]), (12, [41, 42, 43, 44, 201, 202, 203, 204, 205, 206, 207, 208, 209, 210, 211]), (11, [36, 37, 38, 39, 190, 191, 192, 193, 194, 195, 196, 197, 198, 199, 200]), (10, [31, 32, 33, 34, 179, 180, 181, 182, 183, 184, 185, 186, 187, 188, 189]), (9, [26, 27, 28, 29, 168, 169, 170, 171, 172, 173, 174, 175, 176, 177, 178]), (8, [21, 22, 23, 24, 157, 158, 159, 160, 161, 162, 163, 164, 165, 166, 167]), (7, [16, 17, 18, 19, 146, 147, 148, 149, 150, 151, 152, 153, 154, 155, 156]), (6, [5, 6, 7, 8, 9, 10, 11, 14, 108, 109, 110, 111, 112, 113, 114, 115, 116, 117, 118, 119, 120, 121, 122, 123, 124, 125, 126, 127, 128, 129, 130, 131, 132, 133, 134, 135, 136, 137, 138, 139, 140, 141, 142, 143, 144, 145]), (5, [12, 13, 96, 97, 98, 99, 100, 101, 102, 103, 104, 105, 106, 107]), (4, [85, 86, 87, 88, 89, 90, 91, 92, 93, 94, 95]), (3, [83, 84]), (2, [1, 77, 78, 79, 80, 81, 82]), (1, [74, 75, 76]), (0, [0])]
theorem comp10 : compFn Try.prog loc10 (fun i => (fg10.lookup i).getD []) Try.f10 = some lit10 := by kernel_rfl

-- parcener/parcenerref09.Same
def lit15 : AFn := ⟨2, [.tmp 4],
 (.seq
 (.ops [⟨some 4, (.mv (.c (.bool false))), none⟩]
 [] [4])
 (.seq
 (.seq
 (.ops [⟨some 6, (.mv (.t 0)), none⟩,
 ⟨some 7, (.len (.t 6)), none⟩,
 ⟨some 8, (.mv (.t 1)), none⟩,
 ⟨some 9, (.len (.t 8)), none⟩,
 ⟨some 10, (.bin .neq (.t 7) (.t 9)), none⟩]
 [] [6, 7, 8, 9])
 (.cond (.t 10)
 (.seq
 (.ops [⟨some 4, (.mv (.c (.bool false))), none⟩]
 [] [0, 1, 10])
 .ret)
 .skip))
 (.seq
 (.seq
 (.ops [⟨some 5, (.mv (.c (.int .i64 (0)))), none⟩]
 [] [10])
 (.block 0
 (.loop
 (.seq
 (.seq
 (.ops [⟨some 11, (.mv (.t 5)), none⟩,
 ⟨some 12, (.mv (.t 0)), none⟩,
 ⟨some 13, (.len (.t 12)), none⟩,
 ⟨some 14, (.bin .lss (.t 11) (.t 13)), none⟩]
 [] [])
 (.cond (.t 14)
 .skip
 (.exit 0)))
 (.seq
 (.block 1
 (.seq
 (.ops [⟨some 17, (.mv (.t 0)), none⟩,
 ⟨some 18, (.mv (.t 5)), none⟩,
 ⟨some 19, (.iad 1 (.t 17) (.t 18)), none⟩,
 ⟨some 20, (.load false 1 (.t 19)), none⟩,
 ⟨some 21, (.mv (.t 1)), none⟩,
 ⟨some 22, (.mv (.t 5)), none⟩,
 ⟨some 23, (.iad 1 (.t 21) (.t 22)), none⟩,
 ⟨some 24, (.load false 1 (.t 23)), none⟩,
 ⟨some 25, (.bin .neq (.t 20) (.t 24)), none⟩]
 [(0, 1), (0, 4), (1, 4), (2, 4), (3, 4), (0, 5), (1, 5), (2, 5), (3, 5), (4, 5), (0, 6), (1, 6), (2, 6), (3, 6), (0, 7), (1, 7), (2, 7), (3, 7)] [14])
 (.cond (.t 25)
 (.seq
 (.ops [⟨some 4, (.mv (.c (.bool false))), none⟩]
 [] [0, 1, 5, 11, 12, 13, 15, 16, 17, 18, 19, 20, 21, 22, 23, 24, 25])
 .ret)
 .skip)))
 (.ops [⟨some 15, (.mv (.t 5)), none⟩,
 ⟨some 16, (.bin .add (.t 15) (.c (.int .i64 (1)))), none⟩,
 ⟨some 5, (.mv (.t 16)), none⟩]
 [] [25]))))))
 (.seq
 (.ops [⟨some 4, (.mv (.c (.bool true))), none⟩]
 [] [0, 1, 5, 11, 12, 13, 14, 15, 16, 17, 18, 19, 20, 21, 22, 23, 24])
 .ret))))⟩
def loc15 : List Nat := []
def fg15 : List (Nat × List Nat) := [(8, [0, 1, 5, 11, 12, 13, 14, 15, 16, 17, 18, 19, 20, 21, 22, 23, 24]), (5, [25]), (7, [0, 1, 5, 11, 12, 13, 15, 16, 17, 18, 19, 20, 21, 22, 23, 24, 25]), (6, [14]), (3, [10]), (2, [0, 1, 10]), (1, [6, 7, 8, 9]), (0, [4])]
theorem comp15 : compFn Try.prog loc15 (fun i => (fg15.lookup i).getD []) Try.f15 = some lit15 := by kernel_rfl

-- parcener/parcenerref01.Of
def lit22 : AFn := ⟨1, [.cell 2 true 2],
 (.seq
 (.ops [⟨some 2, (.allocL (.agg [(.int .i64 (0)), (.int .i64 (0))])), none⟩]
 [] [])
 (.seq
 (.ops [⟨some 3, (.mv (.t 0)), none⟩,
 ⟨some 4, (.build [(.int .i64 (0)), (.int .i64 (0))] [(0, 1, (.t 3)), (1, 1, (.c (.int .i64 (1))))]), none⟩,
 ⟨none, (.store 2 (.t 2) (.t 4)), none⟩]
 [] [0, 3, 4])
 .ret))⟩
def loc22 : List Nat := [2]
def fg22 : List (Nat × List Nat) := [(1, [0, 3, 4])]
theorem comp22 : compFn Try.prog loc22 (fun i => (fg22.lookup i).getD []) Try.f22 = some lit22 := by kernel_rfl

-- parcener/parcenerref06.Same
def lit58 : AFn := ⟨2, [.tmp 4],
 (.seq
 (.ops [⟨some 2, (.boxL (.t 0)), none⟩,
 ⟨some 3, (.boxL (.t 1)), none⟩,
 ⟨some 4, (.mv (.c (.bool false))), none⟩]
 [] [0, 1, 4])
 (.seq
 (.seq
 (.ops [⟨some 6, (.fad 0 (.t 2)), none⟩,
 ⟨some 7, (.load false 1 (.t 6)), none⟩,
 ⟨some 8, (.len (.t 7)), none⟩,
 ⟨some 9, (.fad 0 (.t 3)), none⟩,
 ⟨some 10, (.load false 1 (.t 9)), none⟩,
 ⟨some 11, (.len (.t 10)), none⟩,
 ⟨some 12, (.bin .neq (.t 8) (.t 11)), none⟩]
 [] [6, 7, 8, 9, 10, 11])
 (.cond (.t 12)
 (.seq
 (.ops [⟨some 4, (.mv (.c (.bool false))), none⟩]
 [] [2, 3, 12])
 .ret)
 .skip))
 (.seq
 (.seq
 (.ops [⟨some 5, (.mv (.c (.int .i64 (0)))), none⟩]
 [] [12])
 (.block 0
 (.loop
 (.seq
 (.seq
 (.ops [⟨some 13, (.mv (.t 5)), none⟩,
 ⟨some 14, (.fad 0 (.t 2)), none⟩,
 ⟨some 15, (.load false 1 (.t 14)), none⟩,
 ⟨some 16, (.len (.t 15)), none⟩,
 ⟨some 17, (.bin .lss (.t 13) (.t 16)), none⟩]
 [] [])
 (.cond (.t 17)
 .skip
 (.exit 0)))
 (.seq
 (.block 1
 (.seq
 (.ops [⟨some 20, (.fad 0 (.t 2)), none⟩,
 ⟨some 21, (.load false 1 (.t 20)), none⟩,
 ⟨some 22, (.mv (.t 5)), none⟩,
 ⟨some 23, (.iad 1 (.t 21) (.t 22)), none⟩,
 ⟨some 24, (.load false 1 (.t 23)), none⟩,
 ⟨some 25, (.fad 0 (.t 3)), none⟩,
 ⟨some 26, (.load false 1 (.t 25)), none⟩,
 ⟨some 27, (.mv (.t 5)), none⟩,
 ⟨some 28, (.iad 1 (.t 26) (.t 27)), none⟩,
 ⟨some 29, (.load false 1 (.t 28)), none⟩,
 ⟨some 30, (.call (.f 122) [(.t 24), (.t 29)]), none⟩,
 ⟨some 31, (.un .not (.t 30)), none⟩]
 [(0, 2), (1, 2), (0, 5), (1, 5), (2, 5), (3, 5), (4, 5), (0, 6), (1, 6), (2, 6), (3, 6), (4, 6), (0, 7), (1, 7), (2, 7), (3, 7), (4, 7), (5, 7), (6, 7), (0, 8), (1, 8), (2, 8), (3, 8), (4, 8), (0, 9), (1, 9), (2, 9), (3, 9), (4, 9)] [17])
 (.cond (.t 31)
 (.seq
 (.ops [⟨some 4, (.mv (.c (.bool false))), none⟩]
 [] [2, 3, 5, 13, 14, 15, 16, 18, 19, 20, 21, 22, 23, 24, 25, 26, 27, 28, 29, 30, 31])
 .ret)
 .skip)))
 (.ops [⟨some 18, (.mv (.t 5)), none⟩,
 ⟨some 19, (.bin .add (.t 18) (.c (.int .i64 (1)))), none⟩,
 ⟨some 5, (.mv (.t 19)), none⟩]
 [] [31]))))))
 (.seq
 (.ops [⟨some 4, (.mv (.c (.bool true))), none⟩]
 [] [2, 3, 5, 13, 14, 15, 16, 17, 18, 19, 20, 21, 22, 23, 24, 25, 26, 27, 28, 29, 30])
 .ret))))⟩
def loc58 : List Nat := [2, 3]
def fg58 : List (Nat × List Nat) := [(8, [2, 3, 5, 13, 14, 15, 16, 17, 18, 19, 20, 21, 22, 23, 24, 25, 26, 27, 28, 29, 30]), (5, [31]), (7, [2, 3, 5, 13, 14, 15, 16, 18, 19, 20, 21, 22, 23, 24, 25, 26, 27, 28, 29, 30, 31]), (6, [17]), (3, [12]), (2, [2, 3, 12]), (1, [6, 7, 8, 9, 10, 11]), (0, [0, 1, 4])]
theorem comp58 : compFn Try.prog loc58 (fun i => (fg58.lookup i).getD []) Try.f58 = some lit58 := by kernel_rfl

-- parcener/parcenerlaw09.three
def lit73 : AFn := ⟨0, [.tmp 0],
 (.seq
 (.ops [⟨some 0, (.mv (.c .nils)), none⟩]
 [] [0])
 (.seq
 (.ops [⟨some 1, (.buildSl true 1 (.int .i64 (0)) 2 [(0, (.c (.int .i64 (0)))), (1, (.c (.int .i64 (6))))]), none⟩,
 ⟨some 2, (.buildSl true 1 (.int .i64 (0)) 1 [(0, (.c (.int .i64 (1))))]), none⟩,
 ⟨some 3, (.build [(.int .i64 (0)), .nils, .nils] [(0, 1, (.c (.int .i64 (6)))), (1, 1, (.t 1)), (2, 1, (.t 2))]), none⟩,
 ⟨some 4, (.buildSl true 1 (.int .i64 (0)) 3 [(0, (.c (.int .i64 (0)))), (1, (.c (.int .i64 (4)))), (2, (.c (.int .i64 (6))))]), none⟩,
 ⟨some 5, (.buildSl true 1 (.int .i64 (0)) 2 [(0, (.c (.int .i64 (1)))), (1, (.c (.int .i64 (4))))]), none⟩,
 ⟨some 6, (.build [(.int .i64 (0)), .nils, .nils] [(0, 1, (.c (.int .i64 (6)))), (1, 1, (.t 4)), (2, 1, (.t 5))]), none⟩,
 ⟨some 7, (.buildSl true 1 (.int .i64 (0)) 3 [(0, (.c (.int .i64 (0)))), (1, (.c (.int .i64 (2)))), (2, (.c (.int .i64 (6))))]), none⟩,
 ⟨some 8, (.buildSl true 1 (.int .i64 (0)) 2 [(0, (.c (.int .i64 (2)))), (1, (.c (.int .i64 (0))))]), none⟩,
 ⟨some 9, (.build [(.int .i64 (0)), .nils, .nils] [(0, 1, (.c (.int .i64 (6)))), (1, 1, (.t 7)), (2, 1, (.t 8))]), none⟩,
 ⟨some 10, (.buildSl true 3 (.agg [(.int .i64 (0)), (.data []), (.data [])]) 3 [(0, (.t 3)), (1, (.t 6)), (2, (.t 9))]), none⟩,
 ⟨some 0, (.mv (.t 10)), none⟩]
 [] [1, 2, 3, 4, 5, 6, 7, 8, 9, 10])
 .ret))⟩
def loc73 : List Nat := []
def fg73 : List (Nat × List Nat) := [(1, [1, 2, 3, 4, 5, 6, 7, 8, 9, 10]), (0, [0])]
theorem comp73 : compFn Try.prog loc73 (fun i => (fg73.lookup i).getD []) Try.f73 = some lit73 := by kernel_rfl

-- parcener/halve.Split
def lit74 : AFn := ⟨4, [.cell 8 true 2, .cell 9 true 2, .tmp 10, .tmp 11, .tmp 12],
 (.seq
 (.ops [⟨some 4, (.boxL (.t 0)), none⟩,
 ⟨some 6, (.boxL (.t 2)), none⟩,
 ⟨some 7, (.boxL (.t 3)), none⟩,
 ⟨some 8, (.allocL (.agg [.nils, .nils])), none⟩,
 ⟨some 9, (.allocL (.agg [(.int .i64 (0)), (.int .i64 (0))])), none⟩,
 ⟨some 10, (.mv (.c .nils)), none⟩,
 ⟨some 11, (.mv (.c .nils)), none⟩,
 ⟨some 12, (.mv (.c (.int .i64 (0)))), none⟩]
 [] [0, 2, 3, 12])
 (.seq
 (.seq
 (.ops [⟨some 27, (.load true 2 (.t 4)), none⟩,
 ⟨some 28, (.call (.f 79) [(.t 27)]), none⟩,
 ⟨some 13, (.mv (.t 28)), none⟩]
 [] [27, 28])
 (.seq
 (.ops [⟨some 29, (.mv (.t 13)), none⟩,
 ⟨some 30, (.bin .neq (.t 29) (.c (.int .i64 (0)))), none⟩]
 [] [29])
 (.cond (.t 30)
 (.seq
 (.ops [⟨some 31, (.build [.nils, .nils] []), none⟩,
 ⟨some 32, (.build [(.int .i64 (0)), (.int .i64 (0))] []), none⟩,
 ⟨some 33, (.mv (.t 13)), none⟩,
 ⟨none, (.store 2 (.t 8) (.t 31)), none⟩,
 ⟨none, (.store 2 (.t 9) (.t 32)), none⟩,
 ⟨some 10, (.mv (.c .nils)), none⟩,
 ⟨some 11, (.mv (.c .nils)), none⟩,
 ⟨some 12, (.mv (.t 33)), none⟩]
 [] [1, 4, 6, 7, 13, 30, 31, 32, 33])
 .ret)
 .skip)))
 (.seq
 (.ops [⟨some 34, (.mv (.t 1)), none⟩,
 ⟨some 35, (.len (.t 34)), none⟩,
 ⟨some 36, (.bin .gtr (.t 35) (.c (.int .i64 (1)))), none⟩,
 ⟨some 37, (.mv (.t 36)), none⟩,
 ⟨some 38, (.mv (.t 1)), some (37, true)⟩,
 ⟨some 39, (.iad 1 (.t 38) (.c (.int .i64 (0)))), some (37, true)⟩,
 ⟨some 40, (.load false 1 (.t 39)), some (37, true)⟩,
 ⟨some 41, (.bin .geq (.t 40) (.c (.int .i64 (0)))), some (37, true)⟩,
 ⟨some 42, (.pick (.t 37) (.t 41) (.c (.bool false))), none⟩,
 ⟨some 43, (.mv (.t 42)), none⟩,
 ⟨some 44, (.mv (.t 1)), some (43, true)⟩,
 ⟨some 45, (.mv (.t 1)), some (43, true)⟩,
 ⟨some 46, (.len (.t 45)), some (43, true)⟩,
 ⟨some 47, (.bin .sub (.t 46) (.c (.int .i64 (1)))), some (43, true)⟩,
 ⟨some 48, (.iad 1 (.t 44) (.t 47)), some (43, true)⟩,
 ⟨some 49, (.load false 1 (.t 48)), some (43, true)⟩,
 ⟨some 50, (.fad 0 (.t 4)), some (43, true)⟩,
 ⟨some 51, (.load false 1 (.t 50)), some (43, true)⟩,
 ⟨some 52, (.len (.t 51)), some (43, true)⟩,
 ⟨some 53, (.bin .lss (.t 49) (.t 52)), some (43, true)⟩,
 ⟨some 54, (.pick (.t 43) (.t 53) (.c (.bool false))), none⟩,
 ⟨some 14, (.mv (.t 54)), none⟩]
 [(10, 11), (10, 12), (10, 13), (10, 16), (11, 16), (12, 16), (13, 16), (14, 16), (15, 16), (10, 17), (11, 17), (12, 17), (13, 17), (14, 17), (15, 17), (10, 18), (11, 18), (12, 18), (13, 18), (14, 18), (15, 18)] [13, 30, 34, 35, 36, 37, 38, 39, 40, 41, 42, 43, 44, 45, 46, 47, 48, 49, 50, 51, 52, 53, 54])
 (.seq
 (.seq
 (.ops [⟨some 15, (.mv (.c (.int .i64 (1)))), none⟩]
 [] [])
 (.block 0
 (.loop
 (.seq
 (.seq
 (.ops [⟨some 55, (.mv (.t 15)), none⟩,
 ⟨some 56, (.mv (.t 1)), none⟩,
 ⟨some 57, (.len (.t 56)), none⟩,
 ⟨some 58, (.bin .lss (.t 55) (.t 57)), none⟩]
 [] [])
 (.cond (.t 58)
 .skip
 (.exit 0)))
 (.seq
 (.block 1
 (.ops [⟨some 61, (.mv (.t 14)), none⟩,
 ⟨some 62, (.mv (.t 61)), none⟩,
 ⟨some 63, (.mv (.t 1)), some (62, true)⟩,
 ⟨some 64, (.mv (.t 15)), some (62, true)⟩,
 ⟨some 65, (.bin .sub (.t 64) (.c (.int .i64 (1)))), some (62, true)⟩,
 ⟨some 66, (.iad 1 (.t 63) (.t 65)), some (62, true)⟩,
 ⟨some 67, (.load false 1 (.t 66)), some (62, true)⟩,
 ⟨some 68, (.mv (.t 1)), some (62, true)⟩,
 ⟨some 69, (.mv (.t 15)), some (62, true)⟩,
 ⟨some 70, (.iad 1 (.t 68) (.t 69)), some (62, true)⟩,
 ⟨some 71, (.load false 1 (.t 70)), some (62, true)⟩,
 ⟨some 72, (.bin .lss (.t 67) (.t 71)), some (62, true)⟩,
 ⟨some 73, (.pick (.t 62) (.t 72) (.c (.bool false))), none⟩,
 ⟨some 14, (.mv (.t 73)), none⟩]
 [(2, 3), (2, 4), (2, 7), (3, 7), (4, 7), (5, 7), (6, 7), (2, 8), (3, 8), (4, 8), (5, 8), (6, 8), (7, 8), (2, 9), (3, 9), (4, 9), (5, 9), (6, 9), (2, 10), (3, 10), (4, 10), (5, 10), (6, 10)] [58]))
 (.ops [⟨some 59, (.mv (.t 15)), none⟩,
 ⟨some 60, (.bin .add (.t 59) (.c (.int .i64 (1)))), none⟩,
 ⟨some 15, (.mv (.t 60)), none⟩]
 [] []))))))
 (.seq
 (.ops [⟨some 75, (.load true 2 (.t 6)), none⟩,
 ⟨some 76, (.load true 2 (.t 7)), none⟩,
 ⟨some 77, (.call (.f 149) [(.t 75), (.t 76)]), none⟩,
 ⟨some 74, (.mv (.t 77)), none⟩,
 ⟨some 78, (.ext (.t 74) 0), none⟩,
 ⟨some 79, (.ext (.t 74) 1), none⟩,
 ⟨some 16, (.mv (.t 78)), none⟩,
 ⟨some 17, (.mv (.t 79)), none⟩]
 [] [15, 55, 56, 57, 58, 59, 60, 61, 62, 63, 64, 65, 66, 67, 68, 69, 70, 71, 72, 73, 74, 75, 76, 77, 78, 79])
 (.seq
 (.seq
 (.ops [⟨some 80, (.mv (.t 14)), none⟩,
 ⟨some 81, (.un .not (.t 80)), none⟩,
 ⟨some 82, (.mv (.t 81)), none⟩,
 ⟨some 83, (.mv (.t 17)), some (82, false)⟩,
 ⟨some 84, (.bin .neq (.t 83) (.c (.int .i64 (0)))), some (82, false)⟩,
 ⟨some 85, (.pick (.t 82) (.c (.bool true)) (.t 84)), none⟩,
 ⟨some 86, (.mv (.t 85)), none⟩,
 ⟨some 87, (.mv (.t 16)), some (86, false)⟩,
 ⟨some 88, (.bin .geq (.t 87) (.c (.int .i64 (0)))), some (86, false)⟩,
 ⟨some 89, (.pick (.t 86) (.c (.bool true)) (.t 88)), none⟩,
 ⟨some 90, (.mv (.t 89)), none⟩,
 ⟨some 91, (.fad 0 (.t 6)), some (90, false)⟩,
 ⟨some 92, (.load false 1 (.t 91)), some (90, false)⟩,
 ⟨some 93, (.bin .lss (.t 92) (.c (.int .i64 (0)))), some (90, false)⟩,
 ⟨some 94, (.pick (.t 90) (.c (.bool true)) (.t 93)), none⟩,
 ⟨some 95, (.mv (.t 94)), none⟩,
 ⟨some 96, (.load true 2 (.t 7)), some (95, false)⟩,
 ⟨some 97, (.fad 0 (.t 4)), some (95, false)⟩,
 ⟨some 98, (.load false 1 (.t 97)), some (95, false)⟩,
 ⟨some 99, (.iad 3 (.t 98) (.c (.int .i64 (0)))), some (95, false)⟩,
 ⟨some 100, (.fad 0 (.t 99)), some (95, false)⟩,
 ⟨some 101, (.load false 1 (.t 100)), some (95, false)⟩,
 ⟨some 102, (.call (.f 151) [(.t 101)]), some (95, false)⟩,
 ⟨some 103, (.call (.f 150) [(.t 96), (.t 102)]), some (95, false)⟩,
 ⟨some 104, (.bin .gtr (.t 103) (.c (.int .i64 (0)))), some (95, false)⟩,
 ⟨some 105, (.pick (.t 95) (.c (.bool true)) (.t 104)), none⟩]
 [(16, 17), (16, 18), (16, 19), (16, 20), (16, 21), (16, 22)] [14, 16, 17, 80, 81, 82, 83, 84, 85, 86, 87, 88, 89, 90, 91, 92, 93, 94, 95, 96, 97, 98, 99, 100, 101, 102, 103, 104])
 (.cond (.t 105)
 (.seq
 (.ops [⟨some 106, (.build [.nils, .nils] []), none⟩,
 ⟨some 107, (.build [(.int .i64 (0)), (.int .i64 (0))] []), none⟩,
 ⟨none, (.store 2 (.t 8) (.t 106)), none⟩,
 ⟨none, (.store 2 (.t 9) (.t 107)), none⟩,
 ⟨some 10, (.mv (.c .nils)), none⟩,
 ⟨some 11, (.mv (.c .nils)), none⟩,
 ⟨some 12, (.mv (.c (.int .i64 (2)))), none⟩]
 [] [1, 4, 6, 7, 105, 106, 107])
 .ret)
 .skip))
 (.seq
 (.ops [⟨some 108, (.mv (.t 1)), none⟩,
 ⟨some 109, (.len (.t 108)), none⟩,
 ⟨some 110, (.bin .quo (.t 109) (.c (.int .i64 (2)))), none⟩,
 ⟨some 18, (.mv (.t 110)), none⟩]
 [] [105, 108, 109, 110])
 (.seq
 (.ops [⟨some 112, (.mv (.t 18)), none⟩,
 ⟨some 113, (.mv (.t 1)), none⟩,
 ⟨some 114, (.len (.t 113)), none⟩,
 ⟨some 115, (.call (.f 107) [(.t 112), (.t 114)]), none⟩,
 ⟨some 111, (.mv (.t 115)), none⟩,
 ⟨some 116, (.ext (.t 111) 0), none⟩,
 ⟨some 117, (.ext (.t 111) 1), none⟩,
 ⟨some 19, (.allocL (.agg [(.int .i64 (0)), (.int .i64 (0))])), none⟩,
 ⟨none, (.store 2 (.t 19) (.t 116)), none⟩,
 ⟨some 20, (.mv (.t 117)), none⟩]
 [] [20, 111, 112, 113, 114, 115, 116, 117])
 (.seq
 (.ops [⟨some 21, (.mv (.c .nils)), none⟩]
 [] [])
 (.seq
 (.seq
 (.ops [⟨some 118, (.mv (.t 1)), none⟩,
 ⟨some 119, (.len (.t 118)), none⟩,
 ⟨some 120, (.mv (.c (.int .i64 (0)))), none⟩]
 [] [1])
 (.block 2
 (.loop
 (.seq
 (.ops [⟨some 121, (.bin .lss (.t 120) (.t 119)), none⟩]
 [] [])
 (.seq
 (.cond (.t 121)
 .skip
 (.exit 2))
 (.seq
 (.block 3
 (.seq
 (.ops [⟨some 122, (.iad 1 (.t 118) (.t 120)), none⟩,
 ⟨some 123, (.load false 1 (.t 122)), none⟩,
 ⟨some 23, (.mv (.t 123)), none⟩]
 [] [121])
 (.seq
 (.ops [⟨some 24, (.allocL (.agg [(.int .i64 (0)), (.int .i64 (0))])), none⟩]
 [] [])
 (.seq
 (.seq
 (.ops [⟨some 125, (.load true 2 (.t 4)), none⟩,
 ⟨some 126, (.mv (.t 23)), none⟩,
 ⟨some 127, (.load true 2 (.t 6)), none⟩,
 ⟨some 128, (.load true 2 (.t 7)), none⟩,
 ⟨some 129, (.load true 2 (.t 19)), none⟩,
 ⟨some 130, (.call (.f 152) [(.t 125), (.t 126), (.t 127), (.t 128), (.t 129)]), none⟩,
 ⟨some 124, (.mv (.t 130)), none⟩,
 ⟨some 131, (.ext (.t 124) 0), none⟩,
 ⟨some 132, (.ext (.t 124) 1), none⟩,
 ⟨some 133, (.ext (.t 124) 2), none⟩,
 ⟨none, (.store 2 (.t 4) (.t 131)), none⟩,
 ⟨none, (.store 2 (.t 24) (.t 132)), none⟩,
 ⟨some 12, (.mv (.t 133)), none⟩]
 [] [])
 (.seq
 (.ops [⟨some 134, (.mv (.t 12)), none⟩,
 ⟨some 135, (.bin .neq (.t 134) (.c (.int .i64 (0)))), none⟩]
 [] [])
 (.cond (.t 135)
 (.seq
 (.ops [⟨some 136, (.build [.nils, .nils] []), none⟩,
 ⟨some 137, (.build [(.int .i64 (0)), (.int .i64 (0))] []), none⟩,
 ⟨some 138, (.mv (.t 12)), none⟩,
 ⟨none, (.store 2 (.t 8) (.t 136)), none⟩,
 ⟨none, (.store 2 (.t 9) (.t 137)), none⟩,
 ⟨some 10, (.mv (.c .nils)), none⟩,
 ⟨some 11, (.mv (.c .nils)), none⟩,
 ⟨some 12, (.mv (.t 138)), none⟩]
 [] [4, 6, 7, 18, 19, 21, 23, 24, 118, 119, 120, 122, 123, 124, 125, 126, 127, 128, 129, 130, 131, 132, 133, 134, 135, 136, 137, 138, 139, 140, 141, 142, 143, 144, 145])
 .ret)
 .skip)))
 (.ops [⟨some 139, (.mv (.t 21)), none⟩,
 ⟨some 140, (.mv (.t 23)), none⟩,
 ⟨some 141, (.load true 2 (.t 24)), none⟩,
 ⟨some 142, (.build [(.int .i64 (0)), (.int .i64 (0)), (.int .i64 (0))] [(0, 1, (.t 140)), (1, 2, (.t 141))]), none⟩,
 ⟨some 143, (.buildD 3 (.agg [(.int .i64 (0)), (.int .i64 (0)), (.int .i64 (0))]) 1 [(0, (.t 142))]), none⟩,
 ⟨some 144, (.app true 3 24 (.t 139) (.t 143)), none⟩,
 ⟨some 21, (.mv (.t 144)), none⟩]
 [] [12, 23, 24, 135])))))
 (.ops [⟨some 145, (.bin .add (.t 120) (.c (.int .i64 (1)))), none⟩,
 ⟨some 120, (.mv (.t 145)), none⟩]
 [] [])))))))
 (.seq
 (.ops [⟨some 146, (.mv (.t 21)), none⟩,
 ⟨some 147, (.call (.f 153) [(.t 146), (.f 154)]), none⟩]
 [] [6, 7, 19, 118, 119, 120, 121, 122, 123, 124, 125, 126, 127, 128, 129, 130, 131, 132, 133, 134, 139, 140, 141, 142, 143, 144, 145, 146, 147])
 (.seq
 (.seq
 (.ops [⟨some 148, (.mv (.t 21)), none⟩,
 ⟨some 149, (.len (.t 148)), none⟩,
 ⟨some 150, (.mv (.c (.int .i64 (0)))), none⟩]
 [] [])
 (.block 4
 (.loop
 (.seq
 (.ops [⟨some 151, (.bin .lss (.t 150) (.t 149)), none⟩]
 [] [])
 (.seq
 (.cond (.t 151)
 .skip
 (.exit 4))
 (.seq
 (.block 5
 (.seq
 (.ops [⟨some 152, (.mv (.t 150)), none⟩,
 ⟨some 153, (.iad 3 (.t 148) (.t 150)), none⟩,
 ⟨some 154, (.load true 3 (.t 153)), none⟩,
 ⟨some 26, (.allocL (.agg [(.int .i64 (0)), (.int .i64 (0)), (.int .i64 (0))])), none⟩,
 ⟨some 25, (.mv (.t 152)), none⟩,
 ⟨none, (.store 3 (.t 26) (.t 154)), none⟩]
 [] [151])
 (.seq
 (.ops [⟨some 155, (.mv (.t 25)), none⟩,
 ⟨some 156, (.mv (.t 18)), none⟩,
 ⟨some 157, (.bin .lss (.t 155) (.t 156)), none⟩]
 [] [25])
 (.cond (.t 157)
 (.ops [⟨some 158, (.mv (.t 10)), none⟩,
 ⟨some 159, (.fad 0 (.t 26)), none⟩,
 ⟨some 160, (.load false 1 (.t 159)), none⟩,
 ⟨some 161, (.buildD 1 (.int .i64 (0)) 1 [(0, (.t 160))]), none⟩,
 ⟨some 162, (.app true 1 8 (.t 158) (.t 161)), none⟩,
 ⟨some 10, (.mv (.t 162)), none⟩]
 [] [157])
 (.ops [⟨some 163, (.mv (.t 11)), none⟩,
 ⟨some 164, (.fad 0 (.t 26)), none⟩,
 ⟨some 165, (.load false 1 (.t 164)), none⟩,
 ⟨some 166, (.buildD 1 (.int .i64 (0)) 1 [(0, (.t 165))]), none⟩,
 ⟨some 167, (.app true 1 8 (.t 163) (.t 166)), none⟩,
 ⟨some 11, (.mv (.t 167)), none⟩]
 [] [157])))))
 (.ops [⟨some 168, (.bin .add (.t 150) (.c (.int .i64 (1)))), none⟩,
 ⟨some 150, (.mv (.t 168)), none⟩]
 [] [])))))))
 (.seq
 (.ops [⟨some 169, (.mv (.t 10)), none⟩,
 ⟨some 170, (.call (.f 155) [(.t 169)]), none⟩]
 [] [26, 148, 149, 150, 151, 152, 153, 154, 155, 156, 158, 159, 160, 161, 162, 163, 164, 165, 166, 167, 168, 169, 170])
 (.seq
 (.ops [⟨some 171, (.mv (.t 11)), none⟩,
 ⟨some 172, (.call (.f 155) [(.t 171)]), none⟩]
 [] [171, 172])
 (.seq
 (.ops [⟨some 173, (.load true 2 (.t 4)), none⟩,
 ⟨some 174, (.mv (.t 21)), none⟩,
 ⟨some 175, (.mv (.t 18)), none⟩,
 ⟨some 176, (.bin .sub (.t 175) (.c (.int .i64 (1)))), none⟩,
 ⟨some 177, (.iad 3 (.t 174) (.t 176)), none⟩,
 ⟨some 178, (.fad 1 (.t 177)), none⟩,
 ⟨some 179, (.load true 2 (.t 178)), none⟩,
 ⟨some 180, (.mv (.t 10)), none⟩,
 ⟨some 181, (.mv (.t 11)), none⟩,
 ⟨none, (.store 2 (.t 8) (.t 173)), none⟩,
 ⟨none, (.store 2 (.t 9) (.t 179)), none⟩,
 ⟨some 10, (.mv (.t 180)), none⟩,
 ⟨some 11, (.mv (.t 181)), none⟩,
 ⟨some 12, (.mv (.c (.int .i64 (0)))), none⟩]
 [(0, 1), (0, 2), (1, 2), (0, 3), (1, 3), (0, 4), (0, 5), (0, 6), (0, 7), (1, 7), (2, 7), (3, 7), (4, 7), (5, 7), (6, 7), (0, 8), (1, 8), (2, 8), (3, 8), (4, 8), (5, 8), (6, 8), (7, 8), (1, 9), (2, 9), (3, 9), (4, 9), (5, 9), (6, 9), (7, 9), (8, 9), (7, 10), (8, 10), (8, 11)] [4, 18, 21, 173, 174, 175, 176, 177, 178, 179, 180, 181])
 .ret)))))))))))))))⟩
def loc74 : List Nat := [143, 161, 166, 4, 6, 7, 8, 9, 19, 24, 26]
def fg74 : List (Nat × List Nat) := [(34, [4, 18, 21, 173, 174, 175, 176, 177, 178, 179, 180, 181]), (33, [171, 172]), (32, [26, 148, 149, 150, 151, 152, 153, 154, 155, 156, 158, 159, 160, 161, 162, 163, 164, 165, 166, 167, 168, 169, 170]), (30, [157]), (29, [157]), (28, [25]), (27, [151]), (24, [6, 7, 19, 118, 119, 120, 121, 122, 123, 124, 125, 126, 127, 128, 129, 130, 131, 132, 133, 134, 139, 140, 141, 142, 143, 144, 145, 146, 147]), (22, [12, 23, 24, 135]), (21, [4, 6, 7, 18, 19, 21, 23, 24, 118, 119, 120, 122, 123, 124, 125, 126, 127, 128, 129, 130, 131, 132, 133, 134, 135, 136, 137, 138, 139, 140, 141, 142, 143, 144, 145]), (17, [121]), (15, [1]), (13, [20, 111, 112, 113, 114, 115, 116, 117]), (12, [105, 108, 109, 110]), (11, [1, 4, 6, 7, 105, 106, 107]), (10, [14, 16, 17, 80, 81, 82, 83, 84, 85, 86, 87, 88, 89, 90, 91, 92, 93, 94, 95, 96, 97, 98, 99, 100, 101, 102, 103, 104]), (9, [15, 55, 56, 57, 58, 59, 60, 61, 62, 63, 64, 65, 66, 67, 68, 69, 70, 71, 72, 73, 74, 75, 76, 77, 78, 79]), (8, [58]), (4, [13, 30, 34, 35, 36, 37, 38, 39, 40, 41, 42, 43, 44, 45, 46, 47, 48, 49, 50, 51, 52, 53, 54]), (3, [1, 4, 6, 7, 13, 30, 31, 32, 33]), (2, [29]), (1, [27, 28]), (0, [0, 2, 3, 12])]
theorem comp74 : compFn Try.prog loc74 (fun i => (fg74.lookup i).getD []) Try.f74 = some lit74 := by kernel_rfl

-- parcener/halve.Bound
def lit75 : AFn := ⟨1, [.tmp 2, .tmp 3],
 (.seq
 (.ops [⟨some 2, (.mv (.c (.int .i64 (0)))), none⟩,
 ⟨some 3, (.mv (.c (.int .i64 (0)))), none⟩]
 [] [2, 3])
 (.seq
 (.seq
 (.ops [⟨some 4, (.mv (.t 0)), none⟩,
 ⟨some 5, (.bin .lss (.t 4) (.c (.int .i64 (1)))), none⟩,
 ⟨some 6, (.mv (.t 5)), none⟩,
 ⟨some 7, (.mv (.t 0)), some (6, false)⟩,
 ⟨some 8, (.bin .gtr (.t 7) (.c (.int .i64 (6)))), some (6, false)⟩,
 ⟨some 9, (.pick (.t 6) (.c (.bool true)) (.t 8)), none⟩]
 [] [4, 5, 6, 7, 8])
 (.cond (.t 9)
 (.seq
 (.ops [⟨some 2, (.mv (.c (.int .i64 (0)))), none⟩,
 ⟨some 3, (.mv (.c (.int .i64 (2)))), none⟩]
 [] [0, 9])
 .ret)
 .skip))
 (.seq
 (.seq
 (.ops [⟨some 10, (.mv (.t 0)), none⟩,
 ⟨some 11, (.bin .eql (.t 10) (.c (.int .i64 (1)))), none⟩]
 [] [9, 10])
 (.cond (.t 11)
 (.seq
 (.ops [⟨some 2, (.mv (.c (.int .i64 (0)))), none⟩,
 ⟨some 3, (.mv (.c (.int .i64 (0)))), none⟩]
 [] [0, 11])
 .ret)
 .skip))
 (.seq
 (.ops [⟨some 12, (.mv (.t 0)), none⟩,
 ⟨some 13, (.mv (.t 0)), none⟩,
 ⟨some 14, (.bin .sub (.t 13) (.c (.int .i64 (1)))), none⟩,
 ⟨some 15, (.conv .u64 (.t 14)), none⟩,
 ⟨some 16, (.call (.f 156) [(.t 15)]), none⟩,
 ⟨some 17, (.bin .mul (.c (.int .i64 (2))) (.t 16)), none⟩,
 ⟨some 18, (.bin .sub (.t 17) (.c (.int .i64 (1)))), none⟩,
 ⟨some 19, (.bin .mul (.t 12) (.t 18)), none⟩,
 ⟨some 2, (.mv (.t 19)), none⟩,
 ⟨some 3, (.mv (.c (.int .i64 (0)))), none⟩]
 [] [0, 11, 12, 13, 14, 15, 16, 17, 18, 19])
 .ret))))⟩
def loc75 : List Nat := []
def fg75 : List (Nat × List Nat) := [(5, [0, 11, 12, 13, 14, 15, 16, 17, 18, 19]), (4, [0, 11]), (3, [9, 10]), (2, [0, 9]), (1, [4, 5, 6, 7, 8]), (0, [2, 3])]
theorem comp75 : compFn Try.prog loc75 (fun i => (fg75.lookup i).getD []) Try.f75 = some lit75 := by kernel_rfl

-- parcener/halve.Run
def lit76 : AFn := ⟨1, [.cell 2 true 1, .tmp 3, .tmp 4],
 (.seq
 (.ops [⟨some 2, (.allocL (.agg [.nils])), none⟩,
 ⟨some 3, (.mv (.c .nils)), none⟩,
 ⟨some 4, (.mv (.c (.int .i64 (0)))), none⟩]
 [] [3, 4])
 (.seq
 (.ops [⟨some 16, (.mv (.t 0)), none⟩,
 ⟨some 17, (.call (.f 88) [(.t 16)]), none⟩,
 ⟨some 15, (.mv (.t 17)), none⟩,
 ⟨some 18, (.ext (.t 15) 0), none⟩,
 ⟨some 19, (.ext (.t 15) 1), none⟩,
 ⟨some 5, (.allocL (.agg [.nils, .nils])), none⟩,
 ⟨none, (.store 2 (.t 5) (.t 18)), none⟩,
 ⟨some 4, (.mv (.t 19)), none⟩]
 [] [15, 16, 17, 18, 19])
 (.seq
 (.seq
 (.ops [⟨some 20, (.mv (.t 4)), none⟩,
 ⟨some 21, (.bin .neq (.t 20) (.c (.int .i64 (0)))), none⟩]
 [] [20])
 (.cond (.t 21)
 (.seq
 (.ops [⟨some 22, (.build [.nils] []), none⟩,
 ⟨some 23, (.mv (.t 4)), none⟩,
 ⟨none, (.store 1 (.t 2) (.t 22)), none⟩,
 ⟨some 3, (.mv (.c .nils)), none⟩,
 ⟨some 4, (.mv (.t 23)), none⟩]
 [] [0, 5, 21, 22, 23])
 .ret)
 .skip))
 (.seq
 (.ops [⟨some 24, (.mv (.t 0)), none⟩,
 ⟨some 25, (.iad 3 (.t 24) (.c (.int .i64 (0)))), none⟩,
 ⟨some 26, (.fad 0 (.t 25)), none⟩,
 ⟨some 27, (.load false 1 (.t 26)), none⟩,
 ⟨some 28, (.call (.f 151) [(.t 27)]), none⟩,
 ⟨some 29, (.call (.f 151) [(.c (.int .i64 (0)))]), none⟩,
 ⟨some 30, (.build [.nils, (.int .i64 (0)), (.int .i64 (0)), (.int .i64 (0)), (.int .i64 (0))] [(3, 2, (.t 28)), (1, 2, (.t 29))]), none⟩,
 ⟨some 6, (.allocL (.agg [.nils, (.int .i64 (0)), (.int .i64 (0)), (.int .i64 (0)), (.int .i64 (0))])), none⟩,
 ⟨none, (.store 5 (.t 6) (.t 30)), none⟩]
 [] [4, 21, 24, 25, 26, 27, 28, 29, 30])
 (.seq
 (.seq
 (.ops [⟨some 31, (.mv (.t 0)), none⟩,
 ⟨some 32, (.len (.t 31)), none⟩,
 ⟨some 33, (.mv (.c (.int .i64 (0)))), none⟩]
 [] [31])
 (.block 0
 (.loop
 (.seq
 (.ops [⟨some 34, (.bin .lss (.t 33) (.t 32)), none⟩]
 [] [])
 (.seq
 (.cond (.t 34)
 .skip
 (.exit 0))
 (.seq
 (.block 1
 (.seq
 (.ops [⟨some 35, (.mv (.t 33)), none⟩,
 ⟨some 7, (.mv (.t 35)), none⟩]
 [] [34])
 (.ops [⟨some 36, (.fad 0 (.t 6)), none⟩,
 ⟨some 37, (.load false 1 (.t 36)), none⟩,
 ⟨some 38, (.mv (.t 7)), none⟩,
 ⟨some 39, (.buildD 1 (.int .i64 (0)) 1 [(0, (.t 38))]), none⟩,
 ⟨some 40, (.app true 1 8 (.t 37) (.t 39)), none⟩,
 ⟨some 41, (.fad 0 (.t 6)), none⟩,
 ⟨none, (.store 1 (.t 41) (.t 40)), none⟩]
 [] [7])))
 (.ops [⟨some 42, (.bin .add (.t 33) (.c (.int .i64 (1)))), none⟩,
 ⟨some 33, (.mv (.t 42)), none⟩]
 [] [])))))))
 (.seq
 (.ops [⟨some 43, (.mv (.t 0)), none⟩,
 ⟨some 44, (.len (.t 43)), none⟩,
 ⟨some 45, (.mkSl true 1 24 (.data []) (.t 44) (.t 44)), none⟩,
 ⟨some 46, (.fad 0 (.t 2)), none⟩,
 ⟨none, (.store 1 (.t 46) (.t 45)), none⟩]
 [] [0, 32, 33, 34, 35, 36, 37, 38, 39, 40, 41, 42, 43, 44, 45, 46])
 (.seq
 (.seq
 (.ops [⟨some 47, (.load true 5 (.t 6)), none⟩,
 ⟨some 48, (.buildSl true 5 (.agg [(.data []), (.int .i64 (0)), (.int .i64 (0)), (.int .i64 (0)), (.int .i64 (0))]) 1 [(0, (.t 47))]), none⟩,
 ⟨some 8, (.mv (.t 48)), none⟩]
 [] [6, 47, 48])
 (.block 2
 (.loop
 (.seq
 (.seq
 (.ops [⟨some 49, (.mv (.t 8)), none⟩,
 ⟨some 50, (.len (.t 49)), none⟩,
 ⟨some 51, (.bin .gtr (.t 50) (.c (.int .i64 (0)))), none⟩]
 [] [])
 (.cond (.t 51)
 .skip
 (.exit 2)))
 (.block 3
 (.seq
 (.ops [⟨some 52, (.mv (.t 8)), none⟩,
 ⟨some 53, (.mv (.t 8)), none⟩,
 ⟨some 54, (.len (.t 53)), none⟩,
 ⟨some 55, (.bin .sub (.t 54) (.c (.int .i64 (1)))), none⟩,
 ⟨some 56, (.iad 5 (.t 52) (.t 55)), none⟩,
 ⟨some 57, (.load true 5 (.t 56)), none⟩,
 ⟨some 9, (.allocL (.agg [.nils, (.int .i64 (0)), (.int .i64 (0)), (.int .i64 (0)), (.int .i64 (0))])), none⟩,
 ⟨none, (.store 5 (.t 9) (.t 57)), none⟩]
 [] [51])
 (.seq
 (.ops [⟨some 58, (.mv (.t 8)), none⟩,
 ⟨some 59, (.mv (.t 8)), none⟩,
 ⟨some 60, (.len (.t 59)), none⟩,
 ⟨some 61, (.bin .sub (.t 60) (.c (.int .i64 (1)))), none⟩,
 ⟨some 62, (.slc 5 (.t 58) none (some (.t 61)) none), none⟩,
 ⟨some 8, (.mv (.t 62)), none⟩]
 [] [])
 (.seq
 (.seq
 (.ops [⟨some 63, (.fad 0 (.t 9)), none⟩,
 ⟨some 64, (.load false 1 (.t 63)), none⟩,
 ⟨some 65, (.len (.t 64)), none⟩,
 ⟨some 66, (.bin .eql (.t 65) (.c (.int .i64 (1)))), none⟩]
 [] [])
 (.cond (.t 66)
 (.seq
 (.ops [⟨some 67, (.fad 0 (.t 2)), none⟩,
 ⟨some 68, (.load false 1 (.t 67)), none⟩,
 ⟨some 69, (.fad 0 (.t 9)), none⟩,
 ⟨some 70, (.load false 1 (.t 69)), none⟩,
 ⟨some 71, (.iad 1 (.t 70) (.c (.int .i64 (0)))), none⟩,
 ⟨some 72, (.load false 1 (.t 71)), none⟩,
 ⟨some 73, (.fad 1 (.t 9)), none⟩,
 ⟨some 74, (.load true 2 (.t 73)), none⟩,
 ⟨some 75, (.fad 3 (.t 9)), none⟩,
 ⟨some 76, (.load true 2 (.t 75)), none⟩,
 ⟨some 77, (.build [(.int .i64 (0)), (.int .i64 (0)), (.int .i64 (0)), (.int .i64 (0))] [(0, 2, (.t 74)), (2, 2, (.t 76))]), none⟩,
 ⟨some 78, (.buildD 4 (.agg [(.int .i64 (0)), (.int .i64 (0)), (.int .i64 (0)), (.int .i64 (0))]) 1 [(0, (.t 77))]), none⟩,
 ⟨some 79, (.iad 1 (.t 68) (.t 72)), none⟩,
 ⟨none, (.store 1 (.t 79) (.t 78)), none⟩]
 [(0, 2), (1, 2), (0, 3), (1, 3), (0, 4), (1, 4), (0, 5), (1, 5), (0, 6), (1, 6), (2, 6), (3, 6), (4, 6), (5, 6), (0, 7), (1, 7), (2, 7), (3, 7), (4, 7), (5, 7), (0, 8), (1, 8), (2, 8), (3, 8), (4, 8), (5, 8), (6, 8), (7, 8), (0, 9), (1, 9), (2, 9), (3, 9), (4, 9), (5, 9), (6, 9), (7, 9), (0, 10), (1, 10), (2, 10), (3, 10), (4, 10), (5, 10), (0, 11), (1, 11), (2, 11), (3, 11), (4, 11), (5, 11)] [66])
 (.exit 3))
 .skip))
 (.seq
 (.ops [⟨some 81, (.load true 2 (.t 5)), none⟩,
 ⟨some 82, (.fad 0 (.t 9)), none⟩,
 ⟨some 83, (.load false 1 (.t 82)), none⟩,
 ⟨some 84, (.fad 1 (.t 9)), none⟩,
 ⟨some 85, (.load true 2 (.t 84)), none⟩,
 ⟨some 86, (.fad 3 (.t 9)), none⟩,
 ⟨some 87, (.load true 2 (.t 86)), none⟩,
 ⟨some 88, (.call (.f 74) [(.t 81), (.t 83), (.t 85), (.t 87)]), none⟩,
 ⟨some 80, (.mv (.t 88)), none⟩,
 ⟨some 89, (.ext (.t 80) 0), none⟩,
 ⟨some 90, (.ext (.t 80) 1), none⟩,
 ⟨some 91, (.ext (.t 80) 2), none⟩,
 ⟨some 92, (.ext (.t 80) 3), none⟩,
 ⟨some 93, (.ext (.t 80) 4), none⟩,
 ⟨some 10, (.allocL (.agg [.nils, .nils])), none⟩,
 ⟨some 11, (.allocL (.agg [(.int .i64 (0)), (.int .i64 (0))])), none⟩,
 ⟨none, (.store 2 (.t 10) (.t 89)), none⟩,
 ⟨none, (.store 2 (.t 11) (.t 90)), none⟩,
 ⟨some 12, (.mv (.t 91)), none⟩,
 ⟨some 13, (.mv (.t 92)), none⟩,
 ⟨some 14, (.mv (.t 93)), none⟩]
 [] [66])
 (.seq
 (.seq
 (.ops [⟨some 94, (.mv (.t 14)), none⟩,
 ⟨some 95, (.bin .neq (.t 94) (.c (.int .i64 (0)))), none⟩]
 [] [])
 (.cond (.t 95)
 (.seq
 (.ops [⟨some 96, (.build [.nils] []), none⟩,
 ⟨some 97, (.mv (.t 14)), none⟩,
 ⟨none, (.store 1 (.t 2) (.t 96)), none⟩,
 ⟨some 3, (.mv (.c .nils)), none⟩,
 ⟨some 4, (.mv (.t 97)), none⟩]
 [] [5, 8, 9, 10, 11, 12, 13, 14, 49, 50, 52, 53, 54, 55, 56, 57, 58, 59, 60, 61, 62, 63, 64, 65, 67, 68, 69, 70, 71, 72, 73, 74, 75, 76, 77, 78, 79, 80, 81, 82, 83, 84, 85, 86, 87, 88, 89, 90, 91, 92, 93, 94, 95, 96, 97, 98, 99, 100, 101, 102, 103, 104, 105, 106, 107, 108, 109, 110, 111])
 .ret)
 .skip))
 (.seq
 (.ops [⟨some 98, (.load true 2 (.t 10)), none⟩,
 ⟨none, (.store 2 (.t 5) (.t 98)), none⟩]
 [] [14, 95])
 (.ops [⟨some 99, (.mv (.t 8)), none⟩,
 ⟨some 100, (.mv (.t 13)), none⟩,
 ⟨some 101, (.load true 2 (.t 11)), none⟩,
 ⟨some 102, (.fad 3 (.t 9)), none⟩,
 ⟨some 103, (.load true 2 (.t 102)), none⟩,
 ⟨some 104, (.build [.nils, (.int .i64 (0)), (.int .i64 (0)), (.int .i64 (0)), (.int .i64 (0))] [(0, 1, (.t 100)), (1, 2, (.t 101)), (3, 2, (.t 103))]), none⟩,
 ⟨some 105, (.mv (.t 12)), none⟩,
 ⟨some 106, (.fad 1 (.t 9)), none⟩,
 ⟨some 107, (.load true 2 (.t 106)), none⟩,
 ⟨some 108, (.load true 2 (.t 11)), none⟩,
 ⟨some 109, (.build [.nils, (.int .i64 (0)), (.int .i64 (0)), (.int .i64 (0)), (.int .i64 (0))] [(0, 1, (.t 105)), (1, 2, (.t 107)), (3, 2, (.t 108))]), none⟩,
 ⟨some 110, (.buildD 5 (.agg [(.data []), (.int .i64 (0)), (.int .i64 (0)), (.int .i64 (0)), (.int .i64 (0))]) 2 [(0, (.t 104)), (1, (.t 109))]), none⟩,
 ⟨some 111, (.app true 5 56 (.t 99) (.t 110)), none⟩,
 ⟨some 8, (.mv (.t 111)), none⟩]
 [] [12, 13]))))))))))))
 (.seq
 (.ops [⟨some 112, (.load true 1 (.t 2)), none⟩,
 ⟨some 113, (.fad 1 (.t 5)), none⟩,
 ⟨some 114, (.load false 1 (.t 113)), none⟩,
 ⟨none, (.store 1 (.t 2) (.t 112)), none⟩,
 ⟨some 3, (.mv (.t 114)), none⟩,
 ⟨some 4, (.mv (.c (.int .i64 (0)))), none⟩]
 [(0, 1), (0, 2), (1, 3), (2, 3)] [5, 8, 9, 10, 11, 49, 50, 51, 52, 53, 54, 55, 56, 57, 58, 59, 60, 61, 62, 63, 64, 65, 67, 68, 69, 70, 71, 72, 73, 74, 75, 76, 77, 78, 79, 80, 81, 82, 83, 84, 85, 86, 87, 88, 89, 90, 91, 92, 93, 94, 98, 99, 100, 101, 102, 103, 104, 105, 106, 107, 108, 109, 110, 111, 112, 113, 114])
 .ret))))))))⟩
def loc76 : List Nat := [39, 78, 110, 2, 5, 6, 9, 10, 11]
def fg76 : List (Nat × List Nat) := [(22, [5, 8, 9, 10, 11, 49, 50, 51, 52, 53, 54, 55, 56, 57, 58, 59, 60, 61, 62, 63, 64, 65, 67, 68, 69, 70, 71, 72, 73, 74, 75, 76, 77, 78, 79, 80, 81, 82, 83, 84, 85, 86, 87, 88, 89, 90, 91, 92, 93, 94, 98, 99, 100, 101, 102, 103, 104, 105, 106, 107, 108, 109, 110, 111, 112, 113, 114]), (21, [12, 13]), (20, [14, 95]), (19, [5, 8, 9, 10, 11, 12, 13, 14, 49, 50, 52, 53, 54, 55, 56, 57, 58, 59, 60, 61, 62, 63, 64, 65, 67, 68, 69, 70, 71, 72, 73, 74, 75, 76, 77, 78, 79, 80, 81, 82, 83, 84, 85, 86, 87, 88, 89, 90, 91, 92, 93, 94, 95, 96, 97, 98, 99, 100, 101, 102, 103, 104, 105, 106, 107, 108, 109, 110, 111]), (17, [66]), (16, [66]), (13, [51]), (11, [6, 47, 48]), (10, [0, 32, 33, 34, 35, 36, 37, 38, 39, 40, 41, 42, 43, 44, 45, 46]), (8, [7]), (7, [34]), (5, [31]), (4, [4, 21, 24, 25, 26, 27, 28, 29, 30]), (3, [0, 5, 21, 22, 23]), (2, [20]), (1, [15, 16, 17, 18, 19]), (0, [3, 4])]
theorem comp76 : compFn Try.prog loc76 (fun i => (fg76.lookup i).getD []) Try.f76 = some lit76 := by kernel_rfl

-- parcener/parcenerlaw09.between
def lit77 : AFn := ⟨2, [.tmp 4],
 (.seq
 (.ops [⟨some 2, (.boxL (.t 0)), none⟩,
 ⟨some 3, (.boxL (.t 1)), none⟩,
 ⟨some 4, (.mv (.c .nils)), none⟩]
 [] [0, 1, 4])
 (.seq
 (.ops [⟨some 5, (.load true 2 (.t 2)), none⟩,
 ⟨some 6, (.load true 2 (.t 3)), none⟩,
 ⟨some 7, (.build [(.int .i64 (0)), (.int .i64 (0)), (.int .i64 (0)), (.int .i64 (0))] [(0, 2, (.t 5)), (2, 2, (.t 6))]), none⟩,
 ⟨some 8, (.buildSl true 4 (.agg [(.int .i64 (0)), (.int .i64 (0)), (.int .i64 (0)), (.int .i64 (0))]) 1 [(0, (.t 7))]), none⟩,
 ⟨some 4, (.mv (.t 8)), none⟩]
 [] [2, 3, 5, 6, 7, 8])
 .ret))⟩
def loc77 : List Nat := [2, 3]
def fg77 : List (Nat × List Nat) := [(1, [2, 3, 5, 6, 7, 8]), (0, [0, 1, 4])]
theorem comp77 : compFn Try.prog loc77 (fun i => (fg77.lookup i).getD []) Try.f77 = some lit77 := by kernel_rfl

-- parcener/parcenerlaw09.alive
def lit78 : AFn := ⟨0, [.tmp 0],
 (.seq
 (.ops [⟨some 0, (.mv (.c (.bool false))), none⟩]
 [] [0])
 (.seq
 (.ops [⟨some 15, (.call (.f 22) [(.c (.int .i64 (0)))]), none⟩,
 ⟨some 16, (.build [(.int .i64 (0)), (.int .i64 (0))] [(0, 1, (.c (.int .i64 (2)))), (1, 1, (.c (.int .i64 (3))))]), none⟩,
 ⟨some 17, (.build [(.int .i64 (0)), (.int .i64 (0))] [(0, 1, (.c (.int .i64 (10)))), (1, 1, (.c (.int .i64 (3))))]), none⟩,
 ⟨some 18, (.call (.f 22) [(.c (.int .i64 (6)))]), none⟩,
 ⟨some 1, (.allocL (.agg [(.int .i64 (0)), (.int .i64 (0))])), none⟩,
 ⟨some 2, (.allocL (.agg [(.int .i64 (0)), (.int .i64 (0))])), none⟩,
 ⟨some 3, (.allocL (.agg [(.int .i64 (0)), (.int .i64 (0))])), none⟩,
 ⟨some 4, (.allocL (.agg [(.int .i64 (0)), (.int .i64 (0))])), none⟩,
 ⟨none, (.store 2 (.t 1) (.t 15)), none⟩,
 ⟨none, (.store 2 (.t 2) (.t 16)), none⟩,
 ⟨none, (.store 2 (.t 3) (.t 17)), none⟩,
 ⟨none, (.store 2 (.t 4) (.t 18)), none⟩]
 [] [15, 16, 17, 18])
 (.seq
 (.ops [⟨some 20, (.call (.f 73) []), none⟩,
 ⟨some 21, (.call (.f 76) [(.t 20)]), none⟩,
 ⟨some 19, (.mv (.t 21)), none⟩,
 ⟨some 22, (.ext (.t 19) 0), none⟩,
 ⟨some 23, (.ext (.t 19) 1), none⟩,
 ⟨some 24, (.ext (.t 19) 2), none⟩,
 ⟨some 5, (.allocL (.agg [.nils])), none⟩,
 ⟨none, (.store 1 (.t 5) (.t 22)), none⟩,
 ⟨some 6, (.mv (.t 23)), none⟩,
 ⟨some 7, (.mv (.t 24)), none⟩]
 [] [19, 20, 21, 22, 23, 24])
 (.seq
 (.ops [⟨some 26, (.call (.f 73) []), none⟩,
 ⟨some 27, (.build [.nils, .nils] [(0, 1, (.t 26))]), none⟩,
 ⟨some 28, (.buildD 1 (.int .i64 (0)) 3 [(0, (.c (.int .i64 (0)))), (1, (.c (.int .i64 (1)))), (2, (.c (.int .i64 (2))))]), none⟩,
 ⟨some 29, (.load true 2 (.t 1)), none⟩,
 ⟨some 30, (.load true 2 (.t 4)), none⟩,
 ⟨some 31, (.call (.f 74) [(.t 27), (.t 28), (.t 29), (.t 30)]), none⟩,
 ⟨some 25, (.mv (.t 31)), none⟩,
 ⟨some 32, (.ext (.t 25) 0), none⟩,
 ⟨some 33, (.ext (.t 25) 1), none⟩,
 ⟨some 34, (.ext (.t 25) 2), none⟩,
 ⟨some 35, (.ext (.t 25) 3), none⟩,
 ⟨some 36, (.ext (.t 25) 4), none⟩,
 ⟨some 8, (.allocL (.agg [.nils, .nils])), none⟩,
 ⟨some 9, (.allocL (.agg [(.int .i64 (0)), (.int .i64 (0))])), none⟩,
 ⟨none, (.store 2 (.t 8) (.t 32)), none⟩,
 ⟨none, (.store 2 (.t 9) (.t 33)), none⟩,
 ⟨some 10, (.mv (.t 34)), none⟩,
 ⟨some 11, (.mv (.t 35)), none⟩,
 ⟨some 12, (.mv (.t 36)), none⟩]
 [(0, 2), (1, 2), (0, 3), (1, 3), (2, 3), (0, 4), (1, 4), (2, 4), (3, 4), (7, 8), (7, 9), (8, 9), (7, 10), (8, 10), (9, 10), (7, 11), (8, 11), (9, 11), (10, 11), (0, 12), (1, 12), (2, 12), (3, 12), (4, 12), (5, 12), (6, 12), (7, 12), (8, 12), (9, 12), (10, 12), (11, 12), (0, 13), (1, 13), (2, 13), (3, 13), (4, 13), (5, 13), (6, 13), (7, 13), (8, 13), (9, 13), (10, 13), (11, 13), (12, 13), (8, 14), (9, 14), (10, 14), (11, 14), (9, 15), (10, 15), (11, 15), (10, 16), (11, 16), (11, 17)] [8, 25, 26, 27, 28, 29, 30, 31, 32, 33, 34, 35, 36])
 (.seq
 (.ops [⟨some 38, (.call (.f 75) [(.c (.int .i64 (3)))]), none⟩,
 ⟨some 37, (.mv (.t 38)), none⟩,
 ⟨some 39, (.ext (.t 37) 0), none⟩,
 ⟨some 40, (.ext (.t 37) 1), none⟩,
 ⟨some 13, (.mv (.t 39)), none⟩,
 ⟨some 14, (.mv (.t 40)), none⟩]
 [] [37, 38, 39, 40])
 (.seq
 (.ops [⟨some 41, (.mv (.t 7)), none⟩,
 ⟨some 42, (.bin .eql (.t 41) (.c (.int .i64 (0)))), none⟩,
 ⟨some 43, (.mv (.t 42)), none⟩,
 ⟨some 44, (.load true 1 (.t 5)), some (43, true)⟩,
 ⟨some 45, (.load true 2 (.t 2)), some (43, true)⟩,
 ⟨some 46, (.load true 2 (.t 3)), some (43, true)⟩,
 ⟨some 47, (.call (.f 77) [(.t 45), (.t 46)]), some (43, true)⟩,
 ⟨some 48, (.load true 2 (.t 3)), some (43, true)⟩,
 ⟨some 49, (.load true 2 (.t 4)), some (43, true)⟩,
 ⟨some 50, (.call (.f 77) [(.t 48), (.t 49)]), some (43, true)⟩,
 ⟨some 51, (.load true 2 (.t 1)), some (43, true)⟩,
 ⟨some 52, (.load true 2 (.t 2)), some (43, true)⟩,
 ⟨some 53, (.call (.f 77) [(.t 51), (.t 52)]), some (43, true)⟩,
 ⟨some 54, (.buildD 1 (.data []) 3 [(0, (.t 47)), (1, (.t 50)), (2, (.t 53))]), some (43, true)⟩,
 ⟨some 55, (.build [.nils] [(0, 1, (.t 54))]), some (43, true)⟩,
 ⟨some 56, (.call (.f 58) [(.t 44), (.t 55)]), some (43, true)⟩,
 ⟨some 57, (.pick (.t 43) (.t 56) (.c (.bool false))), none⟩,
 ⟨some 58, (.mv (.t 57)), none⟩,
 ⟨some 59, (.mv (.t 6)), some (58, true)⟩,
 ⟨some 60, (.len (.t 59)), some (58, true)⟩,
 ⟨some 61, (.bin .eql (.t 60) (.c (.int .i64 (7)))), some (58, true)⟩,
 ⟨some 62, (.pick (.t 58) (.t 61) (.c (.bool false))), none⟩,
 ⟨some 63, (.mv (.t 62)), none⟩,
 ⟨some 64, (.mv (.t 12)), some (63, true)⟩,
 ⟨some 65, (.bin .eql (.t 64) (.c (.int .i64 (0)))), some (63, true)⟩,
 ⟨some 66, (.pick (.t 63) (.t 65) (.c (.bool false))), none⟩,
 ⟨some 67, (.mv (.t 66)), none⟩,
 ⟨some 68, (.load true 2 (.t 9)), some (67, true)⟩,
 ⟨some 69, (.load true 2 (.t 2)), some (67, true)⟩,
 ⟨some 70, (.eqA false 2 [(0, (some .i64)), (1, (some .i64))] (.t 68) (.t 69)), some (67, true)⟩,
 ⟨some 71, (.pick (.t 67) (.t 70) (.c (.bool false))), none⟩,
 ⟨some 72, (.mv (.t 71)), none⟩,
 ⟨some 73, (.mv (.t 10)), some (72, true)⟩,
 ⟨some 74, (.buildD 1 (.int .i64 (0)) 1 [(0, (.c (.int .i64 (2))))]), some (72, true)⟩,
 ⟨some 75, (.call (.f 15) [(.t 73), (.t 74)]), some (72, true)⟩,
 ⟨some 76, (.pick (.t 72) (.t 75) (.c (.bool false))), none⟩,
 ⟨some 77, (.mv (.t 76)), none⟩,
 ⟨some 78, (.mv (.t 11)), some (77, true)⟩,
 ⟨some 79, (.buildD 1 (.int .i64 (0)) 2 [(0, (.c (.int .i64 (0)))), (1, (.c (.int .i64 (1))))]), some (77, true)⟩,
 ⟨some 80, (.call (.f 15) [(.t 78), (.t 79)]), some (77, true)⟩,
 ⟨some 81, (.pick (.t 77) (.t 80) (.c (.bool false))), none⟩,
 ⟨some 82, (.mv (.t 81)), none⟩,
 ⟨some 83, (.mv (.t 14)), some (82, true)⟩,
 ⟨some 84, (.bin .eql (.t 83) (.c (.int .i64 (0)))), some (82, true)⟩,
 ⟨some 85, (.pick (.t 82) (.t 84) (.c (.bool false))), none⟩,
 ⟨some 86, (.mv (.t 85)), none⟩,
 ⟨some 87, (.mv (.t 13)), some (86, true)⟩,
 ⟨some 88, (.bin .eql (.t 87) (.c (.int .i64 (9)))), some (86, true)⟩,
 ⟨some 89, (.pick (.t 86) (.t 88) (.c (.bool false))), none⟩,
 ⟨some 0, (.mv (.t 89)), none⟩]
 [(3, 4), (3, 5), (4, 5), (3, 6), (3, 7), (4, 7), (5, 7), (6, 7), (3, 8), (4, 8), (5, 8), (6, 8), (7, 8), (3, 9), (3, 10), (4, 10), (5, 10), (6, 10), (7, 10), (8, 10), (9, 10), (3, 11), (4, 11), (5, 11), (6, 11), (7, 11), (8, 11), (9, 11), (10, 11), (3, 12), (3, 13), (3, 14), (27, 28), (32, 33), (37, 38)] [1, 2, 3, 4, 5, 6, 7, 9, 10, 11, 12, 13, 14, 41, 42, 43, 44, 45, 46, 47, 48, 49, 50, 51, 52, 53, 54, 55, 56, 57, 58, 59, 60, 61, 62, 63, 64, 65, 66, 67, 68, 69, 70, 71, 72, 73, 74, 75, 76, 77, 78, 79, 80, 81, 82, 83, 84, 85, 86, 87, 88, 89])
 .ret))))))⟩
def loc78 : List Nat := [28, 54, 74, 79, 1, 2, 3, 4, 5, 8, 9]
def fg78 : List (Nat × List Nat) := [(5, [1, 2, 3, 4, 5, 6, 7, 9, 10, 11, 12, 13, 14, 41, 42, 43, 44, 45, 46, 47, 48, 49, 50, 51, 52, 53, 54, 55, 56, 57, 58, 59, 60, 61, 62, 63, 64, 65, 66, 67, 68, 69, 70, 71, 72, 73, 74, 75, 76, 77, 78, 79, 80, 81, 82, 83, 84, 85, 86, 87, 88, 89]), (4, [37, 38, 39, 40]), (3, [8, 25, 26, 27, 28, 29, 30, 31, 32, 33, 34, 35, 36]), (2, [19, 20, 21, 22, 23, 24]), (1, [15, 16, 17, 18]), (0, [0])]
theorem comp78 : compFn Try.prog loc78 (fun i => (fg78.lookup i).getD []) Try.f78 = some lit78 := by kernel_rfl

-- parcener/ask.Check
def lit79 : AFn := ⟨1, [.tmp 2],
 (.seq
 (.ops [⟨some 1, (.boxL (.t 0)), none⟩,
 ⟨some 2, (.mv (.c (.int .i64 (0)))), none⟩]
 [] [0, 2])
 (.seq
 (.seq
 (.ops [⟨some 8, (.fad 0 (.t 1)), none⟩,
 ⟨some 9, (.load false 1 (.t 8)), none⟩,
 ⟨some 10, (.len (.t 9)), none⟩,
 ⟨some 11, (.bin .gtr (.t 10) (.c (.int .i64 (6)))), none⟩,
 ⟨some 12, (.mv (.t 11)), none⟩,
 ⟨some 13, (.fad 1 (.t 1)), some (12, false)⟩,
 ⟨some 14, (.load false 1 (.t 13)), some (12, false)⟩,
 ⟨some 15, (.len (.t 14)), some (12, false)⟩,
 ⟨some 16, (.bin .gtr (.t 15) (.c (.int .i64 (2000)))), some (12, false)⟩,
 ⟨some 17, (.pick (.t 12) (.c (.bool true)) (.t 16)), none⟩]
 [] [8, 9, 10, 11, 12, 13, 14, 15, 16])
 (.cond (.t 17)
 (.seq
 (.ops [⟨some 2, (.mv (.c (.int .i64 (4)))), none⟩]
 [] [1, 17])
 .ret)
 .skip))
 (.seq
 (.seq
 (.ops [⟨some 18, (.fad 0 (.t 1)), none⟩,
 ⟨some 19, (.load false 1 (.t 18)), none⟩,
 ⟨some 20, (.len (.t 19)), none⟩,
 ⟨some 21, (.bin .eql (.t 20) (.c (.int .i64 (0)))), none⟩]
 [] [17, 18, 19, 20])
 (.cond (.t 21)
 (.seq
 (.ops [⟨some 2, (.mv (.c (.int .i64 (8)))), none⟩]
 [] [1, 21])
 .ret)
 .skip))
 (.seq
 (.seq
 (.ops [⟨some 22, (.fad 0 (.t 1)), none⟩,
 ⟨some 23, (.load false 1 (.t 22)), none⟩,
 ⟨some 24, (.len (.t 23)), none⟩,
 ⟨some 25, (.mv (.c (.int .i64 (0)))), none⟩]
 [] [21, 22])
 (.block 0
 (.loop
 (.seq
 (.ops [⟨some 26, (.bin .lss (.t 25) (.t 24)), none⟩]
 [] [])
 (.seq
 (.cond (.t 26)
 .skip
 (.exit 0))
 (.seq
 (.block 1
 (.seq
 (.ops [⟨some 27, (.iad 3 (.t 23) (.t 25)), none⟩,
 ⟨some 28, (.load true 3 (.t 27)), none⟩,
 ⟨some 4, (.allocL (.agg [(.int .i64 (0)), .nils, .nils])), none⟩,
 ⟨none, (.store 3 (.t 4) (.t 28)), none⟩]
 [] [26])
 (.seq
 (.ops [⟨some 29, (.load true 3 (.t 4)), none⟩,
 ⟨some 30, (.call (.f 92) [(.t 29)]), none⟩,
 ⟨some 5, (.mv (.t 30)), none⟩]
 [] [])
 (.seq
 (.ops [⟨some 31, (.mv (.t 5)), none⟩,
 ⟨some 32, (.bin .neq (.t 31) (.c (.int .i64 (0)))), none⟩]
 [] [])
 (.cond (.t 32)
 (.seq
 (.ops [⟨some 33, (.mv (.t 5)), none⟩,
 ⟨some 2, (.mv (.t 33)), none⟩]
 [] [1, 4, 5, 23, 24, 25, 27, 28, 29, 30, 31, 32, 33, 34])
 .ret)
 .skip)))))
 (.ops [⟨some 34, (.bin .add (.t 25) (.c (.int .i64 (1)))), none⟩,
 ⟨some 25, (.mv (.t 34)), none⟩]
 [] [5, 32])))))))
 (.seq
 (.seq
 (.ops [⟨some 35, (.fad 0 (.t 1)), none⟩,
 ⟨some 36, (.load false 1 (.t 35)), none⟩,
 ⟨some 37, (.len (.t 36)), none⟩,
 ⟨some 38, (.mv (.c (.int .i64 (0)))), none⟩]
 [] [4, 23, 24, 25, 26, 27, 28, 29, 30, 31, 34, 35])
 (.block 2
 (.loop
 (.seq
 (.ops [⟨some 39, (.bin .lss (.t 38) (.t 37)), none⟩]
 [] [])
 (.seq
 (.cond (.t 39)
 .skip
 (.exit 2))
 (.seq
 (.block 3
 (.seq
 (.ops [⟨some 40, (.iad 3 (.t 36) (.t 38)), none⟩,
 ⟨some 41, (.load true 3 (.t 40)), none⟩,
 ⟨some 7, (.allocL (.agg [(.int .i64 (0)), .nils, .nils])), none⟩,
 ⟨none, (.store 3 (.t 7) (.t 41)), none⟩]
 [] [39])
 (.seq
 (.ops [⟨some 42, (.fad 0 (.t 7)), none⟩,
 ⟨some 43, (.load false 1 (.t 42)), none⟩,
 ⟨some 44, (.fad 0 (.t 1)), none⟩,
 ⟨some 45, (.load false 1 (.t 44)), none⟩,
 ⟨some 46, (.iad 3 (.t 45) (.c (.int .i64 (0)))), none⟩,
 ⟨some 47, (.fad 0 (.t 46)), none⟩,
 ⟨some 48, (.load false 1 (.t 47)), none⟩,
 ⟨some 49, (.bin .neq (.t 43) (.t 48)), none⟩]
 [(0, 2), (1, 2), (0, 3), (1, 3), (0, 4), (1, 4), (0, 5), (1, 5), (0, 6), (1, 6)] [])
 (.cond (.t 49)
 (.seq
 (.ops [⟨some 2, (.mv (.c (.int .i64 (8)))), none⟩]
 [] [1, 7, 36, 37, 38, 40, 41, 42, 43, 44, 45, 46, 47, 48, 49, 50])
 .ret)
 .skip))))
 (.ops [⟨some 50, (.bin .add (.t 38) (.c (.int .i64 (1)))), none⟩,
 ⟨some 38, (.mv (.t 50)), none⟩]
 [] [49])))))))
 (.seq
 (.ops [⟨some 2, (.mv (.c (.int .i64 (0)))), none⟩]
 [] [1, 7, 36, 37, 38, 39, 40, 41, 42, 43, 44, 45, 46, 47, 48, 50])
 .ret))))))⟩
def loc79 : List Nat := [1, 4, 7]
def fg79 : List (Nat × List Nat) := [(18, [1, 7, 36, 37, 38, 39, 40, 41, 42, 43, 44, 45, 46, 47, 48, 50]), (17, [49]), (16, [1, 7, 36, 37, 38, 40, 41, 42, 43, 44, 45, 46, 47, 48, 49, 50]), (14, [39]), (12, [4, 23, 24, 25, 26, 27, 28, 29, 30, 31, 34, 35]), (11, [5, 32]), (10, [1, 4, 5, 23, 24, 25, 27, 28, 29, 30, 31, 32, 33, 34]), (7, [26]), (5, [21, 22]), (4, [1, 21]), (3, [17, 18, 19, 20]), (2, [1, 17]), (1, [8, 9, 10, 11, 12, 13, 14, 15, 16]), (0, [0, 2])]
theorem comp79 : compFn Try.prog loc79 (fun i => (fg79.lookup i).getD []) Try.f79 = some lit79 := by kernel_rfl

-- parcener/ratio.Sub
def lit84 : AFn := ⟨2, [.cell 4 true 2, .tmp 5],
 (.seq
 (.ops [⟨some 2, (.boxL (.t 0)), none⟩,
 ⟨some 3, (.boxL (.t 1)), none⟩,
 ⟨some 4, (.allocL (.agg [(.int .i64 (0)), (.int .i64 (0))])), none⟩,
 ⟨some 5, (.mv (.c (.int .i64 (0)))), none⟩]
 [] [0, 1, 5])
 (.seq
 (.seq
 (.ops [⟨some 7, (.load true 2 (.t 2)), none⟩,
 ⟨some 8, (.load true 2 (.t 3)), none⟩,
 ⟨some 9, (.call (.f 157) [(.t 7), (.t 8)]), none⟩,
 ⟨some 6, (.mv (.t 9)), none⟩]
 [] [7, 8, 9])
 (.seq
 (.ops [⟨some 10, (.mv (.t 6)), none⟩,
 ⟨some 11, (.bin .neq (.t 10) (.c (.int .i64 (0)))), none⟩]
 [] [10])
 (.cond (.t 11)
 (.seq
 (.ops [⟨some 12, (.build [(.int .i64 (0)), (.int .i64 (0))] []), none⟩,
 ⟨some 13, (.mv (.t 6)), none⟩,
 ⟨none, (.store 2 (.t 4) (.t 12)), none⟩,
 ⟨some 5, (.mv (.t 13)), none⟩]
 [] [2, 3, 6, 11, 12, 13])
 .ret)
 .skip)))
 (.seq
 (.ops [⟨some 14, (.fad 0 (.t 3)), none⟩,
 ⟨some 15, (.load false 1 (.t 14)), none⟩,
 ⟨some 16, (.un .neg (.t 15)), none⟩,
 ⟨some 17, (.fad 0 (.t 3)), none⟩,
 ⟨none, (.store 1 (.t 17) (.t 16)), none⟩]
 [] [6, 11, 14, 15, 16, 17])
 (.seq
 (.ops [⟨some 18, (.load true 2 (.t 2)), none⟩,
 ⟨some 19, (.load true 2 (.t 3)), none⟩,
 ⟨some 20, (.call (.f 87) [(.t 18), (.t 19)]), none⟩,
 ⟨some 21, (.ext (.t 20) 0), none⟩,
 ⟨some 22, (.ext (.t 20) 1), none⟩,
 ⟨none, (.store 2 (.t 4) (.t 21)), none⟩,
 ⟨some 5, (.mv (.t 22)), none⟩]
 [] [2, 3, 18, 19, 20, 21, 22])
 .ret))))⟩
def loc84 : List Nat := [2, 3, 4]
def fg84 : List (Nat × List Nat) := [(5, [2, 3, 18, 19, 20, 21, 22]), (4, [6, 11, 14, 15, 16, 17]), (3, [2, 3, 6, 11, 12, 13]), (2, [10]), (1, [7, 8, 9]), (0, [0, 1, 5])]
theorem comp84 : compFn Try.prog loc84 (fun i => (fg84.lookup i).getD []) Try.f84 = some lit84 := by kernel_rfl

-- parcener/ratio.Div
def lit85 : AFn := ⟨2, [.cell 4 true 2, .tmp 5],
 (.seq
 (.ops [⟨some 2, (.boxL (.t 0)), none⟩,
 ⟨some 3, (.boxL (.t 1)), none⟩,
 ⟨some 4, (.allocL (.agg [(.int .i64 (0)), (.int .i64 (0))])), none⟩,
 ⟨some 5, (.mv (.c (.int .i64 (0)))), none⟩]
 [] [0, 1, 5])
 (.seq
 (.seq
 (.ops [⟨some 7, (.load true 2 (.t 2)), none⟩,
 ⟨some 8, (.load true 2 (.t 3)), none⟩,
 ⟨some 9, (.call (.f 157) [(.t 7), (.t 8)]), none⟩,
 ⟨some 6, (.mv (.t 9)), none⟩]
 [] [7, 8, 9])
 (.seq
 (.ops [⟨some 10, (.mv (.t 6)), none⟩,
 ⟨some 11, (.bin .neq (.t 10) (.c (.int .i64 (0)))), none⟩]
 [] [10])
 (.cond (.t 11)
 (.seq
 (.ops [⟨some 12, (.build [(.int .i64 (0)), (.int .i64 (0))] []), none⟩,
 ⟨some 13, (.mv (.t 6)), none⟩,
 ⟨none, (.store 2 (.t 4) (.t 12)), none⟩,
 ⟨some 5, (.mv (.t 13)), none⟩]
 [] [2, 3, 6, 11, 12, 13])
 .ret)
 .skip)))
 (.seq
 (.block 0
 (.seq
 (.ops [⟨some 15, (.fad 0 (.t 3)), none⟩,
 ⟨some 16, (.load false 1 (.t 15)), none⟩,
 ⟨some 17, (.bin .eql (.t 16) (.c (.int .i64 (0)))), none⟩,
 ⟨some 14, (.mv (.t 17)), none⟩]
 [] [6, 11, 15, 16, 17])
 (.cond (.t 14)
 (.seq
 (.ops [⟨some 18, (.build [(.int .i64 (0)), (.int .i64 (0))] []), none⟩,
 ⟨none, (.store 2 (.t 4) (.t 18)), none⟩,
 ⟨some 5, (.mv (.c (.int .i64 (18)))), none⟩]
 [] [2, 3, 14, 18])
 .ret)
 (.seq
 (.ops [⟨some 20, (.fad 0 (.t 3)), none⟩,
 ⟨some 21, (.load false 1 (.t 20)), none⟩,
 ⟨some 22, (.bin .lss (.t 21) (.c (.int .i64 (0)))), none⟩,
 ⟨some 19, (.mv (.t 22)), none⟩]
 [] [14, 20, 21, 22])
 (.cond (.t 19)
 (.seq
 (.ops [⟨some 23, (.load true 2 (.t 2)), none⟩,
 ⟨some 24, (.fad 1 (.t 3)), none⟩,
 ⟨some 25, (.load false 1 (.t 24)), none⟩,
 ⟨some 26, (.un .neg (.t 25)), none⟩,
 ⟨some 27, (.fad 0 (.t 3)), none⟩,
 ⟨some 28, (.load false 1 (.t 27)), none⟩,
 ⟨some 29, (.un .neg (.t 28)), none⟩,
 ⟨some 30, (.build [(.int .i64 (0)), (.int .i64 (0))] [(0, 1, (.t 26)), (1, 1, (.t 29))]), none⟩,
 ⟨some 31, (.call (.f 86) [(.t 23), (.t 30)]), none⟩,
 ⟨some 32, (.ext (.t 31) 0), none⟩,
 ⟨some 33, (.ext (.t 31) 1), none⟩,
 ⟨none, (.store 2 (.t 4) (.t 32)), none⟩,
 ⟨some 5, (.mv (.t 33)), none⟩]
 [] [2, 3, 19, 23, 24, 25, 26, 27, 28, 29, 30, 31, 32, 33])
 .ret)
 .skip)))))
 (.seq
 (.ops [⟨some 34, (.load true 2 (.t 2)), none⟩,
 ⟨some 35, (.fad 1 (.t 3)), none⟩,
 ⟨some 36, (.load false 1 (.t 35)), none⟩,
 ⟨some 37, (.fad 0 (.t 3)), none⟩,
 ⟨some 38, (.load false 1 (.t 37)), none⟩,
 ⟨some 39, (.build [(.int .i64 (0)), (.int .i64 (0))] [(0, 1, (.t 36)), (1, 1, (.t 38))]), none⟩,
 ⟨some 40, (.call (.f 86) [(.t 34), (.t 39)]), none⟩,
 ⟨some 41, (.ext (.t 40) 0), none⟩,
 ⟨some 42, (.ext (.t 40) 1), none⟩,
 ⟨none, (.store 2 (.t 4) (.t 41)), none⟩,
 ⟨some 5, (.mv (.t 42)), none⟩]
 [] [2, 3, 19, 34, 35, 36, 37, 38, 39, 40, 41, 42])
 .ret))))⟩
def loc85 : List Nat := [2, 3, 4]
def fg85 : List (Nat × List Nat) := [(8, [2, 3, 19, 34, 35, 36, 37, 38, 39, 40, 41, 42]), (7, [2, 3, 19, 23, 24, 25, 26, 27, 28, 29, 30, 31, 32, 33]), (6, [14, 20, 21, 22]), (5, [2, 3, 14, 18]), (4, [6, 11, 15, 16, 17]), (3, [2, 3, 6, 11, 12, 13]), (2, [10]), (1, [7, 8, 9]), (0, [0, 1, 5])]
theorem comp85 : compFn Try.prog loc85 (fun i => (fg85.lookup i).getD []) Try.f85 = some lit85 := by kernel_rfl

-- parcener/ratio.Mul
def lit86 : AFn := ⟨2, [.cell 4 true 2, .tmp 5],
 (.seq
 (.ops [⟨some 2, (.boxL (.t 0)), none⟩,
 ⟨some 3, (.boxL (.t 1)), none⟩,
 ⟨some 4, (.allocL (.agg [(.int .i64 (0)), (.int .i64 (0))])), none⟩,
 ⟨some 5, (.mv (.c (.int .i64 (0)))), none⟩]
 [] [0, 1, 5])
 (.seq
 (.seq
 (.ops [⟨some 17, (.load true 2 (.t 2)), none⟩,
 ⟨some 18, (.load true 2 (.t 3)), none⟩,
 ⟨some 19, (.call (.f 157) [(.t 17), (.t 18)]), none⟩,
 ⟨some 6, (.mv (.t 19)), none⟩]
 [] [17, 18, 19])
 (.seq
 (.ops [⟨some 20, (.mv (.t 6)), none⟩,
 ⟨some 21, (.bin .neq (.t 20) (.c (.int .i64 (0)))), none⟩]
 [] [20])
 (.cond (.t 21)
 (.seq
 (.ops [⟨some 22, (.build [(.int .i64 (0)), (.int .i64 (0))] []), none⟩,
 ⟨some 23, (.mv (.t 6)), none⟩,
 ⟨none, (.store 2 (.t 4) (.t 22)), none⟩,
 ⟨some 5, (.mv (.t 23)), none⟩]
 [] [2, 3, 6, 21, 22, 23])
 .ret)
 .skip)))
 (.seq
 (.ops [⟨some 24, (.fad 0 (.t 2)), none⟩,
 ⟨some 25, (.load false 1 (.t 24)), none⟩,
 ⟨some 26, (.call (.f 158) [(.t 25)]), none⟩,
 ⟨some 27, (.fad 1 (.t 2)), none⟩,
 ⟨some 28, (.load false 1 (.t 27)), none⟩,
 ⟨some 29, (.conv .u64 (.t 28)), none⟩,
 ⟨some 30, (.fad 0 (.t 3)), none⟩,
 ⟨some 31, (.load false 1 (.t 30)), none⟩,
 ⟨some 32, (.call (.f 158) [(.t 31)]), none⟩,
 ⟨some 33, (.fad 1 (.t 3)), none⟩,
 ⟨some 34, (.load false 1 (.t 33)), none⟩,
 ⟨some 35, (.conv .u64 (.t 34)), none⟩,
 ⟨some 7, (.mv (.t 26)), none⟩,
 ⟨some 8, (.mv (.t 29)), none⟩,
 ⟨some 9, (.mv (.t 32)), none⟩,
 ⟨some 10, (.mv (.t 35)), none⟩]
 [(0, 3), (1, 3), (2, 3), (0, 4), (1, 4), (2, 4), (0, 5), (1, 5), (2, 5), (0, 6), (1, 6), (2, 6), (3, 6), (4, 6), (5, 6), (0, 7), (1, 7), (2, 7), (3, 7), (4, 7), (5, 7), (3, 8), (4, 8), (5, 8), (0, 9), (1, 9), (2, 9), (3, 9), (4, 9), (5, 9), (6, 9), (7, 9), (8, 9), (0, 10), (1, 10), (2, 10), (3, 10), (4, 10), (5, 10), (6, 10), (7, 10), (8, 10), (0, 11), (1, 11), (2, 11), (3, 11), (4, 11), (5, 11), (6, 11), (7, 11), (8, 11), (3, 12), (4, 12), (5, 12), (9, 12), (10, 12), (11, 12), (9, 13), (10, 13), (11, 13), (9, 14), (10, 14), (11, 14)] [6, 21, 24, 25, 26, 27, 28, 29, 30, 31, 32, 33, 34, 35])
 (.seq
 (.ops [⟨some 36, (.mv (.t 7)), none⟩,
 ⟨some 37, (.mv (.t 10)), none⟩,
 ⟨some 38, (.call (.f 159) [(.t 36), (.t 37)]), none⟩,
 ⟨some 39, (.mv (.t 9)), none⟩,
 ⟨some 40, (.mv (.t 8)), none⟩,
 ⟨some 41, (.call (.f 159) [(.t 39), (.t 40)]), none⟩,
 ⟨some 11, (.mv (.t 38)), none⟩,
 ⟨some 12, (.mv (.t 41)), none⟩]
 [] [36, 37, 38, 39, 40, 41])
 (.seq
 (.ops [⟨some 43, (.mv (.t 7)), none⟩,
 ⟨some 44, (.mv (.t 11)), none⟩,
 ⟨some 45, (.bin .quo (.t 43) (.t 44)), none⟩,
 ⟨some 46, (.mv (.t 9)), none⟩,
 ⟨some 47, (.mv (.t 12)), none⟩,
 ⟨some 48, (.bin .quo (.t 46) (.t 47)), none⟩,
 ⟨some 49, (.call (.f 160) [(.t 45), (.t 48)]), none⟩,
 ⟨some 42, (.mv (.t 49)), none⟩,
 ⟨some 50, (.ext (.t 42) 0), none⟩,
 ⟨some 51, (.ext (.t 42) 1), none⟩,
 ⟨some 13, (.mv (.t 50)), none⟩,
 ⟨some 14, (.mv (.t 51)), none⟩]
 [(0, 1), (0, 3), (1, 3), (2, 3), (0, 4), (1, 4), (2, 4), (3, 4), (0, 5), (1, 5), (2, 5), (8, 9), (9, 10)] [7, 9, 42, 43, 44, 45, 46, 47, 48, 49, 50, 51])
 (.seq
 (.ops [⟨some 53, (.mv (.t 8)), none⟩,
 ⟨some 54, (.mv (.t 12)), none⟩,
 ⟨some 55, (.bin .quo (.t 53) (.t 54)), none⟩,
 ⟨some 56, (.mv (.t 10)), none⟩,
 ⟨some 57, (.mv (.t 11)), none⟩,
 ⟨some 58, (.bin .quo (.t 56) (.t 57)), none⟩,
 ⟨some 59, (.call (.f 160) [(.t 55), (.t 58)]), none⟩,
 ⟨some 52, (.mv (.t 59)), none⟩,
 ⟨some 60, (.ext (.t 52) 0), none⟩,
 ⟨some 61, (.ext (.t 52) 1), none⟩,
 ⟨some 15, (.mv (.t 60)), none⟩,
 ⟨some 16, (.mv (.t 61)), none⟩]
 [(0, 1), (0, 3), (1, 3), (2, 3), (0, 4), (1, 4), (2, 4), (3, 4), (0, 5), (1, 5), (2, 5), (8, 9), (9, 10)] [8, 10, 11, 12, 52, 53, 54, 55, 56, 57, 58, 59, 60, 61])
 (.seq
 (.seq
 (.ops [⟨some 62, (.mv (.t 13)), none⟩,
 ⟨some 63, (.mv (.t 15)), none⟩,
 ⟨some 64, (.bin .add (.t 62) (.t 63)), none⟩,
 ⟨some 65, (.bin .gtr (.t 64) (.c (.int .u64 (0)))), none⟩]
 [] [13, 15, 62, 63, 64])
 (.cond (.t 65)
 (.seq
 (.ops [⟨some 66, (.build [(.int .i64 (0)), (.int .i64 (0))] []), none⟩,
 ⟨none, (.store 2 (.t 4) (.t 66)), none⟩,
 ⟨some 5, (.mv (.c (.int .i64 (16)))), none⟩]
 [] [2, 3, 14, 16, 65, 66])
 .ret)
 .skip))
 (.seq
 (.ops [⟨some 67, (.mv (.t 14)), none⟩,
 ⟨some 68, (.bin .gtr (.t 67) (.c (.int .u64 (0)))), none⟩,
 ⟨some 69, (.mv (.t 68)), none⟩,
 ⟨some 70, (.fad 0 (.t 2)), some (69, true)⟩,
 ⟨some 71, (.load false 1 (.t 70)), some (69, true)⟩,
 ⟨some 72, (.bin .lss (.t 71) (.c (.int .i64 (0)))), some (69, true)⟩,
 ⟨some 73, (.fad 0 (.t 3)), some (69, true)⟩,
 ⟨some 74, (.load false 1 (.t 73)), some (69, true)⟩,
 ⟨some 75, (.bin .lss (.t 74) (.c (.int .i64 (0)))), some (69, true)⟩,
 ⟨some 76, (.eqB true (.t 72) (.t 75)), some (69, true)⟩,
 ⟨some 77, (.pick (.t 69) (.t 76) (.c (.bool false))), none⟩,
 ⟨some 78, (.mv (.t 14)), none⟩,
 ⟨some 79, (.mv (.t 16)), none⟩,
 ⟨some 80, (.call (.f 161) [(.t 77), (.t 78), (.t 79)]), none⟩,
 ⟨some 81, (.ext (.t 80) 0), none⟩,
 ⟨some 82, (.ext (.t 80) 1), none⟩,
 ⟨none, (.store 2 (.t 4) (.t 81)), none⟩,
 ⟨some 5, (.mv (.t 82)), none⟩]
 [] [2, 3, 14, 16, 65, 67, 68, 69, 70, 71, 72, 73, 74, 75, 76, 77, 78, 79, 80, 81, 82])
 .ret))))))))⟩
def loc86 : List Nat := [2, 3, 4]
def fg86 : List (Nat × List Nat) := [(10, [2, 3, 14, 16, 65, 67, 68, 69, 70, 71, 72, 73, 74, 75, 76, 77, 78, 79, 80, 81, 82]), (9, [2, 3, 14, 16, 65, 66]), (8, [13, 15, 62, 63, 64]), (7, [8, 10, 11, 12, 52, 53, 54, 55, 56, 57, 58, 59, 60, 61]), (6, [7, 9, 42, 43, 44, 45, 46, 47, 48, 49, 50, 51]), (5, [36, 37, 38, 39, 40, 41]), (4, [6, 21, 24, 25, 26, 27, 28, 29, 30, 31, 32, 33, 34, 35]), (3, [2, 3, 6, 21, 22, 23]), (2, [20]), (1, [17, 18, 19]), (0, [0, 1, 5])]
theorem comp86 : compFn Try.prog loc86 (fun i => (fg86.lookup i).getD []) Try.f86 = some lit86 := by kernel_rfl

-- parcener/ratio.Add
def lit87 : AFn := ⟨2, [.cell 4 true 2, .tmp 5],
 (.seq
 (.ops [⟨some 2, (.boxL (.t 0)), none⟩,
 ⟨some 3, (.boxL (.t 1)), none⟩,
 ⟨some 4, (.allocL (.agg [(.int .i64 (0)), (.int .i64 (0))])), none⟩,
 ⟨some 5, (.mv (.c (.int .i64 (0)))), none⟩]
 [] [0, 1, 5])
 (.seq
 (.seq
 (.ops [⟨some 21, (.load true 2 (.t 2)), none⟩,
 ⟨some 22, (.load true 2 (.t 3)), none⟩,
 ⟨some 23, (.call (.f 157) [(.t 21), (.t 22)]), none⟩,
 ⟨some 6, (.mv (.t 23)), none⟩]
 [] [21, 22, 23])
 (.seq
 (.ops [⟨some 24, (.mv (.t 6)), none⟩,
 ⟨some 25, (.bin .neq (.t 24) (.c (.int .i64 (0)))), none⟩]
 [] [24])
 (.cond (.t 25)
 (.seq
 (.ops [⟨some 26, (.build [(.int .i64 (0)), (.int .i64 (0))] []), none⟩,
 ⟨some 27, (.mv (.t 6)), none⟩,
 ⟨none, (.store 2 (.t 4) (.t 26)), none⟩,
 ⟨some 5, (.mv (.t 27)), none⟩]
 [] [2, 3, 6, 25, 26, 27])
 .ret)
 .skip)))
 (.seq
 (.ops [⟨some 28, (.fad 1 (.t 2)), none⟩,
 ⟨some 29, (.load false 1 (.t 28)), none⟩,
 ⟨some 30, (.conv .u64 (.t 29)), none⟩,
 ⟨some 31, (.fad 1 (.t 3)), none⟩,
 ⟨some 32, (.load false 1 (.t 31)), none⟩,
 ⟨some 33, (.conv .u64 (.t 32)), none⟩,
 ⟨some 34, (.call (.f 159) [(.t 30), (.t 33)]), none⟩,
 ⟨some 7, (.mv (.t 34)), none⟩]
 [] [6, 25, 28, 29, 30, 31, 32, 33, 34])
 (.seq
 (.ops [⟨some 36, (.fad 0 (.t 2)), none⟩,
 ⟨some 37, (.load false 1 (.t 36)), none⟩,
 ⟨some 38, (.call (.f 158) [(.t 37)]), none⟩,
 ⟨some 39, (.fad 1 (.t 3)), none⟩,
 ⟨some 40, (.load false 1 (.t 39)), none⟩,
 ⟨some 41, (.conv .u64 (.t 40)), none⟩,
 ⟨some 42, (.mv (.t 7)), none⟩,
 ⟨some 43, (.bin .quo (.t 41) (.t 42)), none⟩,
 ⟨some 44, (.call (.f 160) [(.t 38), (.t 43)]), none⟩,
 ⟨some 35, (.mv (.t 44)), none⟩,
 ⟨some 45, (.ext (.t 35) 0), none⟩,
 ⟨some 46, (.ext (.t 35) 1), none⟩,
 ⟨some 8, (.mv (.t 45)), none⟩,
 ⟨some 9, (.mv (.t 46)), none⟩]
 [(0, 3), (1, 3), (2, 3), (0, 4), (1, 4), (2, 4), (0, 5), (1, 5), (2, 5), (0, 6), (1, 6), (2, 6), (3, 6), (4, 6), (5, 6), (0, 7), (1, 7), (2, 7), (10, 11), (11, 12)] [35, 36, 37, 38, 39, 40, 41, 42, 43, 44, 45, 46])
 (.seq
 (.ops [⟨some 48, (.fad 0 (.t 3)), none⟩,
 ⟨some 49, (.load false 1 (.t 48)), none⟩,
 ⟨some 50, (.call (.f 158) [(.t 49)]), none⟩,
 ⟨some 51, (.fad 1 (.t 2)), none⟩,
 ⟨some 52, (.load false 1 (.t 51)), none⟩,
 ⟨some 53, (.conv .u64 (.t 52)), none⟩,
 ⟨some 54, (.mv (.t 7)), none⟩,
 ⟨some 55, (.bin .quo (.t 53) (.t 54)), none⟩,
 ⟨some 56, (.call (.f 160) [(.t 50), (.t 55)]), none⟩,
 ⟨some 47, (.mv (.t 56)), none⟩,
 ⟨some 57, (.ext (.t 47) 0), none⟩,
 ⟨some 58, (.ext (.t 47) 1), none⟩,
 ⟨some 10, (.mv (.t 57)), none⟩,
 ⟨some 11, (.mv (.t 58)), none⟩]
 [(0, 3), (1, 3), (2, 3), (0, 4), (1, 4), (2, 4), (0, 5), (1, 5), (2, 5), (0, 6), (1, 6), (2, 6), (3, 6), (4, 6), (5, 6), (0, 7), (1, 7), (2, 7), (10, 11), (11, 12)] [47, 48, 49, 50, 51, 52, 53, 54, 55, 56, 57, 58])
 (.seq
 (.ops [⟨some 59, (.fad 0 (.t 2)), none⟩,
 ⟨some 60, (.load false 1 (.t 59)), none⟩,
 ⟨some 61, (.bin .lss (.t 60) (.c (.int .i64 (0)))), none⟩,
 ⟨some 12, (.mv (.t 61)), none⟩]
 [] [59, 60, 61])
 (.seq
 (.ops [⟨some 13, (.mv (.c (.int .u64 (0)))), none⟩,
 ⟨some 14, (.mv (.c (.int .u64 (0)))), none⟩,
 ⟨some 15, (.mv (.c (.int .u64 (0)))), none⟩]
 [] [13, 14, 15])
 (.seq
 (.seq
 (.ops [⟨some 62, (.fad 0 (.t 2)), none⟩,
 ⟨some 63, (.load false 1 (.t 62)), none⟩,
 ⟨some 64, (.bin .lss (.t 63) (.c (.int .i64 (0)))), none⟩,
 ⟨some 65, (.fad 0 (.t 3)), none⟩,
 ⟨some 66, (.load false 1 (.t 65)), none⟩,
 ⟨some 67, (.bin .lss (.t 66) (.c (.int .i64 (0)))), none⟩,
 ⟨some 68, (.eqB false (.t 64) (.t 67)), none⟩]
 [] [62, 63, 64, 65, 66, 67])
 (.cond (.t 68)
 (.seq
 (.ops [⟨some 70, (.mv (.t 9)), none⟩,
 ⟨some 71, (.mv (.t 11)), none⟩,
 ⟨some 72, (.call (.f 162) [(.t 70), (.t 71), (.c (.int .u64 (0)))]), none⟩,
 ⟨some 69, (.mv (.t 72)), none⟩,
 ⟨some 73, (.ext (.t 69) 0), none⟩,
 ⟨some 74, (.ext (.t 69) 1), none⟩,
 ⟨some 14, (.mv (.t 73)), none⟩,
 ⟨some 15, (.mv (.t 74)), none⟩]
 [] [9, 11, 68, 69, 70, 71, 72, 73, 74])
 (.ops [⟨some 76, (.mv (.t 8)), none⟩,
 ⟨some 77, (.mv (.t 10)), none⟩,
 ⟨some 78, (.mv (.t 15)), none⟩,
 ⟨some 79, (.call (.f 162) [(.t 76), (.t 77), (.t 78)]), none⟩,
 ⟨some 75, (.mv (.t 79)), none⟩,
 ⟨some 80, (.ext (.t 75) 0), none⟩,
 ⟨some 81, (.ext (.t 75) 1), none⟩,
 ⟨some 13, (.mv (.t 80)), none⟩]
 [] [8, 10, 15, 75, 76, 77, 78, 79, 80, 81]))
 (.seq
 (.seq
 (.ops [⟨some 82, (.mv (.t 8)), none⟩,
 ⟨some 83, (.mv (.t 10)), none⟩,
 ⟨some 84, (.bin .lss (.t 82) (.t 83)), none⟩,
 ⟨some 85, (.mv (.t 84)), none⟩,
 ⟨some 86, (.mv (.t 8)), some (85, false)⟩,
 ⟨some 87, (.mv (.t 10)), some (85, false)⟩,
 ⟨some 88, (.bin .eql (.t 86) (.t 87)), some (85, false)⟩,
 ⟨some 89, (.mv (.t 88)), some (85, false)⟩,
 ⟨some 90, (.mv (.t 9)), some (89, true)⟩,
 ⟨some 91, (.mv (.t 11)), some (89, true)⟩,
 ⟨some 92, (.bin .lss (.t 90) (.t 91)), some (89, true)⟩,
 ⟨some 93, (.pick (.t 89) (.t 92) (.c (.bool false))), some (85, false)⟩,
 ⟨some 94, (.pick (.t 85) (.c (.bool true)) (.t 93)), none⟩]
 [] [68, 82, 83, 84, 85, 86, 87, 88, 89, 90, 91, 92, 93])
 (.cond (.t 94)
 (.seq
 (.ops [⟨some 95, (.mv (.t 10)), none⟩,
 ⟨some 96, (.mv (.t 11)), none⟩,
 ⟨some 97, (.mv (.t 8)), none⟩,
 ⟨some 98, (.mv (.t 9)), none⟩,
 ⟨some 8, (.mv (.t 95)), none⟩,
 ⟨some 9, (.mv (.t 96)), none⟩,
 ⟨some 10, (.mv (.t 97)), none⟩,
 ⟨some 11, (.mv (.t 98)), none⟩]
 [] [94, 95, 96, 97, 98])
 (.ops [⟨some 99, (.mv (.t 12)), none⟩,
 ⟨some 100, (.un .not (.t 99)), none⟩,
 ⟨some 12, (.mv (.t 100)), none⟩]
 [] [99, 100]))
 .skip))
 (.seq
 (.ops [⟨some 102, (.mv (.t 9)), none⟩,
 ⟨some 103, (.mv (.t 11)), none⟩,
 ⟨some 104, (.call (.f 163) [(.t 102), (.t 103), (.c (.int .u64 (0)))]), none⟩,
 ⟨some 101, (.mv (.t 104)), none⟩,
 ⟨some 105, (.ext (.t 101) 0), none⟩,
 ⟨some 106, (.ext (.t 101) 1), none⟩,
 ⟨some 14, (.mv (.t 105)), none⟩,
 ⟨some 15, (.mv (.t 106)), none⟩]
 [] [9, 11, 94, 101, 102, 103, 104, 105, 106])
 (.ops [⟨some 108, (.mv (.t 8)), none⟩,
 ⟨some 109, (.mv (.t 10)), none⟩,
 ⟨some 110, (.mv (.t 15)), none⟩,
 ⟨some 111, (.call (.f 163) [(.t 108), (.t 109), (.t 110)]), none⟩,
 ⟨some 107, (.mv (.t 111)), none⟩,
 ⟨some 112, (.ext (.t 107) 0), none⟩,
 ⟨some 113, (.ext (.t 107) 1), none⟩,
 ⟨some 13, (.mv (.t 112)), none⟩]
 [] [8, 10, 15, 107, 108, 109, 110, 111, 112, 113])))))
 (.seq
 (.seq
 (.ops [⟨some 114, (.mv (.t 13)), none⟩,
 ⟨some 115, (.bin .eql (.t 114) (.c (.int .u64 (0)))), none⟩,
 ⟨some 116, (.mv (.t 115)), none⟩,
 ⟨some 117, (.mv (.t 14)), some (116, true)⟩,
 ⟨some 118, (.bin .eql (.t 117) (.c (.int .u64 (0)))), some (116, true)⟩,
 ⟨some 119, (.pick (.t 116) (.t 118) (.c (.bool false))), none⟩]
 [] [114, 115, 116, 117, 118])
 (.cond (.t 119)
 (.seq
 (.ops [⟨some 120, (.build [(.int .i64 (0)), (.int .i64 (0))] [(1, 1, (.c (.int .i64 (1))))]), none⟩,
 ⟨none, (.store 2 (.t 4) (.t 120)), none⟩,
 ⟨some 5, (.mv (.c (.int .i64 (0)))), none⟩]
 [] [2, 3, 7, 12, 13, 14, 119, 120])
 .ret)
 .skip))
 (.seq
 (.ops [⟨some 121, (.mv (.t 13)), none⟩,
 ⟨some 122, (.mv (.t 14)), none⟩,
 ⟨some 123, (.mv (.t 7)), none⟩,
 ⟨some 124, (.call (.f 164) [(.t 121), (.t 122), (.t 123)]), none⟩,
 ⟨some 125, (.mv (.t 7)), none⟩,
 ⟨some 126, (.call (.f 159) [(.t 124), (.t 125)]), none⟩,
 ⟨some 16, (.mv (.t 126)), none⟩]
 [] [119, 121, 122, 123, 124, 125, 126])
 (.seq
 (.seq
 (.ops [⟨some 127, (.mv (.t 13)), none⟩,
 ⟨some 128, (.mv (.t 16)), none⟩,
 ⟨some 129, (.bin .geq (.t 127) (.t 128)), none⟩]
 [] [127, 128])
 (.cond (.t 129)
 (.seq
 (.ops [⟨some 130, (.build [(.int .i64 (0)), (.int .i64 (0))] []), none⟩,
 ⟨none, (.store 2 (.t 4) (.t 130)), none⟩,
 ⟨some 5, (.mv (.c (.int .i64 (16)))), none⟩]
 [] [2, 3, 7, 12, 13, 14, 16, 129, 130])
 .ret)
 .skip))
 (.seq
 (.ops [⟨some 132, (.mv (.t 13)), none⟩,
 ⟨some 133, (.mv (.t 14)), none⟩,
 ⟨some 134, (.mv (.t 16)), none⟩,
 ⟨some 135, (.call (.f 165) [(.t 132), (.t 133), (.t 134)]), none⟩,
 ⟨some 131, (.mv (.t 135)), none⟩,
 ⟨some 136, (.ext (.t 131) 0), none⟩,
 ⟨some 137, (.ext (.t 131) 1), none⟩,
 ⟨some 17, (.mv (.t 136)), none⟩,
 ⟨some 18, (.mv (.t 137)), none⟩]
 [] [13, 14, 18, 129, 131, 132, 133, 134, 135, 136, 137])
 (.seq
 (.ops [⟨some 139, (.fad 1 (.t 2)), none⟩,
 ⟨some 140, (.load false 1 (.t 139)), none⟩,
 ⟨some 141, (.conv .u64 (.t 140)), none⟩,
 ⟨some 142, (.mv (.t 7)), none⟩,
 ⟨some 143, (.bin .quo (.t 141) (.t 142)), none⟩,
 ⟨some 144, (.fad 1 (.t 3)), none⟩,
 ⟨some 145, (.load false 1 (.t 144)), none⟩,
 ⟨some 146, (.conv .u64 (.t 145)), none⟩,
 ⟨some 147, (.mv (.t 16)), none⟩,
 ⟨some 148, (.bin .quo (.t 146) (.t 147)), none⟩,
 ⟨some 149, (.call (.f 160) [(.t 143), (.t 148)]), none⟩,
 ⟨some 138, (.mv (.t 149)), none⟩,
 ⟨some 150, (.ext (.t 138) 0), none⟩,
 ⟨some 151, (.ext (.t 138) 1), none⟩,
 ⟨some 19, (.mv (.t 150)), none⟩,
 ⟨some 20, (.mv (.t 151)), none⟩]
 [(0, 3), (1, 3), (2, 3), (0, 5), (1, 5), (2, 5), (3, 5), (4, 5), (0, 6), (1, 6), (2, 6), (3, 6), (4, 6), (0, 7), (1, 7), (2, 7), (3, 7), (4, 7), (0, 8), (1, 8), (2, 8), (3, 8), (4, 8), (5, 8), (6, 8), (7, 8), (0, 9), (1, 9), (2, 9), (3, 9), (4, 9), (12, 13), (13, 14)] [2, 3, 7, 16, 138, 139, 140, 141, 142, 143, 144, 145, 146, 147, 148, 149, 150, 151])
 (.seq
 (.seq
 (.ops [⟨some 152, (.mv (.t 19)), none⟩,
 ⟨some 153, (.bin .gtr (.t 152) (.c (.int .u64 (0)))), none⟩]
 [] [19, 152])
 (.cond (.t 153)
 (.seq
 (.ops [⟨some 154, (.build [(.int .i64 (0)), (.int .i64 (0))] []), none⟩,
 ⟨none, (.store 2 (.t 4) (.t 154)), none⟩,
 ⟨some 5, (.mv (.c (.int .i64 (16)))), none⟩]
 [] [12, 17, 20, 153, 154])
 .ret)
 .skip))
 (.seq
 (.ops [⟨some 155, (.mv (.t 12)), none⟩,
 ⟨some 156, (.mv (.t 17)), none⟩,
 ⟨some 157, (.mv (.t 20)), none⟩,
 ⟨some 158, (.call (.f 161) [(.t 155), (.t 156), (.t 157)]), none⟩,
 ⟨some 159, (.ext (.t 158) 0), none⟩,
 ⟨some 160, (.ext (.t 158) 1), none⟩,
 ⟨none, (.store 2 (.t 4) (.t 159)), none⟩,
 ⟨some 5, (.mv (.t 160)), none⟩]
 [] [12, 17, 20, 153, 155, 156, 157, 158, 159, 160])
 .ret)))))))))))))))⟩
def loc87 : List Nat := [2, 3, 4]
def fg87 : List (Nat × List Nat) := [(26, [12, 17, 20, 153, 155, 156, 157, 158, 159, 160]), (25, [12, 17, 20, 153, 154]), (24, [19, 152]), (23, [2, 3, 7, 16, 138, 139, 140, 141, 142, 143, 144, 145, 146, 147, 148, 149, 150, 151]), (22, [13, 14, 18, 129, 131, 132, 133, 134, 135, 136, 137]), (21, [2, 3, 7, 12, 13, 14, 16, 129, 130]), (20, [127, 128]), (19, [119, 121, 122, 123, 124, 125, 126]), (18, [2, 3, 7, 12, 13, 14, 119, 120]), (17, [114, 115, 116, 117, 118]), (16, [8, 10, 15, 107, 108, 109, 110, 111, 112, 113]), (15, [9, 11, 94, 101, 102, 103, 104, 105, 106]), (14, [99, 100]), (13, [94, 95, 96, 97, 98]), (12, [68, 82, 83, 84, 85, 86, 87, 88, 89, 90, 91, 92, 93]), (11, [8, 10, 15, 75, 76, 77, 78, 79, 80, 81]), (10, [9, 11, 68, 69, 70, 71, 72, 73, 74]), (9, [62, 63, 64, 65, 66, 67]), (8, [13, 14, 15]), (7, [59, 60, 61]), (6, [47, 48, 49, 50, 51, 52, 53, 54, 55, 56, 57, 58]), (5, [35, 36, 37, 38, 39, 40, 41, 42, 43, 44, 45, 46]), (4, [6, 25, 28, 29, 30, 31, 32, 33, 34]), (3, [2, 3, 6, 25, 26, 27]), (2, [24]), (1, [21, 22, 23]), (0, [0, 1, 5])]
theorem comp87 : compFn Try.prog loc87 (fun i => (fg87.lookup i).getD []) Try.f87 = some lit87 := by kernel_rfl

-- parcener/ask.Open
def lit88 : AFn := ⟨1, [.cell 2 true 2, .tmp 3],
 (.seq
 (.ops [⟨some 2, (.allocL (.agg [.nils, .nils])), none⟩,
 ⟨some 3, (.mv (.c (.int .i64 (0)))), none⟩]
 [] [3])
 (.seq
 (.seq
 (.ops [⟨some 5, (.mv (.t 0)), none⟩,
 ⟨some 6, (.build [.nils, .nils] [(0, 1, (.t 5))]), none⟩,
 ⟨some 7, (.call (.f 79) [(.t 6)]), none⟩,
 ⟨some 4, (.mv (.t 7)), none⟩]
 [] [5, 6, 7])
 (.seq
 (.ops [⟨some 8, (.mv (.t 4)), none⟩,
 ⟨some 9, (.bin .neq (.t 8) (.c (.int .i64 (0)))), none⟩]
 [] [8])
 (.cond (.t 9)
 (.seq
 (.ops [⟨some 10, (.build [.nils, .nils] []), none⟩,
 ⟨some 11, (.mv (.t 4)), none⟩,
 ⟨none, (.store 2 (.t 2) (.t 10)), none⟩,
 ⟨some 3, (.mv (.t 11)), none⟩]
 [] [0, 4, 9, 10, 11])
 .ret)
 .skip)))
 (.seq
 (.ops [⟨some 12, (.mv (.t 0)), none⟩,
 ⟨some 13, (.call (.f 166) [(.t 12)]), none⟩,
 ⟨some 14, (.build [.nils, .nils] [(0, 1, (.t 13))]), none⟩,
 ⟨none, (.store 2 (.t 2) (.t 14)), none⟩,
 ⟨some 3, (.mv (.c (.int .i64 (0)))), none⟩]
 [] [0, 4, 9, 12, 13, 14])
 .ret)))⟩
def loc88 : List Nat := [2]
def fg88 : List (Nat × List Nat) := [(4, [0, 4, 9, 12, 13, 14]), (3, [0, 4, 9, 10, 11]), (2, [8]), (1, [5, 6, 7]), (0, [3])]
theorem comp88 : compFn Try.prog loc88 (fun i => (fg88.lookup i).getD []) Try.f88 = some lit88 := by kernel_rfl

-- parcener/ask.Mark
def lit89 : AFn := ⟨4, [.cell 8 true 2, .cell 9 true 2, .tmp 10],
 (.seq
 (.ops [⟨some 4, (.boxL (.t 0)), none⟩,
 ⟨some 6, (.boxL (.t 2)), none⟩,
 ⟨some 7, (.boxL (.t 3)), none⟩,
 ⟨some 8, (.allocL (.agg [.nils, .nils])), none⟩,
 ⟨some 9, (.allocL (.agg [(.int .i64 (0)), (.int .i64 (0))])), none⟩,
 ⟨some 10, (.mv (.c (.int .i64 (0)))), none⟩]
 [] [0, 2, 3, 10])
 (.seq
 (.ops [⟨some 12, (.load true 2 (.t 4)), none⟩,
 ⟨some 13, (.build [.nils, .nils] [(0, 2, (.t 12))]), none⟩,
 ⟨some 11, (.allocL (.agg [.nils, .nils])), none⟩,
 ⟨none, (.store 2 (.t 11) (.t 13)), none⟩]
 [] [4, 12, 13])
 (.seq
 (.ops [⟨some 14, (.load true 2 (.t 11)), none⟩,
 ⟨some 15, (.mv (.t 1)), none⟩,
 ⟨some 16, (.load true 2 (.t 6)), none⟩,
 ⟨some 17, (.load true 2 (.t 7)), none⟩,
 ⟨some 18, (.build [(.int .i64 (0)), (.int .u8 (0)), (.int .i64 (0)), (.int .i64 (0)), (.int .i64 (0)), (.int .i64 (0)), (.int .i64 (0)), (.int .i64 (0))] [(0, 1, (.t 15)), (1, 1, (.c (.int .u8 (2)))), (2, 2, (.t 16)), (4, 2, (.t 17))]), none⟩,
 ⟨some 19, (.load true 2 (.t 11)), none⟩,
 ⟨some 20, (.mkFn (.func 168) [(.t 19)] []), none⟩,
 ⟨some 21, (.call (.f 167) [(.t 14), (.t 18), (.t 20)]), none⟩,
 ⟨some 22, (.ext (.t 21) 0), none⟩,
 ⟨some 23, (.ext (.t 21) 1), none⟩,
 ⟨some 24, (.ext (.t 21) 2), none⟩,
 ⟨none, (.store 2 (.t 8) (.t 22)), none⟩,
 ⟨none, (.store 2 (.t 9) (.t 23)), none⟩,
 ⟨some 10, (.mv (.t 24)), none⟩]
 [] [1, 6, 7, 11, 14, 15, 16, 17, 18, 19, 20, 21, 22, 23, 24])
 .ret)))⟩
def loc89 : List Nat := [4, 6, 7, 8, 9, 11]
def fg89 : List (Nat × List Nat) := [(2, [1, 6, 7, 11, 14, 15, 16, 17, 18, 19, 20, 21, 22, 23, 24]), (1, [4, 12, 13]), (0, [0, 2, 3, 10])]
theorem comp89 : compFn Try.prog loc89 (fun i => (fg89.lookup i).getD []) Try.f89 = some lit89 := by kernel_rfl

-- parcener/cake.Check
def lit92 : AFn := ⟨1, [.tmp 2],
 (.seq
 (.ops [⟨some 1, (.boxL (.t 0)), none⟩,
 ⟨some 2, (.mv (.c (.int .i64 (0)))), none⟩]
 [] [0, 2])
 (.seq
 (.ops [⟨some 5, (.fad 1 (.t 1)), none⟩,
 ⟨some 6, (.load false 1 (.t 5)), none⟩,
 ⟨some 7, (.len (.t 6)), none⟩,
 ⟨some 3, (.mv (.t 7)), none⟩]
 [] [5, 6, 7])
 (.seq
 (.seq
 (.ops [⟨some 8, (.fad 0 (.t 1)), none⟩,
 ⟨some 9, (.load false 1 (.t 8)), none⟩,
 ⟨some 10, (.bin .gtr (.t 9) (.c (.int .i64 (1000)))), none⟩,
 ⟨some 11, (.mv (.t 10)), none⟩,
 ⟨some 12, (.mv (.t 3)), some (11, false)⟩,
 ⟨some 13, (.bin .gtr (.t 12) (.c (.int .i64 (40)))), some (11, false)⟩,
 ⟨some 14, (.pick (.t 11) (.c (.bool true)) (.t 13)), none⟩]
 [] [8, 9, 10, 11, 12, 13])
 (.cond (.t 14)
 (.seq
 (.ops [⟨some 2, (.mv (.c (.int .i64 (4)))), none⟩]
 [] [1, 3, 14])
 .ret)
 .skip))
 (.seq
 (.seq
 (.ops [⟨some 15, (.fad 0 (.t 1)), none⟩,
 ⟨some 16, (.load false 1 (.t 15)), none⟩,
 ⟨some 17, (.bin .lss (.t 16) (.c (.int .i64 (1)))), none⟩,
 ⟨some 18, (.mv (.t 17)), none⟩,
 ⟨some 19, (.mv (.t 3)), some (18, false)⟩,
 ⟨some 20, (.bin .lss (.t 19) (.c (.int .i64 (2)))), some (18, false)⟩,
 ⟨some 21, (.pick (.t 18) (.c (.bool true)) (.t 20)), none⟩,
 ⟨some 22, (.mv (.t 21)), none⟩,
 ⟨some 23, (.fad 2 (.t 1)), some (22, false)⟩,
 ⟨some 24, (.load false 1 (.t 23)), some (22, false)⟩,
 ⟨some 25, (.len (.t 24)), some (22, false)⟩,
 ⟨some 26, (.mv (.t 3)), some (22, false)⟩,
 ⟨some 27, (.bin .sub (.t 26) (.c (.int .i64 (1)))), some (22, false)⟩,
 ⟨some 28, (.bin .neq (.t 25) (.t 27)), some (22, false)⟩,
 ⟨some 29, (.pick (.t 22) (.c (.bool true)) (.t 28)), none⟩,
 ⟨some 30, (.mv (.t 29)), none⟩,
 ⟨some 31, (.fad 1 (.t 1)), some (30, false)⟩,
 ⟨some 32, (.load false 1 (.t 31)), some (30, false)⟩,
 ⟨some 33, (.iad 1 (.t 32) (.c (.int .i64 (0)))), some (30, false)⟩,
 ⟨some 34, (.load false 1 (.t 33)), some (30, false)⟩,
 ⟨some 35, (.bin .neq (.t 34) (.c (.int .i64 (0)))), some (30, false)⟩,
 ⟨some 36, (.pick (.t 30) (.c (.bool true)) (.t 35)), none⟩,
 ⟨some 37, (.mv (.t 36)), none⟩,
 ⟨some 38, (.fad 1 (.t 1)), some (37, false)⟩,
 ⟨some 39, (.load false 1 (.t 38)), some (37, false)⟩,
 ⟨some 40, (.mv (.t 3)), some (37, false)⟩,
 ⟨some 41, (.bin .sub (.t 40) (.c (.int .i64 (1)))), some (37, false)⟩,
 ⟨some 42, (.iad 1 (.t 39) (.t 41)), some (37, false)⟩,
 ⟨some 43, (.load false 1 (.t 42)), some (37, false)⟩,
 ⟨some 44, (.fad 0 (.t 1)), some (37, false)⟩,
 ⟨some 45, (.load false 1 (.t 44)), some (37, false)⟩,
 ⟨some 46, (.bin .neq (.t 43) (.t 45)), some (37, false)⟩,
 ⟨some 47, (.pick (.t 37) (.c (.bool true)) (.t 46)), none⟩]
 [(8, 11), (9, 11), (10, 11), (8, 12), (9, 12), (10, 12), (23, 25), (24, 25), (23, 26), (24, 26), (23, 29), (24, 29), (25, 29), (26, 29), (27, 29), (28, 29), (23, 30), (24, 30), (25, 30), (26, 30), (27, 30), (28, 30)] [14, 15, 16, 17, 18, 19, 20, 21, 22, 23, 24, 25, 26, 27, 28, 29, 30, 31, 32, 33, 34, 35, 36, 37, 38, 39, 40, 41, 42, 43, 44, 45, 46])
 (.cond (.t 47)
 (.seq
 (.ops [⟨some 2, (.mv (.c (.int .i64 (8)))), none⟩]
 [] [1, 3, 47])
 .ret)
 .skip))
 (.seq
 (.seq
 (.ops [⟨some 48, (.mv (.t 3)), none⟩,
 ⟨some 49, (.bin .sub (.t 48) (.c (.int .i64 (1)))), none⟩,
 ⟨some 50, (.mv (.c (.int .i64 (0)))), none⟩]
 [] [3, 47, 48])
 (.block 0
 (.loop
 (.seq
 (.ops [⟨some 51, (.bin .lss (.t 50) (.t 49)), none⟩]
 [] [])
 (.seq
 (.cond (.t 51)
 .skip
 (.exit 0))
 (.seq
 (.block 1
 (.seq
 (.ops [⟨some 52, (.mv (.t 50)), none⟩,
 ⟨some 4, (.mv (.t 52)), none⟩]
 [] [51])
 (.seq
 (.ops [⟨some 53, (.fad 1 (.t 1)), none⟩,
 ⟨some 54, (.load false 1 (.t 53)), none⟩,
 ⟨some 55, (.mv (.t 4)), none⟩,
 ⟨some 56, (.iad 1 (.t 54) (.t 55)), none⟩,
 ⟨some 57, (.load false 1 (.t 56)), none⟩,
 ⟨some 58, (.fad 1 (.t 1)), none⟩,
 ⟨some 59, (.load false 1 (.t 58)), none⟩,
 ⟨some 60, (.mv (.t 4)), none⟩,
 ⟨some 61, (.bin .add (.t 60) (.c (.int .i64 (1)))), none⟩,
 ⟨some 62, (.iad 1 (.t 59) (.t 61)), none⟩,
 ⟨some 63, (.load false 1 (.t 62)), none⟩,
 ⟨some 64, (.bin .geq (.t 57) (.t 63)), none⟩]
 [(0, 2), (1, 2), (0, 5), (1, 5), (2, 5), (3, 5), (4, 5), (0, 6), (1, 6), (2, 6), (3, 6), (4, 6), (0, 7), (1, 7), (2, 7), (3, 7), (4, 7), (5, 7), (6, 7), (0, 8), (1, 8), (2, 8), (3, 8), (4, 8), (5, 8), (6, 8), (0, 9), (1, 9), (2, 9), (3, 9), (4, 9), (0, 10), (1, 10), (2, 10), (3, 10), (4, 10)] [4])
 (.cond (.t 64)
 (.seq
 (.ops [⟨some 2, (.mv (.c (.int .i64 (8)))), none⟩]
 [] [1, 49, 50, 52, 53, 54, 55, 56, 57, 58, 59, 60, 61, 62, 63, 64, 65])
 .ret)
 .skip))))
 (.ops [⟨some 65, (.bin .add (.t 50) (.c (.int .i64 (1)))), none⟩,
 ⟨some 50, (.mv (.t 65)), none⟩]
 [] [64])))))))
 (.seq
 (.seq
 (.ops [⟨some 66, (.fad 2 (.t 1)), none⟩,
 ⟨some 67, (.load false 1 (.t 66)), none⟩,
 ⟨some 68, (.call (.f 169) [(.t 67)]), none⟩,
 ⟨some 69, (.bin .lss (.t 68) (.c (.int .i64 (0)))), none⟩,
 ⟨some 70, (.mv (.t 69)), none⟩,
 ⟨some 71, (.fad 2 (.t 1)), some (70, false)⟩,
 ⟨some 72, (.load false 1 (.t 71)), some (70, false)⟩,
 ⟨some 73, (.call (.f 170) [(.t 72)]), some (70, false)⟩,
 ⟨some 74, (.bin .gtr (.t 73) (.c (.int .i64 (12)))), some (70, false)⟩,
 ⟨some 75, (.pick (.t 70) (.c (.bool true)) (.t 74)), none⟩,
 ⟨some 76, (.mv (.t 75)), none⟩,
 ⟨some 77, (.fad 2 (.t 1)), some (76, false)⟩,
 ⟨some 78, (.load false 1 (.t 77)), some (76, false)⟩,
 ⟨some 79, (.call (.f 170) [(.t 78)]), some (76, false)⟩,
 ⟨some 80, (.bin .eql (.t 79) (.c (.int .i64 (0)))), some (76, false)⟩,
 ⟨some 81, (.pick (.t 76) (.c (.bool true)) (.t 80)), none⟩]
 [] [1, 49, 50, 51, 52, 53, 54, 55, 56, 57, 58, 59, 60, 61, 62, 63, 65, 66, 67, 68, 69, 70, 71, 72, 73, 74, 75, 76, 77, 78, 79, 80])
 (.cond (.t 81)
 (.seq
 (.ops [⟨some 2, (.mv (.c (.int .i64 (8)))), none⟩]
 [] [81])
 .ret)
 .skip))
 (.seq
 (.ops [⟨some 2, (.mv (.c (.int .i64 (0)))), none⟩]
 [] [81])
 .ret)))))))⟩
def loc92 : List Nat := [1]
def fg92 : List (Nat × List Nat) := [(14, [81]), (13, [81]), (12, [1, 49, 50, 51, 52, 53, 54, 55, 56, 57, 58, 59, 60, 61, 62, 63, 65, 66, 67, 68, 69, 70, 71, 72, 73, 74, 75, 76, 77, 78, 79, 80]), (11, [64]), (10, [1, 49, 50, 52, 53, 54, 55, 56, 57, 58, 59, 60, 61, 62, 63, 64, 65]), (9, [4]), (8, [51]), (6, [3, 47, 48]), (5, [1, 3, 47]), (4, [14, 15, 16, 17, 18, 19, 20, 21, 22, 23, 24, 25, 26, 27, 28, 29, 30, 31, 32, 33, 34, 35, 36, 37, 38, 39, 40, 41, 42, 43, 44, 45, 46]), (3, [1, 3, 14]), (2, [8, 9, 10, 11, 12, 13]), (1, [5, 6, 7]), (0, [0, 2])]
theorem comp92 : compFn Try.prog loc92 (fun i => (fg92.lookup i).getD []) Try.f92 = some lit92 := by kernel_rfl

-- parcener/cake.Mark
def lit93 : AFn := ⟨3, [.cell 6 true 2, .tmp 7],
 (.seq
 (.ops [⟨some 3, (.boxL (.t 0)), none⟩,
 ⟨some 4, (.boxL (.t 1)), none⟩,
 ⟨some 5, (.boxH true 2 (.t 2)), none⟩,
 ⟨some 6, (.allocL (.agg [(.int .i64 (0)), (.int .i64 (0))])), none⟩,
 ⟨some 7, (.mv (.c (.int .i64 (0)))), none⟩]
 [] [0, 1, 2, 7])
 (.seq
 (.seq
 (.ops [⟨some 12, (.load true 3 (.t 3)), none⟩,
 ⟨some 13, (.call (.f 92) [(.t 12)]), none⟩,
 ⟨some 8, (.mv (.t 13)), none⟩]
 [] [12, 13])
 (.seq
 (.ops [⟨some 14, (.mv (.t 8)), none⟩,
 ⟨some 15, (.bin .neq (.t 14) (.c (.int .i64 (0)))), none⟩]
 [] [14])
 (.cond (.t 15)
 (.seq
 (.ops [⟨some 16, (.build [(.int .i64 (0)), (.int .i64 (0))] []), none⟩,
 ⟨some 17, (.mv (.t 8)), none⟩,
 ⟨none, (.store 2 (.t 6) (.t 16)), none⟩,
 ⟨some 7, (.mv (.t 17)), none⟩]
 [] [3, 4, 5, 8, 15, 16, 17])
 .ret)
 .skip)))
 (.seq
 (.seq
 (.ops [⟨some 18, (.load true 3 (.t 3)), none⟩,
 ⟨some 19, (.load true 2 (.t 4)), none⟩,
 ⟨some 20, (.call (.f 171) [(.t 18), (.t 19)]), none⟩,
 ⟨some 21, (.un .not (.t 20)), none⟩,
 ⟨some 22, (.mv (.t 21)), none⟩,
 ⟨some 23, (.load true 2 (.t 5)), some (22, false)⟩,
 ⟨some 24, (.call (.f 95) [(.t 23)]), some (22, false)⟩,
 ⟨some 25, (.bin .neq (.t 24) (.c (.int .i64 (0)))), some (22, false)⟩,
 ⟨some 26, (.pick (.t 22) (.c (.bool true)) (.t 25)), none⟩,
 ⟨some 27, (.mv (.t 26)), none⟩,
 ⟨some 28, (.fad 0 (.t 5)), some (27, false)⟩,
 ⟨some 29, (.load false 1 (.t 28)), some (27, false)⟩,
 ⟨some 30, (.bin .lss (.t 29) (.c (.int .i64 (0)))), some (27, false)⟩,
 ⟨some 31, (.pick (.t 27) (.c (.bool true)) (.t 30)), none⟩]
 [] [8, 15, 18, 19, 20, 21, 22, 23, 24, 25, 26, 27, 28, 29, 30])
 (.cond (.t 31)
 (.seq
 (.ops [⟨some 32, (.build [(.int .i64 (0)), (.int .i64 (0))] []), none⟩,
 ⟨none, (.store 2 (.t 6) (.t 32)), none⟩,
 ⟨some 7, (.mv (.c (.int .i64 (2)))), none⟩]
 [] [3, 4, 5, 31, 32])
 .ret)
 .skip))
 (.seq
 (.seq
 (.ops [⟨some 33, (.fad 0 (.t 5)), none⟩,
 ⟨some 34, (.load false 1 (.t 33)), none⟩,
 ⟨some 35, (.bin .eql (.t 34) (.c (.int .i64 (0)))), none⟩]
 [] [31, 33, 34])
 (.cond (.t 35)
 (.seq
 (.ops [⟨some 36, (.load true 2 (.t 4)), none⟩,
 ⟨none, (.store 2 (.t 6) (.t 36)), none⟩,
 ⟨some 7, (.mv (.c (.int .i64 (0)))), none⟩]
 [] [3, 4, 5, 35, 36])
 .ret)
 .skip))
 (.seq
 (.ops [⟨some 9, (.allocH true 2 (.agg [(.int .i64 (0)), (.int .i64 (0))])), none⟩]
 [] [35])
 (.seq
 (.ops [⟨some 10, (.allocH true 1 (.int .i64 (0))), none⟩,
 ⟨none, (.store 1 (.t 10) (.c (.int .i64 (6)))), none⟩]
 [] [])
 (.seq
 (.ops [⟨some 37, (.load true 3 (.t 3)), none⟩,
 ⟨some 38, (.load true 2 (.t 4)), none⟩,
 ⟨some 39, (.mkFn (.func 173) [] [(.t 5), (.t 10), (.t 9)]), none⟩,
 ⟨some 40, (.call (.f 172) [(.t 37), (.t 38), (.t 39)]), none⟩,
 ⟨some 11, (.mv (.t 40)), none⟩]
 [] [3, 4, 5, 37, 38, 39, 40])
 (.seq
 (.seq
 (.ops [⟨some 41, (.mv (.t 11)), none⟩,
 ⟨some 42, (.bin .neq (.t 41) (.c (.int .i64 (0)))), none⟩]
 [] [41])
 (.cond (.t 42)
 (.ops [⟨some 43, (.mv (.t 11)), none⟩,
 ⟨none, (.store 1 (.t 10) (.t 43)), none⟩]
 [] [11, 42, 43])
 .skip))
 (.seq
 (.seq
 (.ops [⟨some 44, (.load false 1 (.t 10)), none⟩,
 ⟨some 45, (.bin .neq (.t 44) (.c (.int .i64 (0)))), none⟩]
 [] [11, 42, 44])
 (.cond (.t 45)
 (.seq
 (.ops [⟨some 46, (.build [(.int .i64 (0)), (.int .i64 (0))] []), none⟩,
 ⟨some 47, (.load false 1 (.t 10)), none⟩,
 ⟨none, (.store 2 (.t 6) (.t 46)), none⟩,
 ⟨some 7, (.mv (.t 47)), none⟩]
 [(0, 1), (1, 2)] [9, 10, 45, 46, 47])
 .ret)
 .skip))
 (.seq
 (.ops [⟨some 48, (.load true 2 (.t 9)), none⟩,
 ⟨none, (.store 2 (.t 6) (.t 48)), none⟩,
 ⟨some 7, (.mv (.c (.int .i64 (0)))), none⟩]
 [] [9, 10, 45, 48])
 .ret))))))))))⟩
def loc93 : List Nat := [3, 4, 6]
def fg93 : List (Nat × List Nat) := [(15, [9, 10, 45, 48]), (14, [9, 10, 45, 46, 47]), (13, [11, 42, 44]), (12, [11, 42, 43]), (11, [41]), (10, [3, 4, 5, 37, 38, 39, 40]), (8, [35]), (7, [3, 4, 5, 35, 36]), (6, [31, 33, 34]), (5, [3, 4, 5, 31, 32]), (4, [8, 15, 18, 19, 20, 21, 22, 23, 24, 25, 26, 27, 28, 29, 30]), (3, [3, 4, 5, 8, 15, 16, 17]), (2, [14]), (1, [12, 13]), (0, [0, 1, 2, 7])]
theorem comp93 : compFn Try.prog loc93 (fun i => (fg93.lookup i).getD []) Try.f93 = some lit93 := by kernel_rfl

-- parcener/cake.Value
def lit94 : AFn := ⟨3, [.cell 6 true 2, .tmp 7],
 (.seq
 (.ops [⟨some 3, (.boxL (.t 0)), none⟩,
 ⟨some 4, (.boxL (.t 1)), none⟩,
 ⟨some 5, (.boxL (.t 2)), none⟩,
 ⟨some 6, (.allocL (.agg [(.int .i64 (0)), (.int .i64 (0))])), none⟩,
 ⟨some 7, (.mv (.c (.int .i64 (0)))), none⟩]
 [] [0, 1, 2, 7])
 (.seq
 (.seq
 (.ops [⟨some 17, (.load true 3 (.t 3)), none⟩,
 ⟨some 18, (.call (.f 92) [(.t 17)]), none⟩,
 ⟨some 8, (.mv (.t 18)), none⟩]
 [] [17, 18])
 (.seq
 (.ops [⟨some 19, (.mv (.t 8)), none⟩,
 ⟨some 20, (.bin .neq (.t 19) (.c (.int .i64 (0)))), none⟩]
 [] [19])
 (.cond (.t 20)
 (.seq
 (.ops [⟨some 21, (.build [(.int .i64 (0)), (.int .i64 (0))] []), none⟩,
 ⟨some 22, (.mv (.t 8)), none⟩,
 ⟨none, (.store 2 (.t 6) (.t 21)), none⟩,
 ⟨some 7, (.mv (.t 22)), none⟩]
 [] [3, 4, 5, 8, 20, 21, 22])
 .ret)
 .skip)))
 (.seq
 (.seq
 (.ops [⟨some 23, (.load true 3 (.t 3)), none⟩,
 ⟨some 24, (.load true 2 (.t 4)), none⟩,
 ⟨some 25, (.call (.f 171) [(.t 23), (.t 24)]), none⟩,
 ⟨some 26, (.un .not (.t 25)), none⟩,
 ⟨some 27, (.mv (.t 26)), none⟩,
 ⟨some 28, (.load true 3 (.t 3)), some (27, false)⟩,
 ⟨some 29, (.load true 2 (.t 5)), some (27, false)⟩,
 ⟨some 30, (.call (.f 171) [(.t 28), (.t 29)]), some (27, false)⟩,
 ⟨some 31, (.un .not (.t 30)), some (27, false)⟩,
 ⟨some 32, (.pick (.t 27) (.c (.bool true)) (.t 31)), none⟩,
 ⟨some 33, (.mv (.t 32)), none⟩,
 ⟨some 34, (.load true 2 (.t 5)), some (33, false)⟩,
 ⟨some 35, (.load true 2 (.t 4)), some (33, false)⟩,
 ⟨some 36, (.call (.f 174) [(.t 34), (.t 35)]), some (33, false)⟩,
 ⟨some 37, (.pick (.t 33) (.c (.bool true)) (.t 36)), none⟩]
 [] [8, 20, 23, 24, 25, 26, 27, 28, 29, 30, 31, 32, 33, 34, 35, 36])
 (.cond (.t 37)
 (.seq
 (.ops [⟨some 38, (.build [(.int .i64 (0)), (.int .i64 (0))] []), none⟩,
 ⟨none, (.store 2 (.t 6) (.t 38)), none⟩,
 ⟨some 7, (.mv (.c (.int .i64 (2)))), none⟩]
 [] [3, 4, 5, 37, 38])
 .ret)
 .skip))
 (.seq
 (.ops [⟨some 39, (.call (.f 175) [(.c (.int .i64 (0)))]), none⟩,
 ⟨some 9, (.allocL (.agg [(.int .i64 (0)), (.int .i64 (0))])), none⟩,
 ⟨none, (.store 2 (.t 9) (.t 39)), none⟩]
 [] [37, 39])
 (.seq
 (.ops [⟨some 40, (.load true 2 (.t 4)), none⟩,
 ⟨some 10, (.allocL (.agg [(.int .i64 (0)), (.int .i64 (0))])), none⟩,
 ⟨none, (.store 2 (.t 10) (.t 40)), none⟩]
 [] [4, 40])
 (.seq
 (.seq
 (.ops [⟨some 41, (.fad 2 (.t 3)), none⟩,
 ⟨some 42, (.load false 1 (.t 41)), none⟩,
 ⟨some 43, (.len (.t 42)), none⟩,
 ⟨some 44, (.mv (.c (.int .i64 (0)))), none⟩]
 [] [41])
 (.block 0
 (.loop
 (.seq
 (.ops [⟨some 45, (.bin .lss (.t 44) (.t 43)), none⟩]
 [] [])
 (.seq
 (.cond (.t 45)
 .skip
 (.exit 0))
 (.seq
 (.block 1
 (.seq
 (.ops [⟨some 46, (.mv (.t 44)), none⟩,
 ⟨some 47, (.iad 1 (.t 42) (.t 44)), none⟩,
 ⟨some 48, (.load false 1 (.t 47)), none⟩,
 ⟨some 11, (.mv (.t 46)), none⟩,
 ⟨some 12, (.mv (.t 48)), none⟩]
 [] [45])
 (.seq
 (.ops [⟨some 49, (.fad 1 (.t 3)), none⟩,
 ⟨some 50, (.load false 1 (.t 49)), none⟩,
 ⟨some 51, (.mv (.t 11)), none⟩,
 ⟨some 52, (.bin .add (.t 51) (.c (.int .i64 (1)))), none⟩,
 ⟨some 53, (.iad 1 (.t 50) (.t 52)), none⟩,
 ⟨some 54, (.load false 1 (.t 53)), none⟩,
 ⟨some 55, (.call (.f 175) [(.t 54)]), none⟩,
 ⟨some 13, (.allocL (.agg [(.int .i64 (0)), (.int .i64 (0))])), none⟩,
 ⟨none, (.store 2 (.t 13) (.t 55)), none⟩]
 [] [11])
 (.seq
 (.seq
 (.ops [⟨some 56, (.load true 2 (.t 5)), none⟩,
 ⟨some 57, (.load true 2 (.t 13)), none⟩,
 ⟨some 58, (.call (.f 174) [(.t 56), (.t 57)]), none⟩]
 [] [])
 (.cond (.t 58)
 (.ops [⟨some 59, (.load true 2 (.t 5)), none⟩,
 ⟨none, (.store 2 (.t 13) (.t 59)), none⟩]
 [] [58])
 .skip))
 (.seq
 (.seq
 (.ops [⟨some 60, (.mv (.t 12)), none⟩,
 ⟨some 61, (.bin .eql (.t 60) (.c (.int .i64 (0)))), none⟩,
 ⟨some 62, (.mv (.t 61)), none⟩,
 ⟨some 63, (.load true 2 (.t 10)), some (62, false)⟩,
 ⟨some 64, (.load true 2 (.t 13)), some (62, false)⟩,
 ⟨some 65, (.call (.f 174) [(.t 63), (.t 64)]), some (62, false)⟩,
 ⟨some 66, (.un .not (.t 65)), some (62, false)⟩,
 ⟨some 67, (.pick (.t 62) (.c (.bool true)) (.t 66)), none⟩]
 [] [58])
 (.cond (.t 67)
 (.seq
 (.seq
 (.ops [⟨some 68, (.load true 2 (.t 10)), none⟩,
 ⟨some 69, (.load true 2 (.t 13)), none⟩,
 ⟨some 70, (.call (.f 174) [(.t 68), (.t 69)]), none⟩]
 [] [12, 67])
 (.cond (.t 70)
 (.ops [⟨some 71, (.load true 2 (.t 13)), none⟩,
 ⟨none, (.store 2 (.t 10) (.t 71)), none⟩]
 [] [70])
 .skip))
 (.exit 1))
 .skip))
 (.seq
 (.ops [⟨some 73, (.load true 2 (.t 13)), none⟩,
 ⟨some 74, (.load true 2 (.t 10)), none⟩,
 ⟨some 75, (.call (.f 84) [(.t 73), (.t 74)]), none⟩,
 ⟨some 72, (.mv (.t 75)), none⟩,
 ⟨some 76, (.ext (.t 72) 0), none⟩,
 ⟨some 77, (.ext (.t 72) 1), none⟩,
 ⟨some 14, (.allocL (.agg [(.int .i64 (0)), (.int .i64 (0))])), none⟩,
 ⟨none, (.store 2 (.t 14) (.t 76)), none⟩,
 ⟨some 15, (.mv (.t 77)), none⟩]
 [] [67])
 (.seq
 (.seq
 (.ops [⟨some 78, (.mv (.t 15)), none⟩,
 ⟨some 79, (.bin .neq (.t 78) (.c (.int .i64 (0)))), none⟩]
 [] [])
 (.cond (.t 79)
 (.seq
 (.ops [⟨some 80, (.build [(.int .i64 (0)), (.int .i64 (0))] []), none⟩,
 ⟨some 81, (.mv (.t 15)), none⟩,
 ⟨none, (.store 2 (.t 6) (.t 80)), none⟩,
 ⟨some 7, (.mv (.t 81)), none⟩]
 [] [3, 5, 9, 10, 12, 13, 14, 15, 16, 42, 43, 44, 46, 47, 48, 49, 50, 51, 52, 53, 54, 55, 56, 57, 59, 60, 61, 62, 63, 64, 65, 66, 68, 69, 71, 72, 73, 74, 75, 76, 77, 78, 79, 80, 81, 82, 83, 84, 85, 86, 87, 88, 89, 93, 94, 95, 96, 97, 98, 99, 103, 104])
 .ret)
 .skip))
 (.seq
 (.ops [⟨some 83, (.load true 2 (.t 14)), none⟩,
 ⟨some 84, (.mv (.t 12)), none⟩,
 ⟨some 85, (.call (.f 175) [(.t 84)]), none⟩,
 ⟨some 86, (.call (.f 86) [(.t 83), (.t 85)]), none⟩,
 ⟨some 82, (.mv (.t 86)), none⟩,
 ⟨some 87, (.ext (.t 82) 0), none⟩,
 ⟨some 88, (.ext (.t 82) 1), none⟩,
 ⟨some 16, (.allocL (.agg [(.int .i64 (0)), (.int .i64 (0))])), none⟩,
 ⟨none, (.store 2 (.t 16) (.t 87)), none⟩,
 ⟨some 15, (.mv (.t 88)), none⟩]
 [(0, 1), (0, 2), (5, 6), (0, 7), (1, 7), (2, 7), (3, 7), (4, 7), (5, 7), (6, 7), (6, 8)] [12, 79])
 (.seq
 (.seq
 (.ops [⟨some 89, (.mv (.t 15)), none⟩,
 ⟨some 90, (.bin .neq (.t 89) (.c (.int .i64 (0)))), none⟩]
 [] [])
 (.cond (.t 90)
 (.seq
 (.ops [⟨some 91, (.build [(.int .i64 (0)), (.int .i64 (0))] []), none⟩,
 ⟨some 92, (.mv (.t 15)), none⟩,
 ⟨none, (.store 2 (.t 6) (.t 91)), none⟩,
 ⟨some 7, (.mv (.t 92)), none⟩]
 [] [3, 5, 9, 10, 13, 14, 15, 16, 42, 43, 44, 46, 47, 48, 49, 50, 51, 52, 53, 54, 55, 56, 57, 59, 60, 61, 62, 63, 64, 65, 66, 68, 69, 71, 72, 73, 74, 75, 76, 77, 78, 82, 83, 84, 85, 86, 87, 88, 89, 90, 91, 92, 93, 94, 95, 96, 97, 98, 99, 103, 104])
 .ret)
 .skip))
 (.seq
 (.seq
 (.ops [⟨some 94, (.load true 2 (.t 9)), none⟩,
 ⟨some 95, (.load true 2 (.t 16)), none⟩,
 ⟨some 96, (.call (.f 87) [(.t 94), (.t 95)]), none⟩,
 ⟨some 93, (.mv (.t 96)), none⟩,
 ⟨some 97, (.ext (.t 93) 0), none⟩,
 ⟨some 98, (.ext (.t 93) 1), none⟩,
 ⟨none, (.store 2 (.t 9) (.t 97)), none⟩,
 ⟨some 15, (.mv (.t 98)), none⟩]
 [] [90])
 (.seq
 (.ops [⟨some 99, (.mv (.t 15)), none⟩,
 ⟨some 100, (.bin .neq (.t 99) (.c (.int .i64 (0)))), none⟩]
 [] [])
 (.cond (.t 100)
 (.seq
 (.ops [⟨some 101, (.build [(.int .i64 (0)), (.int .i64 (0))] []), none⟩,
 ⟨some 102, (.mv (.t 15)), none⟩,
 ⟨none, (.store 2 (.t 6) (.t 101)), none⟩,
 ⟨some 7, (.mv (.t 102)), none⟩]
 [] [3, 5, 9, 10, 13, 14, 15, 16, 42, 43, 44, 46, 47, 48, 49, 50, 51, 52, 53, 54, 55, 56, 57, 59, 60, 61, 62, 63, 64, 65, 66, 68, 69, 71, 72, 73, 74, 75, 76, 77, 78, 82, 83, 84, 85, 86, 87, 88, 89, 93, 94, 95, 96, 97, 98, 99, 100, 101, 102, 103, 104])
 .ret)
 .skip)))
 (.ops [⟨some 103, (.load true 2 (.t 13)), none⟩,
 ⟨none, (.store 2 (.t 10) (.t 103)), none⟩]
 [] [15, 100])))))))))))
 (.ops [⟨some 104, (.bin .add (.t 44) (.c (.int .i64 (1)))), none⟩,
 ⟨some 44, (.mv (.t 104)), none⟩]
 [] [70])))))))
 (.seq
 (.ops [⟨some 105, (.load true 2 (.t 9)), none⟩,
 ⟨none, (.store 2 (.t 6) (.t 105)), none⟩,
 ⟨some 7, (.mv (.c (.int .i64 (0)))), none⟩]
 [] [3, 5, 9, 10, 13, 14, 16, 42, 43, 44, 45, 46, 47, 48, 49, 50, 51, 52, 53, 54, 55, 56, 57, 59, 60, 61, 62, 63, 64, 65, 66, 68, 69, 71, 72, 73, 74, 75, 76, 77, 78, 82, 83, 84, 85, 86, 87, 88, 89, 93, 94, 95, 96, 97, 98, 99, 103, 104, 105])
 .ret)))))))⟩
def loc94 : List Nat := [3, 4, 5, 6, 9, 10, 13, 14, 16]
def fg94 : List (Nat × List Nat) := [(28, [3, 5, 9, 10, 13, 14, 16, 42, 43, 44, 45, 46, 47, 48, 49, 50, 51, 52, 53, 54, 55, 56, 57, 59, 60, 61, 62, 63, 64, 65, 66, 68, 69, 71, 72, 73, 74, 75, 76, 77, 78, 82, 83, 84, 85, 86, 87, 88, 89, 93, 94, 95, 96, 97, 98, 99, 103, 104, 105]), (27, [70]), (26, [15, 100]), (25, [3, 5, 9, 10, 13, 14, 15, 16, 42, 43, 44, 46, 47, 48, 49, 50, 51, 52, 53, 54, 55, 56, 57, 59, 60, 61, 62, 63, 64, 65, 66, 68, 69, 71, 72, 73, 74, 75, 76, 77, 78, 82, 83, 84, 85, 86, 87, 88, 89, 93, 94, 95, 96, 97, 98, 99, 100, 101, 102, 103, 104]), (23, [90]), (22, [3, 5, 9, 10, 13, 14, 15, 16, 42, 43, 44, 46, 47, 48, 49, 50, 51, 52, 53, 54, 55, 56, 57, 59, 60, 61, 62, 63, 64, 65, 66, 68, 69, 71, 72, 73, 74, 75, 76, 77, 78, 82, 83, 84, 85, 86, 87, 88, 89, 90, 91, 92, 93, 94, 95, 96, 97, 98, 99, 103, 104]), (20, [12, 79]), (19, [3, 5, 9, 10, 12, 13, 14, 15, 16, 42, 43, 44, 46, 47, 48, 49, 50, 51, 52, 53, 54, 55, 56, 57, 59, 60, 61, 62, 63, 64, 65, 66, 68, 69, 71, 72, 73, 74, 75, 76, 77, 78, 79, 80, 81, 82, 83, 84, 85, 86, 87, 88, 89, 93, 94, 95, 96, 97, 98, 99, 103, 104]), (17, [67]), (16, [70]), (15, [12, 67]), (14, [58]), (13, [58]), (11, [11]), (10, [45]), (8, [41]), (7, [4, 40]), (6, [37, 39]), (5, [3, 4, 5, 37, 38]), (4, [8, 20, 23, 24, 25, 26, 27, 28, 29, 30, 31, 32, 33, 34, 35, 36]), (3, [3, 4, 5, 8, 20, 21, 22]), (2, [19]), (1, [17, 18]), (0, [0, 1, 2, 7])]
theorem comp94 : compFn Try.prog loc94 (fun i => (fg94.lookup i).getD []) Try.f94 = some lit94 := by kernel_rfl

-- parcener/ratio.Check
def lit95 : AFn := ⟨1, [.tmp 2],
 (.seq
 (.ops [⟨some 1, (.boxL (.t 0)), none⟩,
 ⟨some 2, (.mv (.c (.int .i64 (0)))), none⟩]
 [] [0, 2])
 (.seq
 (.seq
 (.ops [⟨some 3, (.fad 1 (.t 1)), none⟩,
 ⟨some 4, (.load false 1 (.t 3)), none⟩,
 ⟨some 5, (.bin .lss (.t 4) (.c (.int .i64 (1)))), none⟩,
 ⟨some 6, (.mv (.t 5)), none⟩,
 ⟨some 7, (.fad 0 (.t 1)), some (6, false)⟩,
 ⟨some 8, (.load false 1 (.t 7)), some (6, false)⟩,
 ⟨some 9, (.call (.f 158) [(.t 8)]), some (6, false)⟩,
 ⟨some 10, (.fad 1 (.t 1)), some (6, false)⟩,
 ⟨some 11, (.load false 1 (.t 10)), some (6, false)⟩,
 ⟨some 12, (.conv .u64 (.t 11)), some (6, false)⟩,
 ⟨some 13, (.minmax true [(.t 9), (.t 12)]), some (6, false)⟩,
 ⟨some 14, (.bin .gtr (.t 13) (.c (.int .u64 (1000000000000000000)))), some (6, false)⟩,
 ⟨some 15, (.pick (.t 6) (.c (.bool true)) (.t 14)), none⟩,
 ⟨some 16, (.mv (.t 15)), none⟩,
 ⟨some 17, (.fad 0 (.t 1)), some (16, false)⟩,
 ⟨some 18, (.load false 1 (.t 17)), some (16, false)⟩,
 ⟨some 19, (.call (.f 158) [(.t 18)]), some (16, false)⟩,
 ⟨some 20, (.fad 1 (.t 1)), some (16, false)⟩,
 ⟨some 21, (.load false 1 (.t 20)), some (16, false)⟩,
 ⟨some 22, (.conv .u64 (.t 21)), some (16, false)⟩,
 ⟨some 23, (.call (.f 159) [(.t 19), (.t 22)]), some (16, false)⟩,
 ⟨some 24, (.bin .gtr (.t 23) (.c (.int .u64 (1)))), some (16, false)⟩,
 ⟨some 25, (.pick (.t 16) (.c (.bool true)) (.t 24)), none⟩]
 [(4, 7), (5, 7), (6, 7), (4, 8), (5, 8), (6, 8), (4, 9), (5, 9), (6, 9), (14, 17), (15, 17), (16, 17), (14, 18), (15, 18), (16, 18), (14, 19), (15, 19), (16, 19)] [1, 3, 4, 5, 6, 7, 8, 9, 10, 11, 12, 13, 14, 15, 16, 17, 18, 19, 20, 21, 22, 23, 24])
 (.cond (.t 25)
 (.seq
 (.ops [⟨some 2, (.mv (.c (.int .i64 (8)))), none⟩]
 [] [25])
 .ret)
 .skip))
 (.seq
 (.ops [⟨some 2, (.mv (.c (.int .i64 (0)))), none⟩]
 [] [25])
 .ret)))⟩
def loc95 : List Nat := [1]
def fg95 : List (Nat × List Nat) := [(3, [25]), (2, [25]), (1, [1, 3, 4, 5, 6, 7, 8, 9, 10, 11, 12, 13, 14, 15, 16, 17, 18, 19, 20, 21, 22, 23, 24]), (0, [0, 2])]
theorem comp95 : compFn Try.prog loc95 (fun i => (fg95.lookup i).getD []) Try.f95 = some lit95 := by kernel_rfl

-- parcener/ratio.Make
def lit107 : AFn := ⟨2, [.cell 4 true 2, .tmp 5],
 (.seq
 (.ops [⟨some 4, (.allocL (.agg [(.int .i64 (0)), (.int .i64 (0))])), none⟩,
 ⟨some 5, (.mv (.c (.int .i64 (0)))), none⟩]
 [] [5])
 (.seq
 (.seq
 (.ops [⟨some 9, (.mv (.t 1)), none⟩,
 ⟨some 10, (.bin .eql (.t 9) (.c (.int .i64 (0)))), none⟩]
 [] [9])
 (.cond (.t 10)
 (.seq
 (.ops [⟨some 11, (.build [(.int .i64 (0)), (.int .i64 (0))] []), none⟩,
 ⟨none, (.store 2 (.t 4) (.t 11)), none⟩,
 ⟨some 5, (.mv (.c (.int .i64 (18)))), none⟩]
 [] [0, 1, 10, 11])
 .ret)
 .skip))
 (.seq
 (.ops [⟨some 12, (.mv (.t 0)), none⟩,
 ⟨some 13, (.call (.f 158) [(.t 12)]), none⟩,
 ⟨some 14, (.mv (.t 1)), none⟩,
 ⟨some 15, (.call (.f 158) [(.t 14)]), none⟩,
 ⟨some 6, (.mv (.t 13)), none⟩,
 ⟨some 7, (.mv (.t 15)), none⟩]
 [] [10, 12, 13, 14, 15])
 (.seq
 (.ops [⟨some 16, (.mv (.t 6)), none⟩,
 ⟨some 17, (.mv (.t 7)), none⟩,
 ⟨some 18, (.call (.f 159) [(.t 16), (.t 17)]), none⟩,
 ⟨some 8, (.mv (.t 18)), none⟩]
 [] [16, 17, 18])
 (.seq
 (.ops [⟨some 19, (.mv (.t 0)), none⟩,
 ⟨some 20, (.bin .lss (.t 19) (.c (.int .i64 (0)))), none⟩,
 ⟨some 21, (.mv (.t 1)), none⟩,
 ⟨some 22, (.bin .lss (.t 21) (.c (.int .i64 (0)))), none⟩,
 ⟨some 23, (.eqB true (.t 20) (.t 22)), none⟩,
 ⟨some 24, (.mv (.t 6)), none⟩,
 ⟨some 25, (.mv (.t 8)), none⟩,
 ⟨some 26, (.bin .quo (.t 24) (.t 25)), none⟩,
 ⟨some 27, (.mv (.t 7)), none⟩,
 ⟨some 28, (.mv (.t 8)), none⟩,
 ⟨some 29, (.bin .quo (.t 27) (.t 28)), none⟩,
 ⟨some 30, (.call (.f 161) [(.t 23), (.t 26), (.t 29)]), none⟩,
 ⟨some 31, (.ext (.t 30) 0), none⟩,
 ⟨some 32, (.ext (.t 30) 1), none⟩,
 ⟨none, (.store 2 (.t 4) (.t 31)), none⟩,
 ⟨some 5, (.mv (.t 32)), none⟩]
 [(0, 2), (1, 2), (0, 3), (1, 3), (0, 5), (1, 5), (2, 5), (3, 5), (4, 5), (0, 6), (1, 6), (2, 6), (3, 6), (4, 6), (5, 6), (0, 7), (1, 7), (2, 7), (3, 7), (4, 7), (0, 8), (1, 8), (2, 8), (3, 8), (4, 8), (5, 8), (6, 8), (7, 8), (0, 9), (1, 9), (2, 9), (3, 9), (4, 9), (5, 9), (6, 9), (7, 9), (8, 9), (0, 10), (1, 10), (2, 10), (3, 10), (4, 10), (5, 10), (6, 10), (7, 10), (12, 13)] [0, 1, 6, 7, 8, 19, 20, 21, 22, 23, 24, 25, 26, 27, 28, 29, 30, 31, 32])
 .ret)))))⟩
def loc107 : List Nat := [4]
def fg107 : List (Nat × List Nat) := [(5, [0, 1, 6, 7, 8, 19, 20, 21, 22, 23, 24, 25, 26, 27, 28, 29, 30, 31, 32]), (4, [16, 17, 18]), (3, [10, 12, 13, 14, 15]), (2, [0, 1, 10, 11]), (1, [9]), (0, [5])]
theorem comp107 : compFn Try.prog loc107 (fun i => (fg107.lookup i).getD []) Try.f107 = some lit107 := by kernel_rfl

-- parcener/parcenerref03.Same
def lit122 : AFn := ⟨2, [.tmp 4],
 (.seq
 (.ops [⟨some 4, (.mv (.c (.bool false))), none⟩]
 [] [4])
 (.seq
 (.seq
 (.ops [⟨some 6, (.mv (.t 0)), none⟩,
 ⟨some 7, (.len (.t 6)), none⟩,
 ⟨some 8, (.mv (.t 1)), none⟩,
 ⟨some 9, (.len (.t 8)), none⟩,
 ⟨some 10, (.bin .neq (.t 7) (.t 9)), none⟩]
 [] [6, 7, 8, 9])
 (.cond (.t 10)
 (.seq
 (.ops [⟨some 4, (.mv (.c (.bool false))), none⟩]
 [] [0, 1, 10])
 .ret)
 .skip))
 (.seq
 (.seq
 (.ops [⟨some 5, (.mv (.c (.int .i64 (0)))), none⟩]
 [] [10])
 (.block 0
 (.loop
 (.seq
 (.seq
 (.ops [⟨some 11, (.mv (.t 5)), none⟩,
 ⟨some 12, (.mv (.t 0)), none⟩,
 ⟨some 13, (.len (.t 12)), none⟩,
 ⟨some 14, (.bin .lss (.t 11) (.t 13)), none⟩]
 [] [])
 (.cond (.t 14)
 .skip
 (.exit 0)))
 (.seq
 (.block 1
 (.seq
 (.ops [⟨some 17, (.mv (.t 0)), none⟩,
 ⟨some 18, (.mv (.t 5)), none⟩,
 ⟨some 19, (.iad 4 (.t 17) (.t 18)), none⟩,
 ⟨some 20, (.load true 4 (.t 19)), none⟩,
 ⟨some 21, (.mv (.t 1)), none⟩,
 ⟨some 22, (.mv (.t 5)), none⟩,
 ⟨some 23, (.iad 4 (.t 21) (.t 22)), none⟩,
 ⟨some 24, (.load true 4 (.t 23)), none⟩,
 ⟨some 25, (.eqA true 4 [(0, (some .i64)), (1, (some .i64)), (2, (some .i64)), (3, (some .i64))] (.t 20) (.t 24)), none⟩]
 [(0, 1), (0, 4), (1, 4), (2, 4), (3, 4), (0, 5), (1, 5), (2, 5), (3, 5), (4, 5), (0, 6), (1, 6), (2, 6), (3, 6), (0, 7), (1, 7), (2, 7), (3, 7)] [14])
 (.cond (.t 25)
 (.seq
 (.ops [⟨some 4, (.mv (.c (.bool false))), none⟩]
 [] [0, 1, 5, 11, 12, 13, 15, 16, 17, 18, 19, 20, 21, 22, 23, 24, 25])
 .ret)
 .skip)))
 (.ops [⟨some 15, (.mv (.t 5)), none⟩,
 ⟨some 16, (.bin .add (.t 15) (.c (.int .i64 (1)))), none⟩,
 ⟨some 5, (.mv (.t 16)), none⟩]
 [] [25]))))))
 (.seq
 (.ops [⟨some 4, (.mv (.c (.bool true))), none⟩]
 [] [0, 1, 5, 11, 12, 13, 14, 15, 16, 17, 18, 19, 20, 21, 22, 23, 24])
 .ret))))⟩
def loc122 : List Nat := []
def fg122 : List (Nat × List Nat) := [(8, [0, 1, 5, 11, 12, 13, 14, 15, 16, 17, 18, 19, 20, 21, 22, 23, 24]), (5, [25]), (7, [0, 1, 5, 11, 12, 13, 15, 16, 17, 18, 19, 20, 21, 22, 23, 24, 25]), (6, [14]), (3, [10]), (2, [0, 1, 10]), (1, [6, 7, 8, 9]), (0, [4])]
theorem comp122 : compFn Try.prog loc122 (fun i => (fg122.lookup i).getD []) Try.f122 = some lit122 := by kernel_rfl

-- parcener/cake.Total
def lit133 : AFn := ⟨1, [.tmp 2, .tmp 3],
 (.seq
 (.ops [⟨some 1, (.boxL (.t 0)), none⟩,
 ⟨some 2, (.mv (.c (.int .i64 (0)))), none⟩,
 ⟨some 3, (.mv (.c (.int .i64 (0)))), none⟩]
 [] [0, 2, 3])
 (.seq
 (.seq
 (.ops [⟨some 8, (.load true 3 (.t 1)), none⟩,
 ⟨some 9, (.call (.f 92) [(.t 8)]), none⟩,
 ⟨some 4, (.mv (.t 9)), none⟩]
 [] [8, 9])
 (.seq
 (.ops [⟨some 10, (.mv (.t 4)), none⟩,
 ⟨some 11, (.bin .neq (.t 10) (.c (.int .i64 (0)))), none⟩]
 [] [10])
 (.cond (.t 11)
 (.seq
 (.ops [⟨some 12, (.mv (.t 4)), none⟩,
 ⟨some 2, (.mv (.c (.int .i64 (0)))), none⟩,
 ⟨some 3, (.mv (.t 12)), none⟩]
 [] [1, 4, 11, 12])
 .ret)
 .skip)))
 (.seq
 (.ops [⟨some 5, (.mv (.c (.int .i64 (0)))), none⟩]
 [] [4, 11])
 (.seq
 (.seq
 (.ops [⟨some 13, (.fad 2 (.t 1)), none⟩,
 ⟨some 14, (.load false 1 (.t 13)), none⟩,
 ⟨some 15, (.len (.t 14)), none⟩,
 ⟨some 16, (.mv (.c (.int .i64 (0)))), none⟩]
 [] [13])
 (.block 0
 (.loop
 (.seq
 (.ops [⟨some 17, (.bin .lss (.t 16) (.t 15)), none⟩]
 [] [])
 (.seq
 (.cond (.t 17)
 .skip
 (.exit 0))
 (.seq
 (.block 1
 (.seq
 (.ops [⟨some 18, (.mv (.t 16)), none⟩,
 ⟨some 19, (.iad 1 (.t 14) (.t 16)), none⟩,
 ⟨some 20, (.load false 1 (.t 19)), none⟩,
 ⟨some 6, (.mv (.t 18)), none⟩,
 ⟨some 7, (.mv (.t 20)), none⟩]
 [] [17])
 (.ops [⟨some 21, (.mv (.t 5)), none⟩,
 ⟨some 22, (.mv (.t 7)), none⟩,
 ⟨some 23, (.fad 1 (.t 1)), none⟩,
 ⟨some 24, (.load false 1 (.t 23)), none⟩,
 ⟨some 25, (.mv (.t 6)), none⟩,
 ⟨some 26, (.bin .add (.t 25) (.c (.int .i64 (1)))), none⟩,
 ⟨some 27, (.iad 1 (.t 24) (.t 26)), none⟩,
 ⟨some 28, (.load false 1 (.t 27)), none⟩,
 ⟨some 29, (.fad 1 (.t 1)), none⟩,
 ⟨some 30, (.load false 1 (.t 29)), none⟩,
 ⟨some 31, (.mv (.t 6)), none⟩,
 ⟨some 32, (.iad 1 (.t 30) (.t 31)), none⟩,
 ⟨some 33, (.load false 1 (.t 32)), none⟩,
 ⟨some 34, (.bin .sub (.t 28) (.t 33)), none⟩,
 ⟨some 35, (.bin .mul (.t 22) (.t 34)), none⟩,
 ⟨some 36, (.bin .add (.t 21) (.t 35)), none⟩,
 ⟨some 5, (.mv (.t 36)), none⟩]
 [(0, 1), (0, 2), (1, 2), (0, 3), (1, 3), (0, 4), (1, 4), (2, 4), (3, 4), (0, 5), (1, 5), (2, 5), (3, 5), (0, 6), (1, 6), (0, 7), (1, 7), (0, 8), (1, 8), (2, 8), (3, 8), (4, 8), (5, 8), (6, 8), (7, 8), (0, 9), (1, 9), (2, 9), (3, 9), (4, 9), (5, 9), (6, 9), (7, 9), (0, 10), (1, 10), (2, 10), (3, 10), (4, 10), (5, 10), (6, 10), (7, 10), (8, 10), (9, 10), (0, 11), (1, 11), (2, 11), (3, 11), (4, 11), (5, 11), (6, 11), (7, 11), (0, 12), (1, 12), (2, 12), (3, 12), (4, 12), (5, 12), (6, 12), (7, 12), (0, 13), (1, 13), (0, 14)] [6, 7])))
 (.ops [⟨some 37, (.bin .add (.t 16) (.c (.int .i64 (1)))), none⟩,
 ⟨some 16, (.mv (.t 37)), none⟩]
 [] [])))))))
 (.seq
 (.ops [⟨some 38, (.mv (.t 5)), none⟩,
 ⟨some 2, (.mv (.t 38)), none⟩,
 ⟨some 3, (.mv (.c (.int .i64 (0)))), none⟩]
 [] [1, 5, 14, 15, 16, 17, 18, 19, 20, 21, 22, 23, 24, 25, 26, 27, 28, 29, 30, 31, 32, 33, 34, 35, 36, 37, 38])
 .ret)))))⟩
def loc133 : List Nat := [1]
def fg133 : List (Nat × List Nat) := [(10, [1, 5, 14, 15, 16, 17, 18, 19, 20, 21, 22, 23, 24, 25, 26, 27, 28, 29, 30, 31, 32, 33, 34, 35, 36, 37, 38]), (8, [6, 7]), (7, [17]), (5, [13]), (4, [4, 11]), (3, [1, 4, 11, 12]), (2, [10]), (1, [8, 9]), (0, [0, 2, 3])]
theorem comp133 : compFn Try.prog loc133 (fun i => (fg133.lookup i).getD []) Try.f133 = some lit133 := by kernel_rfl

-- parcener/ratio.Cmp
def lit149 : AFn := ⟨2, [.tmp 4, .tmp 5],
 (.seq
 (.ops [⟨some 2, (.boxL (.t 0)), none⟩,
 ⟨some 3, (.boxL (.t 1)), none⟩,
 ⟨some 4, (.mv (.c (.int .i64 (0)))), none⟩,
 ⟨some 5, (.mv (.c (.int .i64 (0)))), none⟩]
 [] [0, 1, 4, 5])
 (.seq
 (.seq
 (.ops [⟨some 12, (.load true 2 (.t 2)), none⟩,
 ⟨some 13, (.load true 2 (.t 3)), none⟩,
 ⟨some 14, (.call (.f 157) [(.t 12), (.t 13)]), none⟩,
 ⟨some 6, (.mv (.t 14)), none⟩]
 [] [12, 13, 14])
 (.seq
 (.ops [⟨some 15, (.mv (.t 6)), none⟩,
 ⟨some 16, (.bin .neq (.t 15) (.c (.int .i64 (0)))), none⟩]
 [] [15])
 (.cond (.t 16)
 (.seq
 (.ops [⟨some 17, (.mv (.t 6)), none⟩,
 ⟨some 4, (.mv (.c (.int .i64 (0)))), none⟩,
 ⟨some 5, (.mv (.t 17)), none⟩]
 [] [2, 3, 6, 16, 17])
 .ret)
 .skip)))
 (.seq
 (.seq
 (.ops [⟨some 18, (.fad 0 (.t 2)), none⟩,
 ⟨some 19, (.load false 1 (.t 18)), none⟩,
 ⟨some 20, (.bin .lss (.t 19) (.c (.int .i64 (0)))), none⟩,
 ⟨some 21, (.fad 0 (.t 3)), none⟩,
 ⟨some 22, (.load false 1 (.t 21)), none⟩,
 ⟨some 23, (.bin .lss (.t 22) (.c (.int .i64 (0)))), none⟩,
 ⟨some 24, (.eqB true (.t 20) (.t 23)), none⟩]
 [] [6, 16, 18, 19, 20, 21, 22, 23])
 (.cond (.t 24)
 (.seq
 (.ops [⟨some 25, (.fad 0 (.t 2)), none⟩,
 ⟨some 26, (.load false 1 (.t 25)), none⟩,
 ⟨some 27, (.fad 0 (.t 3)), none⟩,
 ⟨some 28, (.load false 1 (.t 27)), none⟩,
 ⟨some 29, (.call (.f 226) [(.t 26), (.t 28)]), none⟩,
 ⟨some 4, (.mv (.t 29)), none⟩,
 ⟨some 5, (.mv (.c (.int .i64 (0)))), none⟩]
 [] [2, 3, 24, 25, 26, 27, 28, 29])
 .ret)
 .skip))
 (.seq
 (.ops [⟨some 31, (.fad 0 (.t 2)), none⟩,
 ⟨some 32, (.load false 1 (.t 31)), none⟩,
 ⟨some 33, (.call (.f 158) [(.t 32)]), none⟩,
 ⟨some 34, (.fad 1 (.t 3)), none⟩,
 ⟨some 35, (.load false 1 (.t 34)), none⟩,
 ⟨some 36, (.conv .u64 (.t 35)), none⟩,
 ⟨some 37, (.call (.f 160) [(.t 33), (.t 36)]), none⟩,
 ⟨some 30, (.mv (.t 37)), none⟩,
 ⟨some 38, (.ext (.t 30) 0), none⟩,
 ⟨some 39, (.ext (.t 30) 1), none⟩,
 ⟨some 7, (.mv (.t 38)), none⟩,
 ⟨some 8, (.mv (.t 39)), none⟩]
 [(0, 3), (1, 3), (2, 3), (0, 4), (1, 4), (2, 4), (0, 5), (1, 5), (2, 5), (8, 9), (9, 10)] [24, 30, 31, 32, 33, 34, 35, 36, 37, 38, 39])
 (.seq
 (.ops [⟨some 41, (.fad 0 (.t 3)), none⟩,
 ⟨some 42, (.load false 1 (.t 41)), none⟩,
 ⟨some 43, (.call (.f 158) [(.t 42)]), none⟩,
 ⟨some 44, (.fad 1 (.t 2)), none⟩,
 ⟨some 45, (.load false 1 (.t 44)), none⟩,
 ⟨some 46, (.conv .u64 (.t 45)), none⟩,
 ⟨some 47, (.call (.f 160) [(.t 43), (.t 46)]), none⟩,
 ⟨some 40, (.mv (.t 47)), none⟩,
 ⟨some 48, (.ext (.t 40) 0), none⟩,
 ⟨some 49, (.ext (.t 40) 1), none⟩,
 ⟨some 9, (.mv (.t 48)), none⟩,
 ⟨some 10, (.mv (.t 49)), none⟩]
 [(0, 3), (1, 3), (2, 3), (0, 4), (1, 4), (2, 4), (0, 5), (1, 5), (2, 5), (8, 9), (9, 10)] [3, 40, 41, 42, 43, 44, 45, 46, 47, 48, 49])
 (.seq
 (.ops [⟨some 50, (.mv (.t 7)), none⟩,
 ⟨some 51, (.mv (.t 9)), none⟩,
 ⟨some 52, (.call (.f 228) [(.t 50), (.t 51)]), none⟩,
 ⟨some 53, (.mv (.t 8)), none⟩,
 ⟨some 54, (.mv (.t 10)), none⟩,
 ⟨some 55, (.call (.f 228) [(.t 53), (.t 54)]), none⟩,
 ⟨some 56, (.buildSl true 1 (.int .i64 (0)) 2 [(0, (.t 52)), (1, (.t 55))]), none⟩,
 ⟨some 57, (.call (.f 227) [(.t 56)]), none⟩,
 ⟨some 11, (.mv (.t 57)), none⟩]
 [] [7, 8, 9, 10, 50, 51, 52, 53, 54, 55, 56, 57])
 (.seq
 (.seq
 (.ops [⟨some 58, (.fad 0 (.t 2)), none⟩,
 ⟨some 59, (.load false 1 (.t 58)), none⟩,
 ⟨some 60, (.bin .lss (.t 59) (.c (.int .i64 (0)))), none⟩]
 [] [2, 58, 59])
 (.cond (.t 60)
 (.ops [⟨some 61, (.mv (.t 11)), none⟩,
 ⟨some 62, (.un .neg (.t 61)), none⟩,
 ⟨some 11, (.mv (.t 62)), none⟩]
 [] [60, 61, 62])
 .skip))
 (.seq
 (.ops [⟨some 63, (.mv (.t 11)), none⟩,
 ⟨some 4, (.mv (.t 63)), none⟩,
 ⟨some 5, (.mv (.c (.int .i64 (0)))), none⟩]
 [] [11, 60, 63])
 .ret))))))))⟩
def loc149 : List Nat := [2, 3]
def fg149 : List (Nat × List Nat) := [(11, [11, 60, 63]), (10, [60, 61, 62]), (9, [2, 58, 59]), (8, [7, 8, 9, 10, 50, 51, 52, 53, 54, 55, 56, 57]), (7, [3, 40, 41, 42, 43, 44, 45, 46, 47, 48, 49]), (6, [24, 30, 31, 32, 33, 34, 35, 36, 37, 38, 39]), (5, [2, 3, 24, 25, 26, 27, 28, 29]), (4, [6, 16, 18, 19, 20, 21, 22, 23]), (3, [2, 3, 6, 16, 17]), (2, [15]), (1, [12, 13, 14]), (0, [0, 1, 4, 5])]
theorem comp149 : compFn Try.prog loc149 (fun i => (fg149.lookup i).getD []) Try.f149 = some lit149 := by kernel_rfl

-- parcener/halve.order
def lit150 : AFn := ⟨2, [.tmp 4],
 (.seq
 (.ops [⟨some 2, (.boxL (.t 0)), none⟩,
 ⟨some 3, (.boxL (.t 1)), none⟩,
 ⟨some 4, (.mv (.c (.int .i64 (0)))), none⟩]
 [] [0, 1, 4])
 (.seq
 (.ops [⟨some 8, (.load true 2 (.t 2)), none⟩,
 ⟨some 9, (.load true 2 (.t 3)), none⟩,
 ⟨some 10, (.call (.f 149) [(.t 8), (.t 9)]), none⟩,
 ⟨some 7, (.mv (.t 10)), none⟩,
 ⟨some 11, (.ext (.t 7) 0), none⟩,
 ⟨some 12, (.ext (.t 7) 1), none⟩,
 ⟨some 5, (.mv (.t 11)), none⟩,
 ⟨some 6, (.mv (.t 12)), none⟩]
 [] [2, 3, 6, 7, 8, 9, 10, 11, 12])
 (.seq
 (.ops [⟨some 13, (.mv (.t 5)), none⟩,
 ⟨some 4, (.mv (.t 13)), none⟩]
 [] [5, 13])
 .ret)))⟩
def loc150 : List Nat := [2, 3]
def fg150 : List (Nat × List Nat) := [(2, [5, 13]), (1, [2, 3, 6, 7, 8, 9, 10, 11, 12]), (0, [0, 1, 4])]
theorem comp150 : compFn Try.prog loc150 (fun i => (fg150.lookup i).getD []) Try.f150 = some lit150 := by kernel_rfl

-- parcener/halve.whole
def lit151 : AFn := ⟨1, [.cell 2 true 2],
 (.seq
 (.ops [⟨some 2, (.allocL (.agg [(.int .i64 (0)), (.int .i64 (0))])), none⟩]
 [] [])
 (.seq
 (.ops [⟨some 3, (.mv (.t 0)), none⟩,
 ⟨some 4, (.build [(.int .i64 (0)), (.int .i64 (0))] [(0, 1, (.t 3)), (1, 1, (.c (.int .i64 (1))))]), none⟩,
 ⟨none, (.store 2 (.t 2) (.t 4)), none⟩]
 [] [0, 3, 4])
 .ret))⟩
def loc151 : List Nat := [2]
def fg151 : List (Nat × List Nat) := [(1, [0, 3, 4])]
theorem comp151 : compFn Try.prog loc151 (fun i => (fg151.lookup i).getD []) Try.f151 = some lit151 := by kernel_rfl

-- parcener/halve.mark
def lit152 : AFn := ⟨5, [.cell 10 true 2, .cell 11 true 2, .tmp 12],
 (.seq
 (.ops [⟨some 5, (.boxL (.t 0)), none⟩,
 ⟨some 7, (.boxL (.t 2)), none⟩,
 ⟨some 8, (.boxL (.t 3)), none⟩,
 ⟨some 9, (.boxL (.t 4)), none⟩,
 ⟨some 10, (.allocL (.agg [.nils, .nils])), none⟩,
 ⟨some 11, (.allocL (.agg [(.int .i64 (0)), (.int .i64 (0))])), none⟩,
 ⟨some 12, (.mv (.c (.int .i64 (0)))), none⟩]
 [] [0, 2, 3, 4, 12])
 (.seq
 (.ops [⟨some 17, (.load true 2 (.t 5)), none⟩,
 ⟨some 18, (.mv (.t 1)), none⟩,
 ⟨some 19, (.call (.f 229) [(.t 17), (.t 18)]), none⟩,
 ⟨some 16, (.mv (.t 19)), none⟩,
 ⟨some 20, (.ext (.t 16) 0), none⟩,
 ⟨some 21, (.ext (.t 16) 1), none⟩,
 ⟨some 13, (.mv (.t 20)), none⟩,
 ⟨some 14, (.mv (.t 21)), none⟩]
 [] [16, 17, 18, 19, 20, 21])
 (.seq
 (.ops [⟨some 22, (.mv (.t 13)), none⟩,
 ⟨some 23, (.call (.f 151) [(.t 22)]), none⟩,
 ⟨some 15, (.allocL (.agg [(.int .i64 (0)), (.int .i64 (0))])), none⟩,
 ⟨none, (.store 2 (.t 15) (.t 23)), none⟩]
 [] [13, 22, 23])
 (.seq
 (.seq
 (.ops [⟨some 24, (.mv (.t 14)), none⟩,
 ⟨some 25, (.bin .eql (.t 24) (.c (.int .i64 (0)))), none⟩,
 ⟨some 26, (.mv (.t 25)), none⟩,
 ⟨some 27, (.fad 0 (.t 7)), some (26, true)⟩,
 ⟨some 28, (.load false 1 (.t 27)), some (26, true)⟩,
 ⟨some 29, (.bin .gtr (.t 28) (.c (.int .i64 (0)))), some (26, true)⟩,
 ⟨some 30, (.mv (.t 29)), some (26, true)⟩,
 ⟨some 31, (.load true 2 (.t 8)), some (30, false)⟩,
 ⟨some 32, (.fad 0 (.t 5)), some (30, false)⟩,
 ⟨some 33, (.load false 1 (.t 32)), some (30, false)⟩,
 ⟨some 34, (.iad 3 (.t 33) (.c (.int .i64 (0)))), some (30, false)⟩,
 ⟨some 35, (.fad 0 (.t 34)), some (30, false)⟩,
 ⟨some 36, (.load false 1 (.t 35)), some (30, false)⟩,
 ⟨some 37, (.call (.f 151) [(.t 36)]), some (30, false)⟩,
 ⟨some 38, (.eqA true 2 [(0, (some .i64)), (1, (some .i64))] (.t 31) (.t 37)), some (30, false)⟩,
 ⟨some 39, (.pick (.t 30) (.c (.bool true)) (.t 38)), some (26, true)⟩,
 ⟨some 40, (.pick (.t 26) (.t 39) (.c (.bool false))), none⟩]
 [(7, 8), (7, 9), (7, 10), (7, 11), (7, 12), (7, 13)] [24, 25, 26, 27, 28, 29, 30, 31, 32, 33, 34, 35, 36, 37, 38, 39])
 (.cond (.t 40)
 (.ops [⟨some 42, (.load true 2 (.t 5)), none⟩,
 ⟨some 43, (.mv (.t 1)), none⟩,
 ⟨some 44, (.load true 2 (.t 7)), none⟩,
 ⟨some 45, (.load true 2 (.t 8)), none⟩,
 ⟨some 46, (.call (.f 178) [(.t 42), (.t 43), (.t 44), (.t 45)]), none⟩,
 ⟨some 41, (.mv (.t 46)), none⟩,
 ⟨some 47, (.ext (.t 41) 0), none⟩,
 ⟨some 48, (.ext (.t 41) 1), none⟩,
 ⟨some 49, (.ext (.t 41) 2), none⟩,
 ⟨none, (.store 2 (.t 5) (.t 47)), none⟩,
 ⟨none, (.store 2 (.t 15) (.t 48)), none⟩,
 ⟨some 14, (.mv (.t 49)), none⟩]
 [] [8, 40, 41, 42, 43, 44, 45, 46, 47, 48, 49])
 .skip))
 (.seq
 (.seq
 (.ops [⟨some 50, (.mv (.t 14)), none⟩,
 ⟨some 51, (.bin .eql (.t 50) (.c (.int .i64 (0)))), none⟩]
 [] [8, 40, 50])
 (.cond (.t 51)
 (.ops [⟨some 53, (.load true 2 (.t 15)), none⟩,
 ⟨some 54, (.load true 2 (.t 9)), none⟩,
 ⟨some 55, (.call (.f 86) [(.t 53), (.t 54)]), none⟩,
 ⟨some 52, (.mv (.t 55)), none⟩,
 ⟨some 56, (.ext (.t 52) 0), none⟩,
 ⟨some 57, (.ext (.t 52) 1), none⟩,
 ⟨none, (.store 2 (.t 15) (.t 56)), none⟩,
 ⟨some 14, (.mv (.t 57)), none⟩]
 [] [9, 51, 52, 53, 54, 55, 56, 57])
 .skip))
 (.seq
 (.seq
 (.ops [⟨some 58, (.mv (.t 14)), none⟩,
 ⟨some 59, (.bin .neq (.t 58) (.c (.int .i64 (0)))), none⟩]
 [] [9, 51, 58])
 (.cond (.t 59)
 (.seq
 (.ops [⟨some 60, (.load true 2 (.t 5)), none⟩,
 ⟨some 61, (.build [(.int .i64 (0)), (.int .i64 (0))] []), none⟩,
 ⟨some 62, (.mv (.t 14)), none⟩,
 ⟨none, (.store 2 (.t 10) (.t 60)), none⟩,
 ⟨none, (.store 2 (.t 11) (.t 61)), none⟩,
 ⟨some 12, (.mv (.t 62)), none⟩]
 [] [1, 5, 7, 14, 15, 59, 60, 61, 62])
 .ret)
 .skip))
 (.seq
 (.ops [⟨some 63, (.load true 2 (.t 5)), none⟩,
 ⟨some 64, (.mv (.t 1)), none⟩,
 ⟨some 65, (.load true 2 (.t 7)), none⟩,
 ⟨some 66, (.load true 2 (.t 15)), none⟩,
 ⟨some 67, (.call (.f 89) [(.t 63), (.t 64), (.t 65), (.t 66)]), none⟩,
 ⟨some 68, (.ext (.t 67) 0), none⟩,
 ⟨some 69, (.ext (.t 67) 1), none⟩,
 ⟨some 70, (.ext (.t 67) 2), none⟩,
 ⟨none, (.store 2 (.t 10) (.t 68)), none⟩,
 ⟨none, (.store 2 (.t 11) (.t 69)), none⟩,
 ⟨some 12, (.mv (.t 70)), none⟩]
 [] [1, 5, 7, 14, 15, 59, 63, 64, 65, 66, 67, 68, 69, 70])
 .ret)))))))⟩
def loc152 : List Nat := [5, 7, 8, 9, 10, 11, 15]
def fg152 : List (Nat × List Nat) := [(9, [1, 5, 7, 14, 15, 59, 63, 64, 65, 66, 67, 68, 69, 70]), (8, [1, 5, 7, 14, 15, 59, 60, 61, 62]), (7, [9, 51, 58]), (6, [9, 51, 52, 53, 54, 55, 56, 57]), (5, [8, 40, 50]), (4, [8, 40, 41, 42, 43, 44, 45, 46, 47, 48, 49]), (3, [24, 25, 26, 27, 28, 29, 30, 31, 32, 33, 34, 35, 36, 37, 38, 39]), (2, [13, 22, 23]), (1, [16, 17, 18, 19, 20, 21]), (0, [0, 2, 3, 4, 12])]
theorem comp152 : compFn Try.prog loc152 (fun i => (fg152.lookup i).getD []) Try.f152 = some lit152 := by kernel_rfl

-- slices.SortStableFunc[[]parcener/halve.half,parcener/halve.half]
def lit153 : AFn := ⟨2, [],
 (.ops [⟨some 4, (.mv (.t 0)), none⟩,
 ⟨some 5, (.mv (.t 0)), none⟩,
 ⟨some 6, (.len (.t 5)), none⟩,
 ⟨some 7, (.mv (.t 1)), none⟩,
 ⟨some 8, (.call (.f 230) [(.t 4), (.t 6), (.t 7)]), none⟩]
 [] [0, 1, 4, 5, 6, 7, 8])⟩
def loc153 : List Nat := []
def fg153 : List (Nat × List Nat) := [(0, [0, 1, 4, 5, 6, 7, 8])]
theorem comp153 : compFn Try.prog loc153 (fun i => (fg153.lookup i).getD []) Try.f153 = some lit153 := by kernel_rfl

-- parcener/halve.Split$1
def lit154 : AFn := ⟨2, [.tmp 4],
 (.seq
 (.ops [⟨some 2, (.boxL (.t 0)), none⟩,
 ⟨some 3, (.boxL (.t 1)), none⟩,
 ⟨some 4, (.mv (.c (.int .i64 (0)))), none⟩]
 [] [0, 1, 4])
 (.seq
 (.ops [⟨some 5, (.fad 1 (.t 2)), none⟩,
 ⟨some 6, (.load true 2 (.t 5)), none⟩,
 ⟨some 7, (.fad 1 (.t 3)), none⟩,
 ⟨some 8, (.load true 2 (.t 7)), none⟩,
 ⟨some 9, (.call (.f 150) [(.t 6), (.t 8)]), none⟩,
 ⟨some 4, (.mv (.t 9)), none⟩]
 [] [2, 3, 5, 6, 7, 8, 9])
 .ret))⟩
def loc154 : List Nat := [2, 3]
def fg154 : List (Nat × List Nat) := [(1, [2, 3, 5, 6, 7, 8, 9]), (0, [0, 1, 4])]
theorem comp154 : compFn Try.prog loc154 (fun i => (fg154.lookup i).getD []) Try.f154 = some lit154 := by kernel_rfl

-- slices.Sort[[]int,int]
def lit155 : AFn := ⟨1, [],
 (.seq
 (.ops [⟨some 3, (.mv (.t 0)), none⟩,
 ⟨some 4, (.len (.t 3)), none⟩,
 ⟨some 2, (.mv (.t 4)), none⟩]
 [] [3, 4])
 (.ops [⟨some 5, (.mv (.t 0)), none⟩,
 ⟨some 6, (.mv (.t 2)), none⟩,
 ⟨some 7, (.mv (.t 2)), none⟩,
 ⟨some 8, (.conv .u64 (.t 7)), none⟩,
 ⟨some 9, (.call (.f 156) [(.t 8)]), none⟩,
 ⟨some 10, (.call (.f 231) [(.t 5), (.c (.int .i64 (0))), (.t 6), (.t 9)]), none⟩]
 [] [0, 2, 5, 6, 7, 8, 9, 10]))⟩
def loc155 : List Nat := []
def fg155 : List (Nat × List Nat) := [(1, [0, 2, 5, 6, 7, 8, 9, 10]), (0, [3, 4])]
theorem comp155 : compFn Try.prog loc155 (fun i => (fg155.lookup i).getD []) Try.f155 = some lit155 := by kernel_rfl

-- math/bits.Len
def lit156 : AFn := ⟨1, [.tmp 2],
 (.seq
 (.ops [⟨some 2, (.mv (.c (.int .i64 (0)))), none⟩]
 [] [2])
 (.seq
 (.cond (.c (.bool false))
 (.seq
 (.ops [⟨some 3, (.mv (.t 0)), none⟩,
 ⟨some 4, (.conv .u32 (.t 3)), none⟩,
 ⟨some 5, (.call (.f 232) [(.t 4)]), none⟩,
 ⟨some 2, (.mv (.t 5)), none⟩]
 [] [0, 3, 4, 5])
 .ret)
 .skip)
 (.seq
 (.ops [⟨some 6, (.mv (.t 0)), none⟩,
 ⟨some 7, (.call (.f 233) [(.t 6)]), none⟩,
 ⟨some 2, (.mv (.t 7)), none⟩]
 [] [0, 6, 7])
 .ret)))⟩
def loc156 : List Nat := []
def fg156 : List (Nat × List Nat) := [(2, [0, 6, 7]), (1, [0, 3, 4, 5]), (0, [2])]
theorem comp156 : compFn Try.prog loc156 (fun i => (fg156.lookup i).getD []) Try.f156 = some lit156 := by kernel_rfl

-- parcener/ratio.check
def lit157 : AFn := ⟨2, [.tmp 4],
 (.seq
 (.ops [⟨some 2, (.boxL (.t 0)), none⟩,
 ⟨some 3, (.boxL (.t 1)), none⟩,
 ⟨some 4, (.mv (.c (.int .i64 (0)))), none⟩]
 [] [0, 1, 4])
 (.seq
 (.ops [⟨some 5, (.load true 2 (.t 2)), none⟩,
 ⟨some 6, (.call (.f 95) [(.t 5)]), none⟩,
 ⟨some 7, (.load true 2 (.t 3)), none⟩,
 ⟨some 8, (.call (.f 95) [(.t 7)]), none⟩,
 ⟨some 9, (.buildD 1 (.int .i64 (0)) 2 [(0, (.t 6)), (1, (.t 8))]), none⟩,
 ⟨some 10, (.call (.f 234) [(.t 9)]), none⟩,
 ⟨some 4, (.mv (.t 10)), none⟩]
 [(0, 2), (1, 2)] [2, 3, 5, 6, 7, 8, 9, 10])
 .ret))⟩
def loc157 : List Nat := [9, 2, 3]
def fg157 : List (Nat × List Nat) := [(1, [2, 3, 5, 6, 7, 8, 9, 10]), (0, [0, 1, 4])]
theorem comp157 : compFn Try.prog loc157 (fun i => (fg157.lookup i).getD []) Try.f157 = some lit157 := by kernel_rfl

-- parcener/ratio.size
def lit158 : AFn := ⟨1, [.tmp 2],
 (.seq
 (.ops [⟨some 2, (.mv (.c (.int .u64 (0)))), none⟩]
 [] [2])
 (.seq
 (.seq
 (.ops [⟨some 3, (.mv (.t 0)), none⟩,
 ⟨some 4, (.bin .lss (.t 3) (.c (.int .i64 (0)))), none⟩]
 [] [3])
 (.cond (.t 4)
 (.seq
 (.ops [⟨some 5, (.mv (.t 0)), none⟩,
 ⟨some 6, (.conv .u64 (.t 5)), none⟩,
 ⟨some 7, (.un .neg (.t 6)), none⟩,
 ⟨some 2, (.mv (.t 7)), none⟩]
 [] [0, 4, 5, 6, 7])
 .ret)
 .skip))
 (.seq
 (.ops [⟨some 8, (.mv (.t 0)), none⟩,
 ⟨some 9, (.conv .u64 (.t 8)), none⟩,
 ⟨some 2, (.mv (.t 9)), none⟩]
 [] [0, 4, 8, 9])
 .ret)))⟩
def loc158 : List Nat := []
def fg158 : List (Nat × List Nat) := [(3, [0, 4, 8, 9]), (2, [0, 4, 5, 6, 7]), (1, [3]), (0, [2])]
theorem comp158 : compFn Try.prog loc158 (fun i => (fg158.lookup i).getD []) Try.f158 = some lit158 := by kernel_rfl

-- parcener/ratio.gcd
def lit159 : AFn := ⟨2, [.tmp 4],
 (.seq
 (.ops [⟨some 4, (.mv (.c (.int .u64 (0)))), none⟩]
 [] [4])
 (.seq
 (.block 0
 (.loop
 (.seq
 (.seq
 (.ops [⟨some 5, (.mv (.t 1)), none⟩,
 ⟨some 6, (.bin .gtr (.t 5) (.c (.int .u64 (0)))), none⟩]
 [] [])
 (.cond (.t 6)
 .skip
 (.exit 0)))
 (.block 1
 (.ops [⟨some 7, (.mv (.t 1)), none⟩,
 ⟨some 8, (.mv (.t 0)), none⟩,
 ⟨some 9, (.mv (.t 1)), none⟩,
 ⟨some 10, (.bin .rem (.t 8) (.t 9)), none⟩,
 ⟨some 0, (.mv (.t 7)), none⟩,
 ⟨some 1, (.mv (.t 10)), none⟩]
 [(0, 1), (0, 2), (1, 2), (0, 3), (2, 4), (3, 4)] [6])))))
 (.seq
 (.ops [⟨some 11, (.mv (.t 0)), none⟩,
 ⟨some 4, (.mv (.t 11)), none⟩]
 [] [0, 1, 5, 6, 7, 8, 9, 10, 11])
 .ret)))⟩
def loc159 : List Nat := []
def fg159 : List (Nat × List Nat) := [(3, [0, 1, 5, 6, 7, 8, 9, 10, 11]), (2, [6]), (0, [4])]
theorem comp159 : compFn Try.prog loc159 (fun i => (fg159.lookup i).getD []) Try.f159 = some lit159 := by kernel_rfl

def tab0 : List (Nat × AFn) := [(10, lit10), (15, lit15), (22, lit22), (58, lit58), (73, lit73), (74, lit74), (75, lit75), (76, lit76), (77, lit77), (78, lit78), (79, lit79), (84, lit84), (85, lit85), (86, lit86), (87, lit87), (88, lit88), (89, lit89), (92, lit92), (93, lit93), (94, lit94), (95, lit95), (107, lit107), (122, lit122), (133, lit133), (149, lit149), (150, lit150), (151, lit151), (152, lit152), (153, lit153), (154, lit154), (155, lit155), (156, lit156), (157, lit157), (158, lit158), (159, lit159)]
theorem tabOk0 : AllOk Try.prog tab0 := ⟨⟨_, _, _, Try.func10, comp10⟩, ⟨_, _, _, Try.func15, comp15⟩, ⟨_, _, _, Try.func22, comp22⟩, ⟨_, _, _, Try.func58, comp58⟩, ⟨_, _, _, Try.func73, comp73⟩, ⟨_, _, _, Try.func74, comp74⟩, ⟨_, _, _, Try.func75, comp75⟩, ⟨_, _, _, Try.func76, comp76⟩, ⟨_, _, _, Try.func77, comp77⟩, ⟨_, _, _, Try.func78, comp78⟩, ⟨_, _, _, Try.func79, comp79⟩, ⟨_, _, _, Try.func84, comp84⟩, ⟨_, _, _, Try.func85, comp85⟩, ⟨_, _, _, Try.func86, comp86⟩, ⟨_, _, _, Try.func87, comp87⟩, ⟨_, _, _, Try.func88, comp88⟩, ⟨_, _, _, Try.func89, comp89⟩, ⟨_, _, _, Try.func92, comp92⟩, ⟨_, _, _, Try.func93, comp93⟩, ⟨_, _, _, Try.func94, comp94⟩, ⟨_, _, _, Try.func95, comp95⟩, ⟨_, _, _, Try.func107, comp107⟩, ⟨_, _, _, Try.func122, comp122⟩, ⟨_, _, _, Try.func133, comp133⟩, ⟨_, _, _, Try.func149, comp149⟩, ⟨_, _, _, Try.func150, comp150⟩, ⟨_, _, _, Try.func151, comp151⟩, ⟨_, _, _, Try.func152, comp152⟩, ⟨_, _, _, Try.func153, comp153⟩, ⟨_, _, _, Try.func154, comp154⟩, ⟨_, _, _, Try.func155, comp155⟩, ⟨_, _, _, Try.func156, comp156⟩, ⟨_, _, _, Try.func157, comp157⟩, ⟨_, _, _, Try.func158, comp158⟩, ⟨_, _, _, Try.func159, comp159⟩, trivial⟩
end Go.Proofs.Ytfkfmlifhdcolaa.Ha
