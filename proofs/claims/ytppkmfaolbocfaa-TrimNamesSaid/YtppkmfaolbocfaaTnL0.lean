/- The functions that the statement TrimNames runs, in the small code (part 0); each is what the framework makes of the program. -/
import Derived.Test.YtppkmfaolbocfaaFw27
import Derived.Test.YtppkmfaolbocfaaRows
namespace Go.Proofs.Ytppkmfaolbocfaa.Tn
open Go Go.Pf
-- parcener/parcenerlaw08.TrimNames
def lit3 : AFn := ⟨0, [.tmp 0],
 (.seq
 (.ops [⟨some 0, (.mv (.c (.bool false))), none⟩]
 [] [0])
 (.seq
 (.ops [⟨some 51, (.call (.f 4) []), none⟩,
 ⟨some 52, (.build [.nils, .nils] [(0, 1, (.t 51))]), none⟩,
 ⟨some 1, (.allocL (.agg [.nils, .nils])), none⟩,
 ⟨none, (.store 2 (.t 1) (.t 52)), none⟩]
 [] [51, 52])
 (.seq
 (.ops [⟨some 54, (.load true 2 (.t 1)), none⟩,
 ⟨some 55, (.buildD 1 (.int .i64 (0)) 2 [(0, (.c (.int .i64 (0)))), (1, (.c (.int .i64 (2))))]), none⟩,
 ⟨some 56, (.call (.f 6) [(.c (.int .i64 (1)))]), none⟩,
 ⟨some 57, (.call (.f 5) [(.t 54), (.t 55), (.t 56)]), none⟩,
 ⟨some 53, (.mv (.t 57)), none⟩,
 ⟨some 58, (.ext (.t 53) 0), none⟩,
 ⟨some 59, (.ext (.t 53) 1), none⟩,
 ⟨some 60, (.ext (.t 53) 2), none⟩,
 ⟨some 2, (.allocL (.agg [.nils, .nils])), none⟩,
 ⟨some 3, (.allocL (.agg [(.int .i64 (0)), (.int .i64 (0)), (.int .i64 (0)), (.int .i64 (0)), (.int .i64 (0)), (.int .i64 (0))])), none⟩,
 ⟨none, (.store 2 (.t 2) (.t 58)), none⟩,
 ⟨none, (.store 6 (.t 3) (.t 59)), none⟩,
 ⟨some 4, (.mv (.t 60)), none⟩]
 [(0, 1), (0, 2), (1, 2), (5, 6), (5, 7), (6, 7), (0, 8), (1, 8), (2, 8), (3, 8), (4, 8), (5, 8), (6, 8), (7, 8), (0, 9), (1, 9), (2, 9), (3, 9), (4, 9), (5, 9), (6, 9), (7, 9), (8, 9), (6, 10), (7, 10), (7, 11)] [53, 54, 55, 56, 57, 58, 59, 60])
 (.seq
 (.ops [⟨some 62, (.load true 2 (.t 1)), none⟩,
 ⟨some 63, (.buildD 1 (.int .i64 (0)) 1 [(0, (.c (.int .i64 (1))))]), none⟩,
 ⟨some 64, (.call (.f 6) [(.c (.int .i64 (5)))]), none⟩,
 ⟨some 65, (.call (.f 5) [(.t 62), (.t 63), (.t 64)]), none⟩,
 ⟨some 61, (.mv (.t 65)), none⟩,
 ⟨some 66, (.ext (.t 61) 0), none⟩,
 ⟨some 67, (.ext (.t 61) 1), none⟩,
 ⟨some 68, (.ext (.t 61) 2), none⟩,
 ⟨some 5, (.allocL (.agg [.nils, .nils])), none⟩,
 ⟨some 6, (.allocL (.agg [(.int .i64 (0)), (.int .i64 (0)), (.int .i64 (0)), (.int .i64 (0)), (.int .i64 (0)), (.int .i64 (0))])), none⟩,
 ⟨none, (.store 2 (.t 5) (.t 66)), none⟩,
 ⟨none, (.store 6 (.t 6) (.t 67)), none⟩,
 ⟨some 7, (.mv (.t 68)), none⟩]
 [(0, 1), (0, 2), (1, 2), (5, 6), (5, 7), (6, 7), (0, 8), (1, 8), (2, 8), (3, 8), (4, 8), (5, 8), (6, 8), (7, 8), (0, 9), (1, 9), (2, 9), (3, 9), (4, 9), (5, 9), (6, 9), (7, 9), (8, 9), (6, 10), (7, 10), (7, 11)] [61, 62, 63, 64, 65, 66, 67, 68])
 (.seq
 (.ops [⟨some 70, (.load true 2 (.t 1)), none⟩,
 ⟨some 71, (.call (.f 6) [(.c (.int .i64 (0)))]), none⟩,
 ⟨some 72, (.call (.f 5) [(.t 70), (.c .nils), (.t 71)]), none⟩,
 ⟨some 69, (.mv (.t 72)), none⟩,
 ⟨some 73, (.ext (.t 69) 0), none⟩,
 ⟨some 74, (.ext (.t 69) 1), none⟩,
 ⟨some 75, (.ext (.t 69) 2), none⟩,
 ⟨some 8, (.allocL (.agg [.nils, .nils])), none⟩,
 ⟨some 9, (.allocL (.agg [(.int .i64 (0)), (.int .i64 (0)), (.int .i64 (0)), (.int .i64 (0)), (.int .i64 (0)), (.int .i64 (0))])), none⟩,
 ⟨none, (.store 2 (.t 8) (.t 73)), none⟩,
 ⟨none, (.store 6 (.t 9) (.t 74)), none⟩,
 ⟨some 10, (.mv (.t 75)), none⟩]
 [(0, 1), (4, 5), (4, 6), (5, 6), (0, 7), (1, 7), (2, 7), (3, 7), (4, 7), (5, 7), (6, 7), (0, 8), (1, 8), (2, 8), (3, 8), (4, 8), (5, 8), (6, 8), (7, 8), (5, 9), (6, 9), (6, 10)] [8, 9, 69, 70, 71, 72, 73, 74, 75])
 (.seq
 (.ops [⟨some 77, (.load true 2 (.t 1)), none⟩,
 ⟨some 78, (.buildD 1 (.int .i64 (0)) 2 [(0, (.c (.int .i64 (1)))), (1, (.c (.int .i64 (0))))]), none⟩,
 ⟨some 79, (.call (.f 6) [(.c (.int .i64 (0)))]), none⟩,
 ⟨some 80, (.call (.f 5) [(.t 77), (.t 78), (.t 79)]), none⟩,
 ⟨some 76, (.mv (.t 80)), none⟩,
 ⟨some 81, (.ext (.t 76) 0), none⟩,
 ⟨some 82, (.ext (.t 76) 1), none⟩,
 ⟨some 83, (.ext (.t 76) 2), none⟩,
 ⟨some 11, (.allocL (.agg [.nils, .nils])), none⟩,
 ⟨some 12, (.allocL (.agg [(.int .i64 (0)), (.int .i64 (0)), (.int .i64 (0)), (.int .i64 (0)), (.int .i64 (0)), (.int .i64 (0))])), none⟩,
 ⟨none, (.store 2 (.t 11) (.t 81)), none⟩,
 ⟨none, (.store 6 (.t 12) (.t 82)), none⟩,
 ⟨some 13, (.mv (.t 83)), none⟩]
 [(0, 1), (0, 2), (1, 2), (5, 6), (5, 7), (6, 7), (0, 8), (1, 8), (2, 8), (3, 8), (4, 8), (5, 8), (6, 8), (7, 8), (0, 9), (1, 9), (2, 9), (3, 9), (4, 9), (5, 9), (6, 9), (7, 9), (8, 9), (6, 10), (7, 10), (7, 11)] [11, 12, 76, 77, 78, 79, 80, 81, 82, 83])
 (.seq
 (.ops [⟨some 85, (.load true 2 (.t 1)), none⟩,
 ⟨some 86, (.buildD 1 (.int .i64 (0)) 2 [(0, (.c (.int .i64 (0)))), (1, (.c (.int .i64 (3))))]), none⟩,
 ⟨some 87, (.call (.f 6) [(.c (.int .i64 (0)))]), none⟩,
 ⟨some 88, (.call (.f 5) [(.t 85), (.t 86), (.t 87)]), none⟩,
 ⟨some 84, (.mv (.t 88)), none⟩,
 ⟨some 89, (.ext (.t 84) 0), none⟩,
 ⟨some 90, (.ext (.t 84) 1), none⟩,
 ⟨some 91, (.ext (.t 84) 2), none⟩,
 ⟨some 14, (.allocL (.agg [.nils, .nils])), none⟩,
 ⟨some 15, (.allocL (.agg [(.int .i64 (0)), (.int .i64 (0)), (.int .i64 (0)), (.int .i64 (0)), (.int .i64 (0)), (.int .i64 (0))])), none⟩,
 ⟨none, (.store 2 (.t 14) (.t 89)), none⟩,
 ⟨none, (.store 6 (.t 15) (.t 90)), none⟩,
 ⟨some 16, (.mv (.t 91)), none⟩]
 [(0, 1), (0, 2), (1, 2), (5, 6), (5, 7), (6, 7), (0, 8), (1, 8), (2, 8), (3, 8), (4, 8), (5, 8), (6, 8), (7, 8), (0, 9), (1, 9), (2, 9), (3, 9), (4, 9), (5, 9), (6, 9), (7, 9), (8, 9), (6, 10), (7, 10), (7, 11)] [14, 15, 84, 85, 86, 87, 88, 89, 90, 91])
 (.seq
 (.ops [⟨some 93, (.load true 2 (.t 1)), none⟩,
 ⟨some 94, (.buildD 1 (.int .i64 (0)) 1 [(0, (.c (.int .i64 (0))))]), none⟩,
 ⟨some 95, (.call (.f 6) [(.c (.int .i64 (6)))]), none⟩,
 ⟨some 96, (.call (.f 5) [(.t 93), (.t 94), (.t 95)]), none⟩,
 ⟨some 92, (.mv (.t 96)), none⟩,
 ⟨some 97, (.ext (.t 92) 0), none⟩,
 ⟨some 98, (.ext (.t 92) 1), none⟩,
 ⟨some 99, (.ext (.t 92) 2), none⟩,
 ⟨some 17, (.allocL (.agg [.nils, .nils])), none⟩,
 ⟨some 18, (.allocL (.agg [(.int .i64 (0)), (.int .i64 (0)), (.int .i64 (0)), (.int .i64 (0)), (.int .i64 (0)), (.int .i64 (0))])), none⟩,
 ⟨none, (.store 2 (.t 17) (.t 97)), none⟩,
 ⟨none, (.store 6 (.t 18) (.t 98)), none⟩,
 ⟨some 19, (.mv (.t 99)), none⟩]
 [(0, 1), (0, 2), (1, 2), (5, 6), (5, 7), (6, 7), (0, 8), (1, 8), (2, 8), (3, 8), (4, 8), (5, 8), (6, 8), (7, 8), (0, 9), (1, 9), (2, 9), (3, 9), (4, 9), (5, 9), (6, 9), (7, 9), (8, 9), (6, 10), (7, 10), (7, 11)] [17, 18, 92, 93, 94, 95, 96, 97, 98, 99])
 (.seq
 (.ops [⟨some 101, (.load true 2 (.t 1)), none⟩,
 ⟨some 102, (.buildD 1 (.int .i64 (0)) 1 [(0, (.c (.int .i64 (0))))]), none⟩,
 ⟨some 103, (.build [(.int .i64 (0)), (.int .i64 (0))] [(0, 1, (.c (.int .i64 (2)))), (1, 1, (.c (.int .i64 (2))))]), none⟩,
 ⟨some 104, (.call (.f 5) [(.t 101), (.t 102), (.t 103)]), none⟩,
 ⟨some 100, (.mv (.t 104)), none⟩,
 ⟨some 105, (.ext (.t 100) 0), none⟩,
 ⟨some 106, (.ext (.t 100) 1), none⟩,
 ⟨some 107, (.ext (.t 100) 2), none⟩,
 ⟨some 20, (.allocL (.agg [.nils, .nils])), none⟩,
 ⟨some 21, (.allocL (.agg [(.int .i64 (0)), (.int .i64 (0)), (.int .i64 (0)), (.int .i64 (0)), (.int .i64 (0)), (.int .i64 (0))])), none⟩,
 ⟨none, (.store 2 (.t 20) (.t 105)), none⟩,
 ⟨none, (.store 6 (.t 21) (.t 106)), none⟩,
 ⟨some 22, (.mv (.t 107)), none⟩]
 [] [20, 21, 100, 101, 102, 103, 104, 105, 106, 107])
 (.seq
 (.ops [⟨some 109, (.load true 2 (.t 1)), none⟩,
 ⟨some 110, (.buildD 1 (.int .i64 (0)) 2 [(0, (.c (.int .i64 (0)))), (1, (.c (.int .i64 (1))))]), none⟩,
 ⟨some 111, (.call (.f 6) [(.c (.int .i64 (5)))]), none⟩,
 ⟨some 112, (.call (.f 5) [(.t 109), (.t 110), (.t 111)]), none⟩,
 ⟨some 108, (.mv (.t 112)), none⟩,
 ⟨some 113, (.ext (.t 108) 0), none⟩,
 ⟨some 114, (.ext (.t 108) 1), none⟩,
 ⟨some 115, (.ext (.t 108) 2), none⟩,
 ⟨some 23, (.allocL (.agg [.nils, .nils])), none⟩,
 ⟨some 24, (.allocL (.agg [(.int .i64 (0)), (.int .i64 (0)), (.int .i64 (0)), (.int .i64 (0)), (.int .i64 (0)), (.int .i64 (0))])), none⟩,
 ⟨none, (.store 2 (.t 23) (.t 113)), none⟩,
 ⟨none, (.store 6 (.t 24) (.t 114)), none⟩,
 ⟨some 25, (.mv (.t 115)), none⟩]
 [(0, 1), (0, 2), (1, 2), (5, 6), (5, 7), (6, 7), (0, 8), (1, 8), (2, 8), (3, 8), (4, 8), (5, 8), (6, 8), (7, 8), (0, 9), (1, 9), (2, 9), (3, 9), (4, 9), (5, 9), (6, 9), (7, 9), (8, 9), (6, 10), (7, 10), (7, 11)] [1, 23, 24, 108, 109, 110, 111, 112, 113, 114, 115])
 (.seq
 (.ops [⟨some 117, (.build [.nils, .nils] []), none⟩,
 ⟨some 118, (.build [(.int .i64 (0)), (.int .i64 (0))] []), none⟩,
 ⟨some 119, (.call (.f 5) [(.t 117), (.c .nils), (.t 118)]), none⟩,
 ⟨some 116, (.mv (.t 119)), none⟩,
 ⟨some 120, (.ext (.t 116) 0), none⟩,
 ⟨some 121, (.ext (.t 116) 1), none⟩,
 ⟨some 122, (.ext (.t 116) 2), none⟩,
 ⟨some 26, (.allocL (.agg [.nils, .nils])), none⟩,
 ⟨some 27, (.allocL (.agg [(.int .i64 (0)), (.int .i64 (0)), (.int .i64 (0)), (.int .i64 (0)), (.int .i64 (0)), (.int .i64 (0))])), none⟩,
 ⟨none, (.store 2 (.t 26) (.t 120)), none⟩,
 ⟨none, (.store 6 (.t 27) (.t 121)), none⟩,
 ⟨some 28, (.mv (.t 122)), none⟩]
 [] [26, 27, 116, 117, 118, 119, 120, 121, 122])
 (.seq
 (.ops [⟨some 123, (.mv (.t 4)), none⟩,
 ⟨some 124, (.bin .eql (.t 123) (.c (.int .i64 (0)))), none⟩,
 ⟨some 125, (.mv (.t 124)), none⟩,
 ⟨some 126, (.load true 6 (.t 3)), some (125, true)⟩,
 ⟨some 127, (.call (.f 6) [(.c (.int .i64 (1)))]), some (125, true)⟩,
 ⟨some 128, (.build [(.int .i64 (0)), (.int .i64 (0))] [(0, 1, (.c (.int .i64 (5)))), (1, 1, (.c (.int .i64 (3))))]), some (125, true)⟩,
 ⟨some 129, (.build [(.int .i64 (0)), (.int .i64 (0)), (.int .i64 (0)), (.int .i64 (0)), (.int .i64 (0)), (.int .i64 (0))] [(0, 1, (.c (.int .i64 (2)))), (1, 2, (.t 127)), (3, 2, (.t 128)), (5, 1, (.c (.int .i64 (1))))]), some (125, true)⟩,
 ⟨some 130, (.eqA false 6 [(0, (some .i64)), (1, (some .i64)), (2, (some .i64)), (3, (some .i64)), (4, (some .i64)), (5, (some .i64))] (.t 126) (.t 129)), some (125, true)⟩,
 ⟨some 131, (.pick (.t 125) (.t 130) (.c (.bool false))), none⟩,
 ⟨some 132, (.mv (.t 131)), none⟩,
 ⟨some 133, (.fad 1 (.t 2)), some (132, true)⟩,
 ⟨some 134, (.load false 1 (.t 133)), some (132, true)⟩,
 ⟨some 135, (.len (.t 134)), some (132, true)⟩,
 ⟨some 136, (.bin .eql (.t 135) (.c (.int .i64 (3)))), some (132, true)⟩,
 ⟨some 137, (.pick (.t 132) (.t 136) (.c (.bool false))), none⟩,
 ⟨some 138, (.mv (.t 137)), none⟩,
 ⟨some 139, (.mv (.t 7)), some (138, true)⟩,
 ⟨some 140, (.bin .eql (.t 139) (.c (.int .i64 (0)))), some (138, true)⟩,
 ⟨some 141, (.pick (.t 138) (.t 140) (.c (.bool false))), none⟩,
 ⟨some 142, (.mv (.t 141)), none⟩,
 ⟨some 143, (.load true 6 (.t 6)), some (142, true)⟩,
 ⟨some 144, (.call (.f 6) [(.c (.int .i64 (5)))]), some (142, true)⟩,
 ⟨some 145, (.call (.f 6) [(.c (.int .i64 (6)))]), some (142, true)⟩,
 ⟨some 146, (.build [(.int .i64 (0)), (.int .i64 (0)), (.int .i64 (0)), (.int .i64 (0)), (.int .i64 (0)), (.int .i64 (0))] [(0, 1, (.c (.int .i64 (1)))), (1, 2, (.t 144)), (3, 2, (.t 145))]), some (142, true)⟩,
 ⟨some 147, (.eqA false 6 [(0, (some .i64)), (1, (some .i64)), (2, (some .i64)), (3, (some .i64)), (4, (some .i64)), (5, (some .i64))] (.t 143) (.t 146)), some (142, true)⟩,
 ⟨some 148, (.pick (.t 142) (.t 147) (.c (.bool false))), none⟩,
 ⟨some 149, (.mv (.t 148)), none⟩,
 ⟨some 150, (.fad 1 (.t 5)), some (149, true)⟩,
 ⟨some 151, (.load false 1 (.t 150)), some (149, true)⟩,
 ⟨some 152, (.len (.t 151)), some (149, true)⟩,
 ⟨some 153, (.bin .eql (.t 152) (.c (.int .i64 (0)))), some (149, true)⟩,
 ⟨some 154, (.pick (.t 149) (.t 153) (.c (.bool false))), none⟩,
 ⟨some 155, (.mv (.t 154)), none⟩,
 ⟨some 156, (.mv (.t 10)), some (155, true)⟩,
 ⟨some 157, (.bin .eql (.t 156) (.c (.int .i64 (2)))), some (155, true)⟩,
 ⟨some 158, (.pick (.t 155) (.t 157) (.c (.bool false))), none⟩,
 ⟨some 159, (.mv (.t 158)), none⟩,
 ⟨some 160, (.mv (.t 13)), some (159, true)⟩,
 ⟨some 161, (.bin .eql (.t 160) (.c (.int .i64 (2)))), some (159, true)⟩,
 ⟨some 162, (.pick (.t 159) (.t 161) (.c (.bool false))), none⟩,
 ⟨some 163, (.mv (.t 162)), none⟩,
 ⟨some 164, (.mv (.t 16)), some (163, true)⟩,
 ⟨some 165, (.bin .eql (.t 164) (.c (.int .i64 (2)))), some (163, true)⟩,
 ⟨some 166, (.pick (.t 163) (.t 165) (.c (.bool false))), none⟩,
 ⟨some 167, (.mv (.t 166)), none⟩,
 ⟨some 168, (.mv (.t 19)), some (167, true)⟩,
 ⟨some 169, (.bin .eql (.t 168) (.c (.int .i64 (2)))), some (167, true)⟩,
 ⟨some 170, (.pick (.t 167) (.t 169) (.c (.bool false))), none⟩,
 ⟨some 171, (.mv (.t 170)), none⟩,
 ⟨some 172, (.mv (.t 22)), some (171, true)⟩,
 ⟨some 173, (.bin .eql (.t 172) (.c (.int .i64 (2)))), some (171, true)⟩,
 ⟨some 174, (.pick (.t 171) (.t 173) (.c (.bool false))), none⟩,
 ⟨some 175, (.mv (.t 174)), none⟩,
 ⟨some 176, (.mv (.t 25)), some (175, true)⟩,
 ⟨some 177, (.bin .eql (.t 176) (.c (.int .i64 (6)))), some (175, true)⟩,
 ⟨some 178, (.pick (.t 175) (.t 177) (.c (.bool false))), none⟩,
 ⟨some 179, (.mv (.t 178)), none⟩,
 ⟨some 180, (.mv (.t 28)), some (179, true)⟩,
 ⟨some 181, (.bin .eql (.t 180) (.c (.int .i64 (8)))), some (179, true)⟩,
 ⟨some 182, (.pick (.t 179) (.t 181) (.c (.bool false))), none⟩,
 ⟨some 29, (.mv (.t 182)), none⟩]
 [(3, 4), (3, 5), (4, 5), (3, 6), (20, 21), (20, 22), (20, 23)] [2, 3, 4, 5, 6, 7, 10, 13, 16, 19, 22, 25, 28, 123, 124, 125, 126, 127, 128, 129, 130, 131, 132, 133, 134, 135, 136, 137, 138, 139, 140, 141, 142, 143, 144, 145, 146, 147, 148, 149, 150, 151, 152, 153, 154, 155, 156, 157, 158, 159, 160, 161, 162, 163, 164, 165, 166, 167, 168, 169, 170, 171, 172, 173, 174, 175, 176, 177, 178, 179, 180, 181, 182])
 (.seq
 (.ops [⟨some 184, (.call (.f 4) []), none⟩,
 ⟨some 185, (.slc 3 (.t 184) none (some (.c (.int .i64 (1)))) none), none⟩,
 ⟨some 186, (.call (.f 7) [(.t 185)]), none⟩,
 ⟨some 183, (.mv (.t 186)), none⟩,
 ⟨some 187, (.ext (.t 183) 0), none⟩,
 ⟨some 188, (.ext (.t 183) 1), none⟩,
 ⟨some 189, (.ext (.t 183) 2), none⟩,
 ⟨some 190, (.ext (.t 183) 3), none⟩,
 ⟨some 30, (.allocL (.agg [.nils])), none⟩,
 ⟨none, (.store 1 (.t 30) (.t 187)), none⟩,
 ⟨some 31, (.mv (.t 188)), none⟩,
 ⟨some 32, (.mv (.t 189)), none⟩,
 ⟨some 33, (.mv (.t 190)), none⟩]
 [] [183, 184, 185, 186, 187, 188, 189, 190])
 (.seq
 (.ops [⟨some 192, (.call (.f 7) [(.c .nils)]), none⟩,
 ⟨some 191, (.mv (.t 192)), none⟩,
 ⟨some 193, (.ext (.t 191) 0), none⟩,
 ⟨some 194, (.ext (.t 191) 1), none⟩,
 ⟨some 195, (.ext (.t 191) 2), none⟩,
 ⟨some 196, (.ext (.t 191) 3), none⟩,
 ⟨some 34, (.allocL (.agg [.nils])), none⟩,
 ⟨none, (.store 1 (.t 34) (.t 193)), none⟩,
 ⟨some 35, (.mv (.t 194)), none⟩,
 ⟨some 36, (.mv (.t 195)), none⟩,
 ⟨some 37, (.mv (.t 196)), none⟩]
 [] [34, 35, 36, 191, 192, 193, 194, 195, 196])
 (.seq
 (.ops [⟨some 198, (.mkSl true 3 56 (.agg [(.int .i64 (0)), (.data []), (.data [])]) (.c (.int .i64 (7))) (.c (.int .i64 (7)))), none⟩,
 ⟨some 199, (.call (.f 7) [(.t 198)]), none⟩,
 ⟨some 197, (.mv (.t 199)), none⟩,
 ⟨some 200, (.ext (.t 197) 0), none⟩,
 ⟨some 201, (.ext (.t 197) 1), none⟩,
 ⟨some 202, (.ext (.t 197) 2), none⟩,
 ⟨some 203, (.ext (.t 197) 3), none⟩,
 ⟨some 38, (.allocL (.agg [.nils])), none⟩,
 ⟨none, (.store 1 (.t 38) (.t 200)), none⟩,
 ⟨some 39, (.mv (.t 201)), none⟩,
 ⟨some 40, (.mv (.t 202)), none⟩,
 ⟨some 41, (.mv (.t 203)), none⟩]
 [] [38, 39, 40, 197, 198, 199, 200, 201, 202, 203])
 (.seq
 (.ops [⟨some 205, (.call (.f 8) [(.c (.int .i64 (0)))]), none⟩,
 ⟨some 204, (.mv (.t 205)), none⟩,
 ⟨some 206, (.ext (.t 204) 0), none⟩,
 ⟨some 207, (.ext (.t 204) 1), none⟩,
 ⟨some 42, (.mv (.t 206)), none⟩,
 ⟨some 43, (.mv (.t 207)), none⟩]
 [] [42, 204, 205, 206, 207])
 (.seq
 (.ops [⟨some 209, (.call (.f 8) [(.c (.int .i64 (7)))]), none⟩,
 ⟨some 208, (.mv (.t 209)), none⟩,
 ⟨some 210, (.ext (.t 208) 0), none⟩,
 ⟨some 211, (.ext (.t 208) 1), none⟩,
 ⟨some 44, (.mv (.t 210)), none⟩,
 ⟨some 45, (.mv (.t 211)), none⟩]
 [] [44, 208, 209, 210, 211])
 (.seq
 (.ops [⟨some 213, (.call (.f 8) [(.c (.int .i64 (6)))]), none⟩,
 ⟨some 212, (.mv (.t 213)), none⟩,
 ⟨some 214, (.ext (.t 212) 0), none⟩,
 ⟨some 215, (.ext (.t 212) 1), none⟩,
 ⟨some 46, (.mv (.t 214)), none⟩,
 ⟨some 47, (.mv (.t 215)), none⟩]
 [] [212, 213, 214, 215])
 (.seq
 (.ops [⟨some 217, (.call (.f 8) [(.c (.int .i64 (1)))]), none⟩,
 ⟨some 216, (.mv (.t 217)), none⟩,
 ⟨some 218, (.ext (.t 216) 0), none⟩,
 ⟨some 219, (.ext (.t 216) 1), none⟩,
 ⟨some 48, (.mv (.t 218)), none⟩,
 ⟨some 49, (.mv (.t 219)), none⟩]
 [] [216, 217, 218, 219])
 (.seq
 (.ops [⟨some 220, (.mv (.t 33)), none⟩,
 ⟨some 221, (.bin .eql (.t 220) (.c (.int .i64 (0)))), none⟩,
 ⟨some 222, (.mv (.t 221)), none⟩,
 ⟨some 223, (.mv (.t 31)), some (222, true)⟩,
 ⟨some 224, (.len (.t 223)), some (222, true)⟩,
 ⟨some 225, (.bin .eql (.t 224) (.c (.int .i64 (1)))), some (222, true)⟩,
 ⟨some 226, (.pick (.t 222) (.t 225) (.c (.bool false))), none⟩,
 ⟨some 227, (.mv (.t 226)), none⟩,
 ⟨some 228, (.mv (.t 32)), some (227, true)⟩,
 ⟨some 229, (.len (.t 228)), some (227, true)⟩,
 ⟨some 230, (.bin .eql (.t 229) (.c (.int .i64 (0)))), some (227, true)⟩,
 ⟨some 231, (.pick (.t 227) (.t 230) (.c (.bool false))), none⟩,
 ⟨some 232, (.mv (.t 231)), none⟩,
 ⟨some 233, (.fad 0 (.t 30)), some (232, true)⟩,
 ⟨some 234, (.load false 1 (.t 233)), some (232, true)⟩,
 ⟨some 235, (.len (.t 234)), some (232, true)⟩,
 ⟨some 236, (.bin .eql (.t 235) (.c (.int .i64 (1)))), some (232, true)⟩,
 ⟨some 237, (.pick (.t 232) (.t 236) (.c (.bool false))), none⟩,
 ⟨some 238, (.mv (.t 237)), none⟩,
 ⟨some 239, (.mv (.t 37)), some (238, true)⟩,
 ⟨some 240, (.bin .eql (.t 239) (.c (.int .i64 (8)))), some (238, true)⟩,
 ⟨some 241, (.pick (.t 238) (.t 240) (.c (.bool false))), none⟩,
 ⟨some 242, (.mv (.t 241)), none⟩,
 ⟨some 243, (.mv (.t 41)), some (242, true)⟩,
 ⟨some 244, (.bin .eql (.t 243) (.c (.int .i64 (4)))), some (242, true)⟩,
 ⟨some 245, (.pick (.t 242) (.t 244) (.c (.bool false))), none⟩,
 ⟨some 246, (.mv (.t 245)), none⟩,
 ⟨some 247, (.mv (.t 43)), some (246, true)⟩,
 ⟨some 248, (.bin .eql (.t 247) (.c (.int .i64 (2)))), some (246, true)⟩,
 ⟨some 249, (.pick (.t 246) (.t 248) (.c (.bool false))), none⟩,
 ⟨some 250, (.mv (.t 249)), none⟩,
 ⟨some 251, (.mv (.t 45)), some (250, true)⟩,
 ⟨some 252, (.bin .eql (.t 251) (.c (.int .i64 (2)))), some (250, true)⟩,
 ⟨some 253, (.pick (.t 250) (.t 252) (.c (.bool false))), none⟩,
 ⟨some 254, (.mv (.t 253)), none⟩,
 ⟨some 255, (.mv (.t 47)), some (254, true)⟩,
 ⟨some 256, (.bin .eql (.t 255) (.c (.int .i64 (0)))), some (254, true)⟩,
 ⟨some 257, (.pick (.t 254) (.t 256) (.c (.bool false))), none⟩,
 ⟨some 258, (.mv (.t 257)), none⟩,
 ⟨some 259, (.mv (.t 46)), some (258, true)⟩,
 ⟨some 260, (.bin .eql (.t 259) (.c (.int .i64 (35)))), some (258, true)⟩,
 ⟨some 261, (.pick (.t 258) (.t 260) (.c (.bool false))), none⟩,
 ⟨some 262, (.mv (.t 261)), none⟩,
 ⟨some 263, (.mv (.t 49)), some (262, true)⟩,
 ⟨some 264, (.bin .eql (.t 263) (.c (.int .i64 (0)))), some (262, true)⟩,
 ⟨some 265, (.pick (.t 262) (.t 264) (.c (.bool false))), none⟩,
 ⟨some 266, (.mv (.t 265)), none⟩,
 ⟨some 267, (.mv (.t 48)), some (266, true)⟩,
 ⟨some 268, (.bin .eql (.t 267) (.c (.int .i64 (0)))), some (266, true)⟩,
 ⟨some 269, (.pick (.t 266) (.t 268) (.c (.bool false))), none⟩,
 ⟨some 50, (.mv (.t 269)), none⟩]
 [] [30, 31, 32, 33, 37, 41, 43, 45, 46, 47, 48, 49, 220, 221, 222, 223, 224, 225, 226, 227, 228, 229, 230, 231, 232, 233, 234, 235, 236, 237, 238, 239, 240, 241, 242, 243, 244, 245, 246, 247, 248, 249, 250, 251, 252, 253, 254, 255, 256, 257, 258, 259, 260, 261, 262, 263, 264, 265, 266, 267, 268, 269])
 (.seq
 (.ops [⟨some 270, (.mv (.t 29)), none⟩,
 ⟨some 271, (.mv (.t 270)), none⟩,
 ⟨some 272, (.mv (.t 50)), some (271, true)⟩,
 ⟨some 273, (.pick (.t 271) (.t 272) (.c (.bool false))), none⟩,
 ⟨some 274, (.mv (.t 273)), none⟩,
 ⟨some 275, (.call (.f 9) []), some (274, true)⟩,
 ⟨some 276, (.pick (.t 274) (.t 275) (.c (.bool false))), none⟩,
 ⟨some 0, (.mv (.t 276)), none⟩]
 [] [29, 50, 270, 271, 272, 273, 274, 275, 276])
 .ret)))))))))))))))))))))⟩
def loc3 : List Nat := [55, 63, 78, 86, 94, 102, 110, 1, 2, 3, 5, 6, 8, 9, 11, 12, 14, 15, 17, 18, 20, 21, 23, 24, 26, 27, 30, 34, 38]
def fg3 : List (Nat × List Nat) := [(20, [29, 50, 270, 271, 272, 273, 274, 275, 276]), (19, [30, 31, 32, 33, 37, 41, 43, 45, 46, 47, 48, 49, 220, 221, 222, 223, 224, 225, 226, 227, 228, 229, 230, 231, 232, 233, 234, 235, 236, 237, 238, 239, 240, 241, 242, 243, 244, 245, 246, 247, 248, 249, 250, 251, 252, 253, 254, 255, 256, 257, 258, 259, 260, 261, 262, 263, 264, 265, 266, 267, 268, 269]), (18, [216, 217, 218, 219]), (17, [212, 213, 214, 215]), (16, [44, 208, 209, 210, 211]), (15, [42, 204, 205, 206, 207]), (14, [38, 39, 40, 197, 198, 199, 200, 201, 202, 203]), (13, [34, 35, 36, 191, 192, 193, 194, 195, 196]), (12, [183, 184, 185, 186, 187, 188, 189, 190]), (11, [2, 3, 4, 5, 6, 7, 10, 13, 16, 19, 22, 25, 28, 123, 124, 125, 126, 127, 128, 129, 130, 131, 132, 133, 134, 135, 136, 137, 138, 139, 140, 141, 142, 143, 144, 145, 146, 147, 148, 149, 150, 151, 152, 153, 154, 155, 156, 157, 158, 159, 160, 161, 162, 163, 164, 165, 166, 167, 168, 169, 170, 171, 172, 173, 174, 175, 176, 177, 178, 179, 180, 181, 182]), (10, [26, 27, 116, 117, 118, 119, 120, 121, 122]), (9, [1, 23, 24, 108, 109, 110, 111, 112, 113, 114, 115]), (8, [20, 21, 100, 101, 102, 103, 104, 105, 106, 107]), (7, [17, 18, 92, 93, 94, 95, 96, 97, 98, 99]), (6, [14, 15, 84, 85, 86, 87, 88, 89, 90, 91]), (5, [11, 12, 76, 77, 78, 79, 80, 81, 82, 83]), (4, [8, 9, 69, 70, 71, 72, 73, 74, 75]), (3, [61, 62, 63, 64, 65, 66, 67, 68]), (2, [53, 54, 55, 56, 57, 58, 59, 60]), (1, [51, 52]), (0, [0])]
theorem comp3 : compFn Try.prog loc3 (fun i => (fg3.lookup i).getD []) Try.f3 = some lit3 := by kernel_rfl

-- parcener/parcenerlaw08.three
def lit4 : AFn := ⟨0, [.tmp 0],
 (.seq
 (.ops [⟨some 0, (.mv (.c .nils)), none⟩]
 [] [0])
 (.seq
 (.ops [⟨some 1, (.buildD 1 (.int .i64 (0)) 2 [(0, (.c (.int .i64 (0)))), (1, (.c (.int .i64 (6))))]), none⟩,
 ⟨some 2, (.buildD 1 (.int .i64 (0)) 1 [(0, (.c (.int .i64 (1))))]), none⟩,
 ⟨some 3, (.build [(.int .i64 (0)), .nils, .nils] [(0, 1, (.c (.int .i64 (6)))), (1, 1, (.t 1)), (2, 1, (.t 2))]), none⟩,
 ⟨some 4, (.buildD 1 (.int .i64 (0)) 3 [(0, (.c (.int .i64 (0)))), (1, (.c (.int .i64 (4)))), (2, (.c (.int .i64 (6))))]), none⟩,
 ⟨some 5, (.buildD 1 (.int .i64 (0)) 2 [(0, (.c (.int .i64 (1)))), (1, (.c (.int .i64 (4))))]), none⟩,
 ⟨some 6, (.build [(.int .i64 (0)), .nils, .nils] [(0, 1, (.c (.int .i64 (6)))), (1, 1, (.t 4)), (2, 1, (.t 5))]), none⟩,
 ⟨some 7, (.buildD 1 (.int .i64 (0)) 3 [(0, (.c (.int .i64 (0)))), (1, (.c (.int .i64 (2)))), (2, (.c (.int .i64 (6))))]), none⟩,
 ⟨some 8, (.buildD 1 (.int .i64 (0)) 2 [(0, (.c (.int .i64 (2)))), (1, (.c (.int .i64 (0))))]), none⟩,
 ⟨some 9, (.build [(.int .i64 (0)), .nils, .nils] [(0, 1, (.c (.int .i64 (6)))), (1, 1, (.t 7)), (2, 1, (.t 8))]), none⟩,
 ⟨some 10, (.buildSl true 3 (.agg [(.int .i64 (0)), (.data []), (.data [])]) 3 [(0, (.t 3)), (1, (.t 6)), (2, (.t 9))]), none⟩,
 ⟨some 0, (.mv (.t 10)), none⟩]
 [] [1, 2, 3, 4, 5, 6, 7, 8, 9, 10])
 .ret))⟩
def loc4 : List Nat := [1, 2, 4, 5, 7, 8]
def fg4 : List (Nat × List Nat) := [(1, [1, 2, 3, 4, 5, 6, 7, 8, 9, 10]), (0, [0])]
theorem comp4 : compFn Try.prog loc4 (fun i => (fg4.lookup i).getD []) Try.f4 = some lit4 := by kernel_rfl

-- parcener/trim.Round
def lit5 : AFn := ⟨3, [.cell 6 true 2, .cell 7 true 6, .tmp 8],
 (.seq
 (.ops [⟨some 3, (.boxL (.t 0)), none⟩,
 ⟨some 5, (.boxL (.t 2)), none⟩,
 ⟨some 6, (.allocL (.agg [.nils, .nils])), none⟩,
 ⟨some 7, (.allocL (.agg [(.int .i64 (0)), (.int .i64 (0)), (.int .i64 (0)), (.int .i64 (0)), (.int .i64 (0)), (.int .i64 (0))])), none⟩,
 ⟨some 8, (.mv (.c (.int .i64 (0)))), none⟩]
 [] [0, 2, 8])
 (.seq
 (.seq
 (.ops [⟨some 14, (.load true 2 (.t 3)), none⟩,
 ⟨some 15, (.call (.f 10) [(.t 14)]), none⟩,
 ⟨some 9, (.mv (.t 15)), none⟩]
 [] [14, 15])
 (.seq
 (.ops [⟨some 16, (.mv (.t 9)), none⟩,
 ⟨some 17, (.bin .neq (.t 16) (.c (.int .i64 (0)))), none⟩]
 [] [16])
 (.cond (.t 17)
 (.seq
 (.ops [⟨some 18, (.build [.nils, .nils] []), none⟩,
 ⟨some 19, (.build [(.int .i64 (0)), (.int .i64 (0)), (.int .i64 (0)), (.int .i64 (0)), (.int .i64 (0)), (.int .i64 (0))] []), none⟩,
 ⟨some 20, (.mv (.t 9)), none⟩,
 ⟨none, (.store 2 (.t 6) (.t 18)), none⟩,
 ⟨none, (.store 6 (.t 7) (.t 19)), none⟩,
 ⟨some 8, (.mv (.t 20)), none⟩]
 [] [1, 3, 5, 9, 17, 18, 19, 20])
 .ret)
 .skip)))
 (.seq
 (.ops [⟨some 10, (.mv (.c (.int .i64 (-1)))), none⟩]
 [] [9, 17])
 (.seq
 (.seq
 (.ops [⟨some 21, (.mv (.t 1)), none⟩,
 ⟨some 22, (.len (.t 21)), none⟩,
 ⟨some 23, (.mv (.c (.int .i64 (0)))), none⟩]
 [] [])
 (.block 0
 (.loop
 (.seq
 (.ops [⟨some 24, (.bin .lss (.t 23) (.t 22)), none⟩]
 [] [])
 (.seq
 (.cond (.t 24)
 .skip
 (.exit 0))
 (.seq
 (.block 1
 (.seq
 (.ops [⟨some 25, (.iad 1 (.t 21) (.t 23)), none⟩,
 ⟨some 26, (.load false 1 (.t 25)), none⟩,
 ⟨some 12, (.mv (.t 26)), none⟩]
 [] [24, 25, 26])
 (.seq
 (.seq
 (.ops [⟨some 27, (.mv (.t 12)), none⟩,
 ⟨some 28, (.mv (.t 10)), none⟩,
 ⟨some 29, (.bin .leq (.t 27) (.t 28)), none⟩,
 ⟨some 30, (.mv (.t 29)), none⟩,
 ⟨some 31, (.mv (.t 12)), some (30, false)⟩,
 ⟨some 32, (.fad 0 (.t 3)), some (30, false)⟩,
 ⟨some 33, (.load false 1 (.t 32)), some (30, false)⟩,
 ⟨some 34, (.len (.t 33)), some (30, false)⟩,
 ⟨some 35, (.bin .geq (.t 31) (.t 34)), some (30, false)⟩,
 ⟨some 36, (.pick (.t 30) (.c (.bool true)) (.t 35)), none⟩]
 [] [10, 27, 28, 29, 30, 31, 32, 33, 34, 35])
 (.cond (.t 36)
 (.seq
 (.ops [⟨some 37, (.build [.nils, .nils] []), none⟩,
 ⟨some 38, (.build [(.int .i64 (0)), (.int .i64 (0)), (.int .i64 (0)), (.int .i64 (0)), (.int .i64 (0)), (.int .i64 (0))] []), none⟩,
 ⟨none, (.store 2 (.t 6) (.t 37)), none⟩,
 ⟨none, (.store 6 (.t 7) (.t 38)), none⟩,
 ⟨some 8, (.mv (.c (.int .i64 (2)))), none⟩]
 [] [1, 3, 5, 12, 21, 22, 23, 36, 37, 38])
 .ret)
 .skip))
 (.ops [⟨some 39, (.mv (.t 12)), none⟩,
 ⟨some 10, (.mv (.t 39)), none⟩]
 [] [12, 36, 39]))))
 (.ops [⟨some 40, (.bin .add (.t 23) (.c (.int .i64 (1)))), none⟩,
 ⟨some 23, (.mv (.t 40)), none⟩]
 [] [40])))))))
 (.seq
 (.seq
 (.ops [⟨some 41, (.mv (.t 10)), none⟩,
 ⟨some 42, (.bin .lss (.t 41) (.c (.int .i64 (0)))), none⟩,
 ⟨some 43, (.mv (.t 42)), none⟩,
 ⟨some 44, (.load true 2 (.t 5)), some (43, false)⟩,
 ⟨some 45, (.call (.f 11) [(.t 44)]), some (43, false)⟩,
 ⟨some 46, (.bin .neq (.t 45) (.c (.int .i64 (0)))), some (43, false)⟩,
 ⟨some 47, (.pick (.t 43) (.c (.bool true)) (.t 46)), none⟩,
 ⟨some 48, (.mv (.t 47)), none⟩,
 ⟨some 49, (.fad 0 (.t 5)), some (48, false)⟩,
 ⟨some 50, (.load false 1 (.t 49)), some (48, false)⟩,
 ⟨some 51, (.bin .lss (.t 50) (.c (.int .i64 (0)))), some (48, false)⟩,
 ⟨some 52, (.pick (.t 48) (.c (.bool true)) (.t 51)), none⟩,
 ⟨some 53, (.mv (.t 52)), none⟩,
 ⟨some 54, (.fad 0 (.t 3)), some (53, false)⟩,
 ⟨some 55, (.load false 1 (.t 54)), some (53, false)⟩,
 ⟨some 56, (.iad 3 (.t 55) (.c (.int .i64 (0)))), some (53, false)⟩,
 ⟨some 57, (.fad 0 (.t 56)), some (53, false)⟩,
 ⟨some 58, (.load false 1 (.t 57)), some (53, false)⟩,
 ⟨some 59, (.call (.f 13) [(.t 58)]), some (53, false)⟩,
 ⟨some 60, (.load true 2 (.t 5)), some (53, false)⟩,
 ⟨some 61, (.call (.f 12) [(.t 59), (.t 60)]), some (53, false)⟩,
 ⟨some 62, (.un .not (.t 61)), some (53, false)⟩,
 ⟨some 63, (.pick (.t 53) (.c (.bool true)) (.t 62)), none⟩]
 [(13, 19), (14, 19), (15, 19), (16, 19), (17, 19), (18, 19)] [10, 21, 22, 23, 24, 41, 42, 43, 44, 45, 46, 47, 48, 49, 50, 51, 52, 53, 54, 55, 56, 57, 58, 59, 60, 61, 62])
 (.cond (.t 63)
 (.seq
 (.ops [⟨some 64, (.build [.nils, .nils] []), none⟩,
 ⟨some 65, (.build [(.int .i64 (0)), (.int .i64 (0)), (.int .i64 (0)), (.int .i64 (0)), (.int .i64 (0)), (.int .i64 (0))] []), none⟩,
 ⟨none, (.store 2 (.t 6) (.t 64)), none⟩,
 ⟨none, (.store 6 (.t 7) (.t 65)), none⟩,
 ⟨some 8, (.mv (.c (.int .i64 (2)))), none⟩]
 [] [1, 3, 5, 63, 64, 65])
 .ret)
 .skip))
 (.seq
 (.ops [⟨some 67, (.fad 0 (.t 3)), none⟩,
 ⟨some 68, (.load false 1 (.t 67)), none⟩,
 ⟨some 69, (.call (.f 14) [(.t 68)]), none⟩,
 ⟨some 66, (.mv (.t 69)), none⟩,
 ⟨some 70, (.ext (.t 66) 0), none⟩,
 ⟨some 71, (.ext (.t 66) 1), none⟩,
 ⟨some 13, (.allocL (.agg [.nils, .nils])), none⟩,
 ⟨none, (.store 2 (.t 13) (.t 70)), none⟩,
 ⟨some 8, (.mv (.t 71)), none⟩]
 [] [63, 66, 67, 68, 69, 70, 71])
 (.seq
 (.ops [⟨some 72, (.fad 1 (.t 3)), none⟩,
 ⟨some 73, (.load false 1 (.t 72)), none⟩,
 ⟨some 74, (.call (.f 15) [(.t 73)]), none⟩,
 ⟨some 75, (.fad 1 (.t 13)), none⟩,
 ⟨none, (.store 1 (.t 75) (.t 74)), none⟩]
 [] [3, 72, 73, 74, 75])
 (.seq
 (.seq
 (.ops [⟨some 76, (.mv (.t 8)), none⟩,
 ⟨some 77, (.bin .neq (.t 76) (.c (.int .i64 (0)))), none⟩]
 [] [76])
 (.cond (.t 77)
 (.seq
 (.ops [⟨some 78, (.build [.nils, .nils] []), none⟩,
 ⟨some 79, (.build [(.int .i64 (0)), (.int .i64 (0)), (.int .i64 (0)), (.int .i64 (0)), (.int .i64 (0)), (.int .i64 (0))] []), none⟩,
 ⟨some 80, (.mv (.t 8)), none⟩,
 ⟨none, (.store 2 (.t 6) (.t 78)), none⟩,
 ⟨none, (.store 6 (.t 7) (.t 79)), none⟩,
 ⟨some 8, (.mv (.t 80)), none⟩]
 [] [1, 5, 13, 77, 78, 79, 80])
 .ret)
 .skip))
 (.seq
 (.ops [⟨some 81, (.load true 2 (.t 13)), none⟩,
 ⟨some 82, (.mv (.t 1)), none⟩,
 ⟨some 83, (.load true 2 (.t 5)), none⟩,
 ⟨some 84, (.call (.f 16) [(.t 81), (.t 82), (.t 83)]), none⟩,
 ⟨some 85, (.ext (.t 84) 0), none⟩,
 ⟨some 86, (.ext (.t 84) 1), none⟩,
 ⟨some 87, (.ext (.t 84) 2), none⟩,
 ⟨none, (.store 2 (.t 6) (.t 85)), none⟩,
 ⟨none, (.store 6 (.t 7) (.t 86)), none⟩,
 ⟨some 8, (.mv (.t 87)), none⟩]
 [] [1, 5, 13, 77, 81, 82, 83, 84, 85, 86, 87])
 .ret)))))))))⟩
def loc5 : List Nat := [3, 5, 6, 7, 13]
def fg5 : List (Nat × List Nat) := [(18, [1, 5, 13, 77, 81, 82, 83, 84, 85, 86, 87]), (17, [1, 5, 13, 77, 78, 79, 80]), (16, [76]), (15, [3, 72, 73, 74, 75]), (14, [63, 66, 67, 68, 69, 70, 71]), (13, [1, 3, 5, 63, 64, 65]), (12, [10, 21, 22, 23, 24, 41, 42, 43, 44, 45, 46, 47, 48, 49, 50, 51, 52, 53, 54, 55, 56, 57, 58, 59, 60, 61, 62]), (11, [40]), (10, [12, 36, 39]), (9, [1, 3, 5, 12, 21, 22, 23, 36, 37, 38]), (8, [10, 27, 28, 29, 30, 31, 32, 33, 34, 35]), (7, [24, 25, 26]), (4, [9, 17]), (3, [1, 3, 5, 9, 17, 18, 19, 20]), (2, [16]), (1, [14, 15]), (0, [0, 2, 8])]
theorem comp5 : compFn Try.prog loc5 (fun i => (fg5.lookup i).getD []) Try.f5 = some lit5 := by kernel_rfl

-- parcener/parcenerref01.Of
def lit6 : AFn := ⟨1, [.cell 2 true 2],
 (.seq
 (.ops [⟨some 2, (.allocL (.agg [(.int .i64 (0)), (.int .i64 (0))])), none⟩]
 [] [])
 (.seq
 (.ops [⟨some 3, (.mv (.t 0)), none⟩,
 ⟨some 4, (.build [(.int .i64 (0)), (.int .i64 (0))] [(0, 1, (.t 3)), (1, 1, (.c (.int .i64 (1))))]), none⟩,
 ⟨none, (.store 2 (.t 2) (.t 4)), none⟩]
 [] [0, 3, 4])
 .ret))⟩
def loc6 : List Nat := [2]
def fg6 : List (Nat × List Nat) := [(1, [0, 3, 4])]
theorem comp6 : compFn Try.prog loc6 (fun i => (fg6.lookup i).getD []) Try.f6 = some lit6 := by kernel_rfl

-- parcener/trim.Run
def lit7 : AFn := ⟨1, [.cell 2 true 1, .cell 3 false 1, .cell 4 false 1, .cell 5 false 1],
 (.seq
 (.ops [⟨some 1, (.boxH false 1 (.t 0)), none⟩,
 ⟨some 2, (.allocH false 1 (.agg [.nils])), none⟩,
 ⟨some 3, (.allocH false 1 .nils), none⟩,
 ⟨some 4, (.allocH false 1 .nils), none⟩,
 ⟨some 5, (.allocH false 1 (.int .i64 (0))), none⟩]
 [] [0])
 (.seq
 (.ops [⟨some 10, (.load false 1 (.t 1)), none⟩,
 ⟨some 11, (.call (.f 14) [(.t 10)]), none⟩,
 ⟨some 9, (.mv (.t 11)), none⟩,
 ⟨some 12, (.ext (.t 9) 0), none⟩,
 ⟨some 13, (.ext (.t 9) 1), none⟩,
 ⟨some 6, (.allocL (.agg [.nils, .nils])), none⟩,
 ⟨none, (.store 2 (.t 6) (.t 12)), none⟩,
 ⟨none, (.store 1 (.t 5) (.t 13)), none⟩]
 [] [9, 10, 11, 12, 13])
 (.seq
 (.seq
 (.ops [⟨some 14, (.load false 1 (.t 5)), none⟩,
 ⟨some 15, (.bin .neq (.t 14) (.c (.int .i64 (0)))), none⟩]
 [] [14])
 (.cond (.t 15)
 (.seq
 (.ops [⟨some 16, (.build [.nils] []), none⟩,
 ⟨some 17, (.load false 1 (.t 5)), none⟩,
 ⟨none, (.store 1 (.t 2) (.t 16)), none⟩,
 ⟨none, (.store 1 (.t 3) (.c .nils)), none⟩,
 ⟨none, (.store 1 (.t 4) (.c .nils)), none⟩,
 ⟨none, (.store 1 (.t 5) (.t 17)), none⟩]
 [(0, 1), (1, 2), (1, 3), (1, 4)] [1, 6, 15, 16, 17])
 .ret)
 .skip))
 (.seq
 (.ops [⟨some 18, (.load false 1 (.t 1)), none⟩,
 ⟨some 19, (.len (.t 18)), none⟩,
 ⟨some 20, (.mkSl false 1 24 .nils (.t 19) (.t 19)), none⟩,
 ⟨some 21, (.fad 0 (.t 2)), none⟩,
 ⟨none, (.store 1 (.t 21) (.t 20)), none⟩]
 [] [15, 18, 19, 20, 21])
 (.seq
 .skip
 (.seq
 (.seq
 (.ops [⟨some 22, (.load true 2 (.t 6)), none⟩,
 ⟨some 23, (.mkFn (.func 18) [] [(.t 5)]), none⟩,
 ⟨some 24, (.call (.f 17) [(.t 22), (.t 23)]), none⟩]
 [] [6, 22, 23])
 (.block 0
 (.rangeF (.t 24) [25, 26]
 (.seq
 (.ops [⟨some 7, (.allocH false 2 (.agg [.nils, .nils])), none⟩,
 ⟨none, (.store 2 (.t 7) (.t 25)), none⟩]
 [] [24, 25])
 (.ops [⟨some 8, (.allocH false 6 (.agg [(.int .i64 (0)), (.int .i64 (0)), (.int .i64 (0)), (.int .i64 (0)), (.int .i64 (0)), (.int .i64 (0))])), none⟩,
 ⟨none, (.store 6 (.t 8) (.t 26)), none⟩]
 [] [26]))
 (.block 1
 (.seq
 (.ops [⟨some 27, (.load false 1 (.t 3)), none⟩,
 ⟨some 28, (.load true 6 (.t 8)), none⟩,
 ⟨some 29, (.buildD 6 (.agg [(.int .i64 (0)), (.int .i64 (0)), (.int .i64 (0)), (.int .i64 (0)), (.int .i64 (0)), (.int .i64 (0))]) 1 [(0, (.t 28))]), none⟩,
 ⟨some 30, (.app true 6 48 (.t 27) (.t 29)), none⟩,
 ⟨none, (.store 1 (.t 3) (.t 30)), none⟩]
 [] [27, 28, 29, 30])
 (.seq
 (.ops [⟨some 31, (.fad 1 (.t 7)), none⟩,
 ⟨some 32, (.load false 1 (.t 31)), none⟩,
 ⟨none, (.store 1 (.t 4) (.t 32)), none⟩]
 [] [7, 31, 32])
 (.seq
 (.ops [⟨some 33, (.fad 0 (.t 2)), none⟩,
 ⟨some 34, (.load false 1 (.t 33)), none⟩,
 ⟨some 35, (.fad 0 (.t 8)), none⟩,
 ⟨some 36, (.load false 1 (.t 35)), none⟩,
 ⟨some 37, (.fad 1 (.t 8)), none⟩,
 ⟨some 38, (.load true 2 (.t 37)), none⟩,
 ⟨some 39, (.fad 3 (.t 8)), none⟩,
 ⟨some 40, (.load true 2 (.t 39)), none⟩,
 ⟨some 41, (.build [(.int .i64 (0)), (.int .i64 (0)), (.int .i64 (0)), (.int .i64 (0))] [(0, 2, (.t 38)), (2, 2, (.t 40))]), none⟩,
 ⟨some 42, (.buildD 4 (.agg [(.int .i64 (0)), (.int .i64 (0)), (.int .i64 (0)), (.int .i64 (0))]) 1 [(0, (.t 41))]), none⟩,
 ⟨some 43, (.iad 1 (.t 34) (.t 36)), none⟩,
 ⟨none, (.store 1 (.t 43) (.t 42)), none⟩]
 [] [8, 33, 34, 35, 36, 37, 38, 39, 40, 41, 42, 43])
 (.seq
 (.ops [⟨some 44, (.load false 1 (.t 3)), none⟩,
 ⟨some 45, (.len (.t 44)), none⟩,
 ⟨some 46, (.load false 1 (.t 1)), none⟩,
 ⟨some 47, (.len (.t 46)), none⟩,
 ⟨some 48, (.bin .eql (.t 45) (.t 47)), none⟩]
 [] [1, 44, 45, 46, 47])
 (.cond (.t 48)
 (.exit 0)
 .skip)))))))))
 (.seq
 (.seq
 (.ops [⟨some 49, (.load false 1 (.t 5)), none⟩,
 ⟨some 50, (.bin .neq (.t 49) (.c (.int .i64 (0)))), none⟩]
 [] [1, 24, 48, 49])
 (.cond (.t 50)
 (.seq
 (.ops [⟨some 51, (.build [.nils] []), none⟩,
 ⟨some 52, (.load false 1 (.t 5)), none⟩,
 ⟨none, (.store 1 (.t 2) (.t 51)), none⟩,
 ⟨none, (.store 1 (.t 3) (.c .nils)), none⟩,
 ⟨none, (.store 1 (.t 4) (.c .nils)), none⟩,
 ⟨none, (.store 1 (.t 5) (.t 52)), none⟩]
 [(0, 1), (1, 2), (1, 3), (1, 4)] [50, 51, 52])
 .ret)
 .skip))
 (.seq
 (.ops [⟨some 53, (.load true 1 (.t 2)), none⟩,
 ⟨some 54, (.load false 1 (.t 3)), none⟩,
 ⟨some 55, (.load false 1 (.t 4)), none⟩,
 ⟨none, (.store 1 (.t 2) (.t 53)), none⟩,
 ⟨none, (.store 1 (.t 3) (.t 54)), none⟩,
 ⟨none, (.store 1 (.t 4) (.t 55)), none⟩,
 ⟨none, (.store 1 (.t 5) (.c (.int .i64 (0)))), none⟩]
 [(0, 1), (0, 2), (1, 2), (1, 3), (2, 3), (2, 4)] [50, 53, 54, 55])
 .ret))))))))⟩
def loc7 : List Nat := [29, 42, 6, 1000001, 1000002, 1000003, 1000004, 1000005, 1000006, 1000020, 1000007, 1000008]
def fg7 : List (Nat × List Nat) := [(14, [50, 53, 54, 55]), (13, [50, 51, 52]), (12, [1, 24, 48, 49]), (11, [1, 44, 45, 46, 47]), (10, [8, 33, 34, 35, 36, 37, 38, 39, 40, 41, 42, 43]), (9, [7, 31, 32]), (8, [27, 28, 29, 30]), (7, [26]), (6, [24, 25]), (5, [6, 22, 23]), (4, [15, 18, 19, 20, 21]), (3, [1, 6, 15, 16, 17]), (2, [14]), (1, [9, 10, 11, 12, 13]), (0, [0])]
theorem comp7 : compFn Try.prog loc7 (fun i => (fg7.lookup i).getD []) Try.f7 = some lit7 := by kernel_rfl

-- parcener/trim.Bound
def lit8 : AFn := ⟨1, [.tmp 2, .tmp 3],
 (.seq
 (.ops [⟨some 2, (.mv (.c (.int .i64 (0)))), none⟩,
 ⟨some 3, (.mv (.c (.int .i64 (0)))), none⟩]
 [] [2, 3])
 (.seq
 (.seq
 (.ops [⟨some 4, (.mv (.t 0)), none⟩,
 ⟨some 5, (.bin .lss (.t 4) (.c (.int .i64 (1)))), none⟩,
 ⟨some 6, (.mv (.t 5)), none⟩,
 ⟨some 7, (.mv (.t 0)), some (6, false)⟩,
 ⟨some 8, (.bin .gtr (.t 7) (.c (.int .i64 (6)))), some (6, false)⟩,
 ⟨some 9, (.pick (.t 6) (.c (.bool true)) (.t 8)), none⟩]
 [] [4, 5, 6, 7, 8])
 (.cond (.t 9)
 (.seq
 (.ops [⟨some 2, (.mv (.c (.int .i64 (0)))), none⟩,
 ⟨some 3, (.mv (.c (.int .i64 (2)))), none⟩]
 [] [0, 9])
 .ret)
 .skip))
 (.seq
 (.ops [⟨some 10, (.mv (.t 0)), none⟩,
 ⟨some 11, (.mv (.t 0)), none⟩,
 ⟨some 12, (.bin .mul (.t 10) (.t 11)), none⟩,
 ⟨some 13, (.bin .sub (.t 12) (.c (.int .i64 (1)))), none⟩,
 ⟨some 2, (.mv (.t 13)), none⟩,
 ⟨some 3, (.mv (.c (.int .i64 (0)))), none⟩]
 [] [0, 9, 10, 11, 12, 13])
 .ret)))⟩
def loc8 : List Nat := []
def fg8 : List (Nat × List Nat) := [(3, [0, 9, 10, 11, 12, 13]), (2, [0, 9]), (1, [4, 5, 6, 7, 8]), (0, [2, 3])]
theorem comp8 : compFn Try.prog loc8 (fun i => (fg8.lookup i).getD []) Try.f8 = some lit8 := by kernel_rfl

-- parcener/parcenerlaw08.alive
def lit9 : AFn := ⟨0, [.tmp 0],
 (.seq
 (.ops [⟨some 0, (.mv (.c (.bool false))), none⟩]
 [] [0])
 (.seq
 (.ops [⟨some 12, (.call (.f 4) []), none⟩,
 ⟨some 13, (.call (.f 7) [(.t 12)]), none⟩,
 ⟨some 11, (.mv (.t 13)), none⟩,
 ⟨some 14, (.ext (.t 11) 0), none⟩,
 ⟨some 15, (.ext (.t 11) 1), none⟩,
 ⟨some 16, (.ext (.t 11) 2), none⟩,
 ⟨some 17, (.ext (.t 11) 3), none⟩,
 ⟨some 1, (.allocL (.agg [.nils])), none⟩,
 ⟨none, (.store 1 (.t 1) (.t 14)), none⟩,
 ⟨some 2, (.mv (.t 15)), none⟩,
 ⟨some 3, (.mv (.t 16)), none⟩,
 ⟨some 4, (.mv (.t 17)), none⟩]
 [] [1, 11, 12, 13, 14, 15, 16, 17])
 (.seq
 (.ops [⟨some 19, (.call (.f 8) [(.c (.int .i64 (3)))]), none⟩,
 ⟨some 18, (.mv (.t 19)), none⟩,
 ⟨some 20, (.ext (.t 18) 0), none⟩,
 ⟨some 21, (.ext (.t 18) 1), none⟩,
 ⟨some 5, (.mv (.t 20)), none⟩,
 ⟨some 6, (.mv (.t 21)), none⟩]
 [] [18, 19, 20, 21])
 (.seq
 (.ops [⟨some 22, (.call (.f 6) [(.c (.int .i64 (0)))]), none⟩,
 ⟨some 23, (.build [(.int .i64 (0)), (.int .i64 (0))] [(0, 1, (.c (.int .i64 (2)))), (1, 1, (.c (.int .i64 (3))))]), none⟩,
 ⟨some 24, (.build [(.int .i64 (0)), (.int .i64 (0))] [(0, 1, (.c (.int .i64 (8)))), (1, 1, (.c (.int .i64 (3))))]), none⟩,
 ⟨some 25, (.call (.f 6) [(.c (.int .i64 (6)))]), none⟩,
 ⟨some 7, (.allocL (.agg [(.int .i64 (0)), (.int .i64 (0))])), none⟩,
 ⟨some 8, (.allocL (.agg [(.int .i64 (0)), (.int .i64 (0))])), none⟩,
 ⟨some 9, (.allocL (.agg [(.int .i64 (0)), (.int .i64 (0))])), none⟩,
 ⟨some 10, (.allocL (.agg [(.int .i64 (0)), (.int .i64 (0))])), none⟩,
 ⟨none, (.store 2 (.t 7) (.t 22)), none⟩,
 ⟨none, (.store 2 (.t 8) (.t 23)), none⟩,
 ⟨none, (.store 2 (.t 9) (.t 24)), none⟩,
 ⟨none, (.store 2 (.t 10) (.t 25)), none⟩]
 [] [22, 23, 24, 25])
 (.seq
 (.ops [⟨some 26, (.mv (.t 4)), none⟩,
 ⟨some 27, (.bin .eql (.t 26) (.c (.int .i64 (0)))), none⟩,
 ⟨some 28, (.mv (.t 27)), none⟩,
 ⟨some 29, (.mv (.t 2)), some (28, true)⟩,
 ⟨some 30, (.load true 2 (.t 7)), some (28, true)⟩,
 ⟨some 31, (.load true 2 (.t 8)), some (28, true)⟩,
 ⟨some 32, (.build [(.int .i64 (0)), (.int .i64 (0)), (.int .i64 (0)), (.int .i64 (0)), (.int .i64 (0)), (.int .i64 (0))] [(0, 1, (.c (.int .i64 (2)))), (1, 2, (.t 30)), (3, 2, (.t 31)), (5, 1, (.c (.int .i64 (1))))]), some (28, true)⟩,
 ⟨some 33, (.load true 2 (.t 8)), some (28, true)⟩,
 ⟨some 34, (.load true 2 (.t 9)), some (28, true)⟩,
 ⟨some 35, (.build [(.int .i64 (0)), (.int .i64 (0)), (.int .i64 (0)), (.int .i64 (0)), (.int .i64 (0)), (.int .i64 (0))] [(0, 1, (.c (.int .i64 (0)))), (1, 2, (.t 33)), (3, 2, (.t 34))]), some (28, true)⟩,
 ⟨some 36, (.load true 2 (.t 9)), some (28, true)⟩,
 ⟨some 37, (.load true 2 (.t 10)), some (28, true)⟩,
 ⟨some 38, (.build [(.int .i64 (0)), (.int .i64 (0)), (.int .i64 (0)), (.int .i64 (0)), (.int .i64 (0)), (.int .i64 (0))] [(0, 1, (.c (.int .i64 (1)))), (1, 2, (.t 36)), (3, 2, (.t 37))]), some (28, true)⟩,
 ⟨some 39, (.buildD 6 (.agg [(.int .i64 (0)), (.int .i64 (0)), (.int .i64 (0)), (.int .i64 (0)), (.int .i64 (0)), (.int .i64 (0))]) 3 [(0, (.t 32)), (1, (.t 35)), (2, (.t 38))]), some (28, true)⟩,
 ⟨some 40, (.call (.f 19) [(.t 29), (.t 39)]), some (28, true)⟩,
 ⟨some 41, (.pick (.t 28) (.t 40) (.c (.bool false))), none⟩,
 ⟨some 42, (.mv (.t 41)), none⟩,
 ⟨some 43, (.mv (.t 3)), some (42, true)⟩,
 ⟨some 44, (.len (.t 43)), some (42, true)⟩,
 ⟨some 45, (.bin .eql (.t 44) (.c (.int .i64 (6)))), some (42, true)⟩,
 ⟨some 46, (.pick (.t 42) (.t 45) (.c (.bool false))), none⟩,
 ⟨some 47, (.mv (.t 46)), none⟩,
 ⟨some 48, (.mv (.t 6)), some (47, true)⟩,
 ⟨some 49, (.bin .eql (.t 48) (.c (.int .i64 (0)))), some (47, true)⟩,
 ⟨some 50, (.pick (.t 47) (.t 49) (.c (.bool false))), none⟩,
 ⟨some 51, (.mv (.t 50)), none⟩,
 ⟨some 52, (.mv (.t 5)), some (51, true)⟩,
 ⟨some 53, (.bin .eql (.t 52) (.c (.int .i64 (8)))), some (51, true)⟩,
 ⟨some 54, (.pick (.t 51) (.t 53) (.c (.bool false))), none⟩,
 ⟨some 0, (.mv (.t 54)), none⟩]
 [] [2, 3, 4, 5, 6, 7, 8, 9, 10, 26, 27, 28, 29, 30, 31, 32, 33, 34, 35, 36, 37, 38, 39, 40, 41, 42, 43, 44, 45, 46, 47, 48, 49, 50, 51, 52, 53, 54])
 .ret)))))⟩
def loc9 : List Nat := [39, 1, 7, 8, 9, 10]
def fg9 : List (Nat × List Nat) := [(4, [2, 3, 4, 5, 6, 7, 8, 9, 10, 26, 27, 28, 29, 30, 31, 32, 33, 34, 35, 36, 37, 38, 39, 40, 41, 42, 43, 44, 45, 46, 47, 48, 49, 50, 51, 52, 53, 54]), (3, [22, 23, 24, 25]), (2, [18, 19, 20, 21]), (1, [1, 11, 12, 13, 14, 15, 16, 17]), (0, [0])]
theorem comp9 : compFn Try.prog loc9 (fun i => (fg9.lookup i).getD []) Try.f9 = some lit9 := by kernel_rfl

-- parcener/ask.Check
def lit10 : AFn := ⟨1, [.tmp 2],
 (.seq
 (.ops [⟨some 1, (.boxL (.t 0)), none⟩,
 ⟨some 2, (.mv (.c (.int .i64 (0)))), none⟩]
 [] [0, 2])
 (.seq
 (.seq
 (.ops [⟨some 8, (.fad 0 (.t 1)), none⟩,
 ⟨some 9, (.load false 1 (.t 8)), none⟩,
 ⟨some 10, (.len (.t 9)), none⟩,
 ⟨some 11, (.bin .gtr (.t 10) (.c (.int .i64 (6)))), none⟩,
 ⟨some 12, (.mv (.t 11)), none⟩,
 ⟨some 13, (.fad 1 (.t 1)), some (12, false)⟩,
 ⟨some 14, (.load false 1 (.t 13)), some (12, false)⟩,
 ⟨some 15, (.len (.t 14)), some (12, false)⟩,
 ⟨some 16, (.bin .gtr (.t 15) (.c (.int .i64 (2000)))), some (12, false)⟩,
 ⟨some 17, (.pick (.t 12) (.c (.bool true)) (.t 16)), none⟩]
 [] [8, 9, 10, 11, 12, 13, 14, 15, 16])
 (.cond (.t 17)
 (.seq
 (.ops [⟨some 2, (.mv (.c (.int .i64 (4)))), none⟩]
 [] [1, 17])
 .ret)
 .skip))
 (.seq
 (.seq
 (.ops [⟨some 18, (.fad 0 (.t 1)), none⟩,
 ⟨some 19, (.load false 1 (.t 18)), none⟩,
 ⟨some 20, (.len (.t 19)), none⟩,
 ⟨some 21, (.bin .eql (.t 20) (.c (.int .i64 (0)))), none⟩]
 [] [17, 18, 19, 20])
 (.cond (.t 21)
 (.seq
 (.ops [⟨some 2, (.mv (.c (.int .i64 (8)))), none⟩]
 [] [1, 21])
 .ret)
 .skip))
 (.seq
 (.seq
 (.ops [⟨some 22, (.fad 0 (.t 1)), none⟩,
 ⟨some 23, (.load false 1 (.t 22)), none⟩,
 ⟨some 24, (.len (.t 23)), none⟩,
 ⟨some 25, (.mv (.c (.int .i64 (0)))), none⟩]
 [] [21, 22])
 (.block 0
 (.loop
 (.seq
 (.ops [⟨some 26, (.bin .lss (.t 25) (.t 24)), none⟩]
 [] [])
 (.seq
 (.cond (.t 26)
 .skip
 (.exit 0))
 (.seq
 (.block 1
 (.seq
 (.ops [⟨some 27, (.iad 3 (.t 23) (.t 25)), none⟩,
 ⟨some 28, (.load true 3 (.t 27)), none⟩,
 ⟨some 4, (.allocL (.agg [(.int .i64 (0)), .nils, .nils])), none⟩,
 ⟨none, (.store 3 (.t 4) (.t 28)), none⟩]
 [] [26, 27, 28])
 (.seq
 (.ops [⟨some 29, (.load true 3 (.t 4)), none⟩,
 ⟨some 30, (.call (.f 20) [(.t 29)]), none⟩,
 ⟨some 5, (.mv (.t 30)), none⟩]
 [] [4, 29, 30])
 (.seq
 (.ops [⟨some 31, (.mv (.t 5)), none⟩,
 ⟨some 32, (.bin .neq (.t 31) (.c (.int .i64 (0)))), none⟩]
 [] [31])
 (.cond (.t 32)
 (.seq
 (.ops [⟨some 33, (.mv (.t 5)), none⟩,
 ⟨some 2, (.mv (.t 33)), none⟩]
 [] [1, 5, 23, 24, 25, 32, 33])
 .ret)
 .skip)))))
 (.ops [⟨some 34, (.bin .add (.t 25) (.c (.int .i64 (1)))), none⟩,
 ⟨some 25, (.mv (.t 34)), none⟩]
 [] [5, 32, 34])))))))
 (.seq
 (.seq
 (.ops [⟨some 35, (.fad 0 (.t 1)), none⟩,
 ⟨some 36, (.load false 1 (.t 35)), none⟩,
 ⟨some 37, (.len (.t 36)), none⟩,
 ⟨some 38, (.mv (.c (.int .i64 (0)))), none⟩]
 [] [23, 24, 25, 26, 35])
 (.block 2
 (.loop
 (.seq
 (.ops [⟨some 39, (.bin .lss (.t 38) (.t 37)), none⟩]
 [] [])
 (.seq
 (.cond (.t 39)
 .skip
 (.exit 2))
 (.seq
 (.block 3
 (.seq
 (.ops [⟨some 40, (.iad 3 (.t 36) (.t 38)), none⟩,
 ⟨some 41, (.load true 3 (.t 40)), none⟩,
 ⟨some 7, (.allocL (.agg [(.int .i64 (0)), .nils, .nils])), none⟩,
 ⟨none, (.store 3 (.t 7) (.t 41)), none⟩]
 [] [39, 40, 41])
 (.seq
 (.ops [⟨some 42, (.fad 0 (.t 7)), none⟩,
 ⟨some 43, (.load false 1 (.t 42)), none⟩,
 ⟨some 44, (.fad 0 (.t 1)), none⟩,
 ⟨some 45, (.load false 1 (.t 44)), none⟩,
 ⟨some 46, (.iad 3 (.t 45) (.c (.int .i64 (0)))), none⟩,
 ⟨some 47, (.fad 0 (.t 46)), none⟩,
 ⟨some 48, (.load false 1 (.t 47)), none⟩,
 ⟨some 49, (.bin .neq (.t 43) (.t 48)), none⟩]
 [(0, 2), (1, 2), (0, 3), (1, 3), (0, 4), (1, 4), (0, 5), (1, 5), (0, 6), (1, 6)] [7, 42, 43, 44, 45, 46, 47, 48])
 (.cond (.t 49)
 (.seq
 (.ops [⟨some 2, (.mv (.c (.int .i64 (8)))), none⟩]
 [] [1, 36, 37, 38, 49])
 .ret)
 .skip))))
 (.ops [⟨some 50, (.bin .add (.t 38) (.c (.int .i64 (1)))), none⟩,
 ⟨some 38, (.mv (.t 50)), none⟩]
 [] [49, 50])))))))
 (.seq
 (.ops [⟨some 2, (.mv (.c (.int .i64 (0)))), none⟩]
 [] [1, 36, 37, 38, 39])
 .ret))))))⟩
def loc10 : List Nat := [1, 4, 7]
def fg10 : List (Nat × List Nat) := [(18, [1, 36, 37, 38, 39]), (17, [49, 50]), (16, [1, 36, 37, 38, 49]), (15, [7, 42, 43, 44, 45, 46, 47, 48]), (14, [39, 40, 41]), (12, [23, 24, 25, 26, 35]), (11, [5, 32, 34]), (10, [1, 5, 23, 24, 25, 32, 33]), (9, [31]), (8, [4, 29, 30]), (7, [26, 27, 28]), (5, [21, 22]), (4, [1, 21]), (3, [17, 18, 19, 20]), (2, [1, 17]), (1, [8, 9, 10, 11, 12, 13, 14, 15, 16]), (0, [0, 2])]
theorem comp10 : compFn Try.prog loc10 (fun i => (fg10.lookup i).getD []) Try.f10 = some lit10 := by kernel_rfl

-- parcener/ratio.Check
def lit11 : AFn := ⟨1, [.tmp 2],
 (.seq
 (.ops [⟨some 1, (.boxL (.t 0)), none⟩,
 ⟨some 2, (.mv (.c (.int .i64 (0)))), none⟩]
 [] [0, 2])
 (.seq
 (.seq
 (.ops [⟨some 3, (.fad 1 (.t 1)), none⟩,
 ⟨some 4, (.load false 1 (.t 3)), none⟩,
 ⟨some 5, (.bin .lss (.t 4) (.c (.int .i64 (1)))), none⟩,
 ⟨some 6, (.mv (.t 5)), none⟩,
 ⟨some 7, (.fad 0 (.t 1)), some (6, false)⟩,
 ⟨some 8, (.load false 1 (.t 7)), some (6, false)⟩,
 ⟨some 9, (.call (.f 21) [(.t 8)]), some (6, false)⟩,
 ⟨some 10, (.fad 1 (.t 1)), some (6, false)⟩,
 ⟨some 11, (.load false 1 (.t 10)), some (6, false)⟩,
 ⟨some 12, (.conv .u64 (.t 11)), some (6, false)⟩,
 ⟨some 13, (.minmax true [(.t 9), (.t 12)]), some (6, false)⟩,
 ⟨some 14, (.bin .gtr (.t 13) (.c (.int .u64 (1000000000000000000)))), some (6, false)⟩,
 ⟨some 15, (.pick (.t 6) (.c (.bool true)) (.t 14)), none⟩,
 ⟨some 16, (.mv (.t 15)), none⟩,
 ⟨some 17, (.fad 0 (.t 1)), some (16, false)⟩,
 ⟨some 18, (.load false 1 (.t 17)), some (16, false)⟩,
 ⟨some 19, (.call (.f 21) [(.t 18)]), some (16, false)⟩,
 ⟨some 20, (.fad 1 (.t 1)), some (16, false)⟩,
 ⟨some 21, (.load false 1 (.t 20)), some (16, false)⟩,
 ⟨some 22, (.conv .u64 (.t 21)), some (16, false)⟩,
 ⟨some 23, (.call (.f 22) [(.t 19), (.t 22)]), some (16, false)⟩,
 ⟨some 24, (.bin .gtr (.t 23) (.c (.int .u64 (1)))), some (16, false)⟩,
 ⟨some 25, (.pick (.t 16) (.c (.bool true)) (.t 24)), none⟩]
 [(4, 7), (5, 7), (6, 7), (4, 8), (5, 8), (6, 8), (4, 9), (5, 9), (6, 9), (14, 17), (15, 17), (16, 17), (14, 18), (15, 18), (16, 18), (14, 19), (15, 19), (16, 19)] [1, 3, 4, 5, 6, 7, 8, 9, 10, 11, 12, 13, 14, 15, 16, 17, 18, 19, 20, 21, 22, 23, 24])
 (.cond (.t 25)
 (.seq
 (.ops [⟨some 2, (.mv (.c (.int .i64 (8)))), none⟩]
 [] [25])
 .ret)
 .skip))
 (.seq
 (.ops [⟨some 2, (.mv (.c (.int .i64 (0)))), none⟩]
 [] [25])
 .ret)))⟩
def loc11 : List Nat := [1]
def fg11 : List (Nat × List Nat) := [(3, [25]), (2, [25]), (1, [1, 3, 4, 5, 6, 7, 8, 9, 10, 11, 12, 13, 14, 15, 16, 17, 18, 19, 20, 21, 22, 23, 24]), (0, [0, 2])]
theorem comp11 : compFn Try.prog loc11 (fun i => (fg11.lookup i).getD []) Try.f11 = some lit11 := by kernel_rfl

-- parcener/trim.more
def lit12 : AFn := ⟨2, [.tmp 4],
 (.seq
 (.ops [⟨some 2, (.boxL (.t 0)), none⟩,
 ⟨some 3, (.boxL (.t 1)), none⟩,
 ⟨some 4, (.mv (.c (.bool false))), none⟩]
 [] [0, 1, 4])
 (.seq
 (.ops [⟨some 8, (.load true 2 (.t 2)), none⟩,
 ⟨some 9, (.load true 2 (.t 3)), none⟩,
 ⟨some 10, (.call (.f 23) [(.t 8), (.t 9)]), none⟩,
 ⟨some 7, (.mv (.t 10)), none⟩,
 ⟨some 11, (.ext (.t 7) 0), none⟩,
 ⟨some 12, (.ext (.t 7) 1), none⟩,
 ⟨some 5, (.mv (.t 11)), none⟩,
 ⟨some 6, (.mv (.t 12)), none⟩]
 [] [2, 3, 6, 7, 8, 9, 10, 11, 12])
 (.seq
 (.ops [⟨some 13, (.mv (.t 5)), none⟩,
 ⟨some 14, (.bin .gtr (.t 13) (.c (.int .i64 (0)))), none⟩,
 ⟨some 4, (.mv (.t 14)), none⟩]
 [] [5, 13, 14])
 .ret)))⟩
def loc12 : List Nat := [2, 3]
def fg12 : List (Nat × List Nat) := [(2, [5, 13, 14]), (1, [2, 3, 6, 7, 8, 9, 10, 11, 12]), (0, [0, 1, 4])]
theorem comp12 : compFn Try.prog loc12 (fun i => (fg12.lookup i).getD []) Try.f12 = some lit12 := by kernel_rfl

-- parcener/trim.whole
def lit13 : AFn := ⟨1, [.cell 2 true 2],
 (.seq
 (.ops [⟨some 2, (.allocL (.agg [(.int .i64 (0)), (.int .i64 (0))])), none⟩]
 [] [])
 (.seq
 (.ops [⟨some 3, (.mv (.t 0)), none⟩,
 ⟨some 4, (.build [(.int .i64 (0)), (.int .i64 (0))] [(0, 1, (.t 3)), (1, 1, (.c (.int .i64 (1))))]), none⟩,
 ⟨none, (.store 2 (.t 2) (.t 4)), none⟩]
 [] [0, 3, 4])
 .ret))⟩
def loc13 : List Nat := [2]
def fg13 : List (Nat × List Nat) := [(1, [0, 3, 4])]
theorem comp13 : compFn Try.prog loc13 (fun i => (fg13.lookup i).getD []) Try.f13 = some lit13 := by kernel_rfl

-- parcener/ask.Open
def lit14 : AFn := ⟨1, [.cell 2 true 2, .tmp 3],
 (.seq
 (.ops [⟨some 2, (.allocL (.agg [.nils, .nils])), none⟩,
 ⟨some 3, (.mv (.c (.int .i64 (0)))), none⟩]
 [] [3])
 (.seq
 (.seq
 (.ops [⟨some 5, (.mv (.t 0)), none⟩,
 ⟨some 6, (.build [.nils, .nils] [(0, 1, (.t 5))]), none⟩,
 ⟨some 7, (.call (.f 10) [(.t 6)]), none⟩,
 ⟨some 4, (.mv (.t 7)), none⟩]
 [] [5, 6, 7])
 (.seq
 (.ops [⟨some 8, (.mv (.t 4)), none⟩,
 ⟨some 9, (.bin .neq (.t 8) (.c (.int .i64 (0)))), none⟩]
 [] [8])
 (.cond (.t 9)
 (.seq
 (.ops [⟨some 10, (.build [.nils, .nils] []), none⟩,
 ⟨some 11, (.mv (.t 4)), none⟩,
 ⟨none, (.store 2 (.t 2) (.t 10)), none⟩,
 ⟨some 3, (.mv (.t 11)), none⟩]
 [] [0, 4, 9, 10, 11])
 .ret)
 .skip)))
 (.seq
 (.ops [⟨some 12, (.mv (.t 0)), none⟩,
 ⟨some 13, (.call (.f 24) [(.t 12)]), none⟩,
 ⟨some 14, (.build [.nils, .nils] [(0, 1, (.t 13))]), none⟩,
 ⟨none, (.store 2 (.t 2) (.t 14)), none⟩,
 ⟨some 3, (.mv (.c (.int .i64 (0)))), none⟩]
 [] [0, 4, 9, 12, 13, 14])
 .ret)))⟩
def loc14 : List Nat := [2]
def fg14 : List (Nat × List Nat) := [(4, [0, 4, 9, 12, 13, 14]), (3, [0, 4, 9, 10, 11]), (2, [8]), (1, [5, 6, 7]), (0, [3])]
theorem comp14 : compFn Try.prog loc14 (fun i => (fg14.lookup i).getD []) Try.f14 = some lit14 := by kernel_rfl

-- slices.Clone[[]parcener/api.Query,parcener/api.Query]
def lit15 : AFn := ⟨1, [.tmp 2],
 (.seq
 (.ops [⟨some 2, (.mv (.c .nils)), none⟩]
 [] [2])
 (.seq
 (.seq
 (.ops [⟨some 3, (.mv (.t 0)), none⟩,
 ⟨some 4, (.eqN false (.t 3)), none⟩]
 [] [3])
 (.cond (.t 4)
 (.seq
 (.ops [⟨some 2, (.mv (.c .nils)), none⟩]
 [] [0, 4])
 .ret)
 .skip))
 (.seq
 (.ops [⟨some 5, (.buildSl true 8 (.agg [(.int .i64 (0)), (.int .u8 (0)), (.int .i64 (0)), (.int .i64 (0)), (.int .i64 (0)), (.int .i64 (0)), (.int .i64 (0)), (.int .i64 (0))]) 0 []), none⟩,
 ⟨some 6, (.mv (.t 0)), none⟩,
 ⟨some 7, (.app true 8 64 (.t 5) (.t 6)), none⟩,
 ⟨some 2, (.mv (.t 7)), none⟩]
 [] [0, 4, 5, 6, 7])
 .ret)))⟩
def loc15 : List Nat := []
def fg15 : List (Nat × List Nat) := [(3, [0, 4, 5, 6, 7]), (2, [0, 4]), (1, [3]), (0, [2])]
theorem comp15 : compFn Try.prog loc15 (fun i => (fg15.lookup i).getD []) Try.f15 = some lit15 := by kernel_rfl

-- parcener/trim.round
def lit16 : AFn := ⟨3, [.cell 6 true 2, .cell 7 true 6, .tmp 8],
 (.seq
 (.ops [⟨some 3, (.boxH true 2 (.t 0)), none⟩,
 ⟨some 5, (.boxH true 2 (.t 2)), none⟩,
 ⟨some 6, (.allocL (.agg [.nils, .nils])), none⟩,
 ⟨some 7, (.allocL (.agg [(.int .i64 (0)), (.int .i64 (0)), (.int .i64 (0)), (.int .i64 (0)), (.int .i64 (0)), (.int .i64 (0))])), none⟩,
 ⟨some 8, (.mv (.c (.int .i64 (0)))), none⟩]
 [] [0, 2, 8])
 (.seq
 (.ops [⟨some 17, (.mv (.t 1)), none⟩,
 ⟨some 18, (.iad 1 (.t 17) (.c (.int .i64 (0)))), none⟩,
 ⟨some 19, (.load false 1 (.t 18)), none⟩,
 ⟨some 20, (.load true 2 (.t 5)), none⟩,
 ⟨some 21, (.fad 0 (.t 3)), none⟩,
 ⟨some 22, (.load false 1 (.t 21)), none⟩,
 ⟨some 23, (.iad 3 (.t 22) (.c (.int .i64 (0)))), none⟩,
 ⟨some 24, (.fad 0 (.t 23)), none⟩,
 ⟨some 25, (.load false 1 (.t 24)), none⟩,
 ⟨some 26, (.call (.f 13) [(.t 25)]), none⟩,
 ⟨some 27, (.build [(.int .i64 (0)), (.int .i64 (0)), (.int .i64 (0)), (.int .i64 (0)), (.int .i64 (0)), (.int .i64 (0))] [(0, 1, (.t 19)), (1, 2, (.t 20)), (3, 2, (.t 26))]), none⟩,
 ⟨some 9, (.allocH true 6 (.agg [(.int .i64 (0)), (.int .i64 (0)), (.int .i64 (0)), (.int .i64 (0)), (.int .i64 (0)), (.int .i64 (0))])), none⟩,
 ⟨none, (.store 6 (.t 9) (.t 27)), none⟩]
 [(0, 3), (1, 3), (2, 3), (0, 4), (1, 4), (2, 4), (3, 4), (0, 5), (1, 5), (2, 5), (3, 5), (0, 6), (1, 6), (2, 6), (3, 6), (0, 7), (1, 7), (2, 7), (3, 7), (0, 8), (1, 8), (2, 8), (3, 8), (0, 9), (1, 9), (2, 9), (3, 9), (0, 11), (1, 11), (2, 11), (3, 11), (4, 11), (5, 11), (6, 11), (7, 11), (8, 11), (9, 11), (10, 11)] [17, 18, 19, 20, 21, 22, 23, 24, 25, 26, 27])
 (.seq
 (.ops [⟨some 28, (.mkFn (.func 25) [] [(.t 3), (.t 5), (.t 9)]), none⟩,
 ⟨some 10, (.mv (.t 28)), none⟩]
 [] [28])
 (.seq
 (.seq
 (.ops [⟨some 29, (.mv (.t 1)), none⟩,
 ⟨some 30, (.len (.t 29)), none⟩,
 ⟨some 31, (.mv (.c (.int .i64 (0)))), none⟩]
 [] [])
 (.block 0
 (.loop
 (.seq
 (.ops [⟨some 32, (.bin .lss (.t 31) (.t 30)), none⟩]
 [] [])
 (.seq
 (.cond (.t 32)
 .skip
 (.exit 0))
 (.seq
 (.block 1
 (.seq
 (.ops [⟨some 33, (.mv (.t 31)), none⟩,
 ⟨some 34, (.iad 1 (.t 29) (.t 31)), none⟩,
 ⟨some 35, (.load false 1 (.t 34)), none⟩,
 ⟨some 11, (.mv (.t 33)), none⟩,
 ⟨some 12, (.mv (.t 35)), none⟩]
 [] [32, 33, 34, 35])
 (.seq
 (.seq
 (.ops [⟨some 36, (.mv (.t 1)), none⟩,
 ⟨some 37, (.len (.t 36)), none⟩,
 ⟨some 38, (.bin .eql (.t 37) (.c (.int .i64 (1)))), none⟩]
 [] [36, 37])
 (.cond (.t 38)
 (.exit 0)
 .skip))
 (.seq
 (.seq
 (.ops [⟨some 39, (.mv (.t 11)), none⟩,
 ⟨some 40, (.bin .gtr (.t 39) (.c (.int .i64 (0)))), none⟩]
 [] [11, 38, 39])
 (.cond (.t 40)
 (.seq
 (.ops [⟨some 42, (.load true 2 (.t 3)), none⟩,
 ⟨some 43, (.mv (.t 12)), none⟩,
 ⟨some 44, (.load true 2 (.t 5)), none⟩,
 ⟨some 45, (.fad 3 (.t 9)), none⟩,
 ⟨some 46, (.load true 2 (.t 45)), none⟩,
 ⟨some 47, (.call (.f 28) [(.t 42), (.t 43), (.t 44), (.t 46)]), none⟩,
 ⟨some 41, (.mv (.t 47)), none⟩,
 ⟨some 48, (.ext (.t 41) 0), none⟩,
 ⟨some 49, (.ext (.t 41) 1), none⟩,
 ⟨some 50, (.ext (.t 41) 2), none⟩,
 ⟨some 13, (.allocL (.agg [.nils, .nils])), none⟩,
 ⟨some 14, (.allocL (.agg [(.int .i64 (0)), (.int .i64 (0))])), none⟩,
 ⟨none, (.store 2 (.t 13) (.t 48)), none⟩,
 ⟨none, (.store 2 (.t 14) (.t 49)), none⟩,
 ⟨some 15, (.mv (.t 50)), none⟩]
 [] [40, 41, 42, 43, 44, 45, 46, 47, 48, 49, 50])
 (.seq
 (.seq
 (.ops [⟨some 51, (.mv (.t 15)), none⟩,
 ⟨some 52, (.bin .neq (.t 51) (.c (.int .i64 (0)))), none⟩]
 [] [51])
 (.cond (.t 52)
 (.seq
 (.ops [⟨some 53, (.build [.nils, .nils] []), none⟩,
 ⟨some 54, (.build [(.int .i64 (0)), (.int .i64 (0)), (.int .i64 (0)), (.int .i64 (0)), (.int .i64 (0)), (.int .i64 (0))] []), none⟩,
 ⟨some 55, (.mv (.t 15)), none⟩,
 ⟨none, (.store 2 (.t 6) (.t 53)), none⟩,
 ⟨none, (.store 6 (.t 7) (.t 54)), none⟩,
 ⟨some 8, (.mv (.t 55)), none⟩]
 [] [1, 3, 5, 9, 10, 12, 13, 14, 15, 29, 30, 31, 52, 53, 54, 55])
 .ret)
 .skip))
 (.seq
 (.ops [⟨some 56, (.load true 2 (.t 13)), none⟩,
 ⟨none, (.store 2 (.t 3) (.t 56)), none⟩]
 [] [13, 15, 52, 56])
 (.seq
 (.seq
 (.ops [⟨some 57, (.load true 2 (.t 14)), none⟩,
 ⟨some 58, (.load true 2 (.t 3)), none⟩,
 ⟨some 59, (.mv (.t 12)), none⟩,
 ⟨some 60, (.call (.f 27) [(.t 58), (.t 59)]), none⟩,
 ⟨some 61, (.call (.f 12) [(.t 57), (.t 60)]), none⟩,
 ⟨some 62, (.un .not (.t 61)), none⟩]
 [(0, 1), (0, 2), (1, 2), (0, 3)] [14, 57, 58, 59, 60, 61])
 (.cond (.t 62)
 (.exit 1)
 .skip))
 (.ops [⟨some 63, (.fad 5 (.t 9)), none⟩,
 ⟨some 64, (.load false 1 (.t 63)), none⟩,
 ⟨some 65, (.bin .add (.t 64) (.c (.int .i64 (1)))), none⟩,
 ⟨some 66, (.fad 5 (.t 9)), none⟩,
 ⟨none, (.store 1 (.t 66) (.t 65)), none⟩]
 [] [62, 63, 64, 65, 66])))))
 .skip))
 (.seq
 (.ops [⟨some 67, (.mv (.t 10)), none⟩,
 ⟨some 68, (.mv (.t 12)), none⟩,
 ⟨some 69, (.call (.t 67) [(.t 68)]), none⟩,
 ⟨some 16, (.mv (.t 69)), none⟩]
 [] [12, 40, 67, 68, 69])
 (.seq
 (.ops [⟨some 70, (.mv (.t 16)), none⟩,
 ⟨some 71, (.bin .neq (.t 70) (.c (.int .i64 (0)))), none⟩]
 [] [70])
 (.cond (.t 71)
 (.seq
 (.ops [⟨some 72, (.build [.nils, .nils] []), none⟩,
 ⟨some 73, (.build [(.int .i64 (0)), (.int .i64 (0)), (.int .i64 (0)), (.int .i64 (0)), (.int .i64 (0)), (.int .i64 (0))] []), none⟩,
 ⟨some 74, (.mv (.t 16)), none⟩,
 ⟨none, (.store 2 (.t 6) (.t 72)), none⟩,
 ⟨none, (.store 6 (.t 7) (.t 73)), none⟩,
 ⟨some 8, (.mv (.t 74)), none⟩]
 [] [1, 3, 5, 9, 10, 16, 29, 30, 31, 71, 72, 73, 74])
 .ret)
 .skip)))))))
 (.ops [⟨some 75, (.bin .add (.t 31) (.c (.int .i64 (1)))), none⟩,
 ⟨some 31, (.mv (.t 75)), none⟩]
 [] [12, 16, 62, 71, 75])))))))
 (.seq
 (.ops [⟨some 76, (.load true 2 (.t 3)), none⟩,
 ⟨some 77, (.load true 6 (.t 9)), none⟩,
 ⟨none, (.store 2 (.t 6) (.t 76)), none⟩,
 ⟨none, (.store 6 (.t 7) (.t 77)), none⟩,
 ⟨some 8, (.mv (.c (.int .i64 (0)))), none⟩]
 [(0, 1), (1, 2)] [1, 3, 5, 9, 10, 11, 12, 29, 30, 31, 32, 38, 76, 77])
 .ret)))))⟩
def loc16 : List Nat := [6, 7, 13, 14]
def fg16 : List (Nat × List Nat) := [(18, [1, 3, 5, 9, 10, 11, 12, 29, 30, 31, 32, 38, 76, 77]), (17, [12, 16, 62, 71, 75]), (16, [1, 3, 5, 9, 10, 16, 29, 30, 31, 71, 72, 73, 74]), (15, [70]), (14, [12, 40, 67, 68, 69]), (13, [62, 63, 64, 65, 66]), (12, [14, 57, 58, 59, 60, 61]), (11, [13, 15, 52, 56]), (10, [1, 3, 5, 9, 10, 12, 13, 14, 15, 29, 30, 31, 52, 53, 54, 55]), (9, [51]), (8, [40, 41, 42, 43, 44, 45, 46, 47, 48, 49, 50]), (7, [11, 38, 39]), (6, [36, 37]), (5, [32, 33, 34, 35]), (2, [28]), (1, [17, 18, 19, 20, 21, 22, 23, 24, 25, 26, 27]), (0, [0, 2, 8])]
theorem comp16 : compFn Try.prog loc16 (fun i => (fg16.lookup i).getD []) Try.f16 = some lit16 := by kernel_rfl

-- parcener/trim.rounds
def lit17 : AFn := ⟨2, [.tmp 4],
 (.seq
 (.ops [⟨some 2, (.boxH true 2 (.t 0)), none⟩,
 ⟨some 3, (.boxH false 1 (.t 1)), none⟩,
 ⟨some 4, (.mv (.c .nilf)), none⟩]
 [] [0, 1, 4])
 (.seq
 (.ops [⟨some 5, (.mkFn (.func 29) [] [(.t 2), (.t 3)]), none⟩,
 ⟨some 4, (.mv (.t 5)), none⟩]
 [] [2, 3, 5])
 .ret))⟩
def loc17 : List Nat := []
def fg17 : List (Nat × List Nat) := [(1, [2, 3, 5]), (0, [0, 1, 4])]
theorem comp17 : compFn Try.prog loc17 (fun i => (fg17.lookup i).getD []) Try.f17 = some lit17 := by kernel_rfl

-- parcener/parcenerref08.SameTurns
def lit19 : AFn := ⟨2, [.tmp 4],
 (.seq
 (.ops [⟨some 4, (.mv (.c (.bool false))), none⟩]
 [] [4])
 (.seq
 (.seq
 (.ops [⟨some 6, (.mv (.t 0)), none⟩,
 ⟨some 7, (.len (.t 6)), none⟩,
 ⟨some 8, (.mv (.t 1)), none⟩,
 ⟨some 9, (.len (.t 8)), none⟩,
 ⟨some 10, (.bin .neq (.t 7) (.t 9)), none⟩]
 [] [6, 7, 8, 9])
 (.cond (.t 10)
 (.seq
 (.ops [⟨some 4, (.mv (.c (.bool false))), none⟩]
 [] [0, 1, 10])
 .ret)
 .skip))
 (.seq
 (.seq
 (.ops [⟨some 5, (.mv (.c (.int .i64 (0)))), none⟩]
 [] [10])
 (.block 0
 (.loop
 (.seq
 (.seq
 (.ops [⟨some 11, (.mv (.t 5)), none⟩,
 ⟨some 12, (.mv (.t 0)), none⟩,
 ⟨some 13, (.len (.t 12)), none⟩,
 ⟨some 14, (.bin .lss (.t 11) (.t 13)), none⟩]
 [] [11, 12, 13])
 (.cond (.t 14)
 .skip
 (.exit 0)))
 (.seq
 (.block 1
 (.seq
 (.ops [⟨some 17, (.mv (.t 0)), none⟩,
 ⟨some 18, (.mv (.t 5)), none⟩,
 ⟨some 19, (.iad 6 (.t 17) (.t 18)), none⟩,
 ⟨some 20, (.load true 6 (.t 19)), none⟩,
 ⟨some 21, (.mv (.t 1)), none⟩,
 ⟨some 22, (.mv (.t 5)), none⟩,
 ⟨some 23, (.iad 6 (.t 21) (.t 22)), none⟩,
 ⟨some 24, (.load true 6 (.t 23)), none⟩,
 ⟨some 25, (.eqA true 6 [(0, (some .i64)), (1, (some .i64)), (2, (some .i64)), (3, (some .i64)), (4, (some .i64)), (5, (some .i64))] (.t 20) (.t 24)), none⟩]
 [(0, 1), (0, 4), (1, 4), (2, 4), (3, 4), (0, 5), (1, 5), (2, 5), (3, 5), (4, 5), (0, 6), (1, 6), (2, 6), (3, 6), (0, 7), (1, 7), (2, 7), (3, 7)] [14, 17, 18, 19, 20, 21, 22, 23, 24])
 (.cond (.t 25)
 (.seq
 (.ops [⟨some 4, (.mv (.c (.bool false))), none⟩]
 [] [0, 1, 5, 25])
 .ret)
 .skip)))
 (.ops [⟨some 15, (.mv (.t 5)), none⟩,
 ⟨some 16, (.bin .add (.t 15) (.c (.int .i64 (1)))), none⟩,
 ⟨some 5, (.mv (.t 16)), none⟩]
 [] [15, 16, 25]))))))
 (.seq
 (.ops [⟨some 4, (.mv (.c (.bool true))), none⟩]
 [] [0, 1, 5, 14])
 .ret))))⟩
def loc19 : List Nat := []
def fg19 : List (Nat × List Nat) := [(8, [0, 1, 5, 14]), (5, [15, 16, 25]), (7, [0, 1, 5, 25]), (6, [14, 17, 18, 19, 20, 21, 22, 23, 24]), (4, [11, 12, 13]), (3, [10]), (2, [0, 1, 10]), (1, [6, 7, 8, 9]), (0, [4])]
theorem comp19 : compFn Try.prog loc19 (fun i => (fg19.lookup i).getD []) Try.f19 = some lit19 := by kernel_rfl

-- parcener/cake.Check
def lit20 : AFn := ⟨1, [.tmp 2],
 (.seq
 (.ops [⟨some 1, (.boxL (.t 0)), none⟩,
 ⟨some 2, (.mv (.c (.int .i64 (0)))), none⟩]
 [] [0, 2])
 (.seq
 (.ops [⟨some 5, (.fad 1 (.t 1)), none⟩,
 ⟨some 6, (.load false 1 (.t 5)), none⟩,
 ⟨some 7, (.len (.t 6)), none⟩,
 ⟨some 3, (.mv (.t 7)), none⟩]
 [] [5, 6, 7])
 (.seq
 (.seq
 (.ops [⟨some 8, (.fad 0 (.t 1)), none⟩,
 ⟨some 9, (.load false 1 (.t 8)), none⟩,
 ⟨some 10, (.bin .gtr (.t 9) (.c (.int .i64 (1000)))), none⟩,
 ⟨some 11, (.mv (.t 10)), none⟩,
 ⟨some 12, (.mv (.t 3)), some (11, false)⟩,
 ⟨some 13, (.bin .gtr (.t 12) (.c (.int .i64 (40)))), some (11, false)⟩,
 ⟨some 14, (.pick (.t 11) (.c (.bool true)) (.t 13)), none⟩]
 [] [8, 9, 10, 11, 12, 13])
 (.cond (.t 14)
 (.seq
 (.ops [⟨some 2, (.mv (.c (.int .i64 (4)))), none⟩]
 [] [1, 3, 14])
 .ret)
 .skip))
 (.seq
 (.seq
 (.ops [⟨some 15, (.fad 0 (.t 1)), none⟩,
 ⟨some 16, (.load false 1 (.t 15)), none⟩,
 ⟨some 17, (.bin .lss (.t 16) (.c (.int .i64 (1)))), none⟩,
 ⟨some 18, (.mv (.t 17)), none⟩,
 ⟨some 19, (.mv (.t 3)), some (18, false)⟩,
 ⟨some 20, (.bin .lss (.t 19) (.c (.int .i64 (2)))), some (18, false)⟩,
 ⟨some 21, (.pick (.t 18) (.c (.bool true)) (.t 20)), none⟩,
 ⟨some 22, (.mv (.t 21)), none⟩,
 ⟨some 23, (.fad 2 (.t 1)), some (22, false)⟩,
 ⟨some 24, (.load false 1 (.t 23)), some (22, false)⟩,
 ⟨some 25, (.len (.t 24)), some (22, false)⟩,
 ⟨some 26, (.mv (.t 3)), some (22, false)⟩,
 ⟨some 27, (.bin .sub (.t 26) (.c (.int .i64 (1)))), some (22, false)⟩,
 ⟨some 28, (.bin .neq (.t 25) (.t 27)), some (22, false)⟩,
 ⟨some 29, (.pick (.t 22) (.c (.bool true)) (.t 28)), none⟩,
 ⟨some 30, (.mv (.t 29)), none⟩,
 ⟨some 31, (.fad 1 (.t 1)), some (30, false)⟩,
 ⟨some 32, (.load false 1 (.t 31)), some (30, false)⟩,
 ⟨some 33, (.iad 1 (.t 32) (.c (.int .i64 (0)))), some (30, false)⟩,
 ⟨some 34, (.load false 1 (.t 33)), some (30, false)⟩,
 ⟨some 35, (.bin .neq (.t 34) (.c (.int .i64 (0)))), some (30, false)⟩,
 ⟨some 36, (.pick (.t 30) (.c (.bool true)) (.t 35)), none⟩,
 ⟨some 37, (.mv (.t 36)), none⟩,
 ⟨some 38, (.fad 1 (.t 1)), some (37, false)⟩,
 ⟨some 39, (.load false 1 (.t 38)), some (37, false)⟩,
 ⟨some 40, (.mv (.t 3)), some (37, false)⟩,
 ⟨some 41, (.bin .sub (.t 40) (.c (.int .i64 (1)))), some (37, false)⟩,
 ⟨some 42, (.iad 1 (.t 39) (.t 41)), some (37, false)⟩,
 ⟨some 43, (.load false 1 (.t 42)), some (37, false)⟩,
 ⟨some 44, (.fad 0 (.t 1)), some (37, false)⟩,
 ⟨some 45, (.load false 1 (.t 44)), some (37, false)⟩,
 ⟨some 46, (.bin .neq (.t 43) (.t 45)), some (37, false)⟩,
 ⟨some 47, (.pick (.t 37) (.c (.bool true)) (.t 46)), none⟩]
 [(8, 11), (9, 11), (10, 11), (8, 12), (9, 12), (10, 12), (23, 25), (24, 25), (23, 26), (24, 26), (23, 29), (24, 29), (25, 29), (26, 29), (27, 29), (28, 29), (23, 30), (24, 30), (25, 30), (26, 30), (27, 30), (28, 30)] [14, 15, 16, 17, 18, 19, 20, 21, 22, 23, 24, 25, 26, 27, 28, 29, 30, 31, 32, 33, 34, 35, 36, 37, 38, 39, 40, 41, 42, 43, 44, 45, 46])
 (.cond (.t 47)
 (.seq
 (.ops [⟨some 2, (.mv (.c (.int .i64 (8)))), none⟩]
 [] [1, 3, 47])
 .ret)
 .skip))
 (.seq
 (.seq
 (.ops [⟨some 48, (.mv (.t 3)), none⟩,
 ⟨some 49, (.bin .sub (.t 48) (.c (.int .i64 (1)))), none⟩,
 ⟨some 50, (.mv (.c (.int .i64 (0)))), none⟩]
 [] [3, 47, 48])
 (.block 0
 (.loop
 (.seq
 (.ops [⟨some 51, (.bin .lss (.t 50) (.t 49)), none⟩]
 [] [])
 (.seq
 (.cond (.t 51)
 .skip
 (.exit 0))
 (.seq
 (.block 1
 (.seq
 (.ops [⟨some 52, (.mv (.t 50)), none⟩,
 ⟨some 4, (.mv (.t 52)), none⟩]
 [] [51, 52])
 (.seq
 (.ops [⟨some 53, (.fad 1 (.t 1)), none⟩,
 ⟨some 54, (.load false 1 (.t 53)), none⟩,
 ⟨some 55, (.mv (.t 4)), none⟩,
 ⟨some 56, (.iad 1 (.t 54) (.t 55)), none⟩,
 ⟨some 57, (.load false 1 (.t 56)), none⟩,
 ⟨some 58, (.fad 1 (.t 1)), none⟩,
 ⟨some 59, (.load false 1 (.t 58)), none⟩,
 ⟨some 60, (.mv (.t 4)), none⟩,
 ⟨some 61, (.bin .add (.t 60) (.c (.int .i64 (1)))), none⟩,
 ⟨some 62, (.iad 1 (.t 59) (.t 61)), none⟩,
 ⟨some 63, (.load false 1 (.t 62)), none⟩,
 ⟨some 64, (.bin .geq (.t 57) (.t 63)), none⟩]
 [(0, 2), (1, 2), (0, 5), (1, 5), (2, 5), (3, 5), (4, 5), (0, 6), (1, 6), (2, 6), (3, 6), (4, 6), (0, 7), (1, 7), (2, 7), (3, 7), (4, 7), (5, 7), (6, 7), (0, 8), (1, 8), (2, 8), (3, 8), (4, 8), (5, 8), (6, 8), (0, 9), (1, 9), (2, 9), (3, 9), (4, 9), (0, 10), (1, 10), (2, 10), (3, 10), (4, 10)] [4, 53, 54, 55, 56, 57, 58, 59, 60, 61, 62, 63])
 (.cond (.t 64)
 (.seq
 (.ops [⟨some 2, (.mv (.c (.int .i64 (8)))), none⟩]
 [] [1, 49, 50, 64])
 .ret)
 .skip))))
 (.ops [⟨some 65, (.bin .add (.t 50) (.c (.int .i64 (1)))), none⟩,
 ⟨some 50, (.mv (.t 65)), none⟩]
 [] [64, 65])))))))
 (.seq
 (.seq
 (.ops [⟨some 66, (.fad 2 (.t 1)), none⟩,
 ⟨some 67, (.load false 1 (.t 66)), none⟩,
 ⟨some 68, (.call (.f 32) [(.t 67)]), none⟩,
 ⟨some 69, (.bin .lss (.t 68) (.c (.int .i64 (0)))), none⟩,
 ⟨some 70, (.mv (.t 69)), none⟩,
 ⟨some 71, (.fad 2 (.t 1)), some (70, false)⟩,
 ⟨some 72, (.load false 1 (.t 71)), some (70, false)⟩,
 ⟨some 73, (.call (.f 33) [(.t 72)]), some (70, false)⟩,
 ⟨some 74, (.bin .gtr (.t 73) (.c (.int .i64 (12)))), some (70, false)⟩,
 ⟨some 75, (.pick (.t 70) (.c (.bool true)) (.t 74)), none⟩,
 ⟨some 76, (.mv (.t 75)), none⟩,
 ⟨some 77, (.fad 2 (.t 1)), some (76, false)⟩,
 ⟨some 78, (.load false 1 (.t 77)), some (76, false)⟩,
 ⟨some 79, (.call (.f 33) [(.t 78)]), some (76, false)⟩,
 ⟨some 80, (.bin .eql (.t 79) (.c (.int .i64 (0)))), some (76, false)⟩,
 ⟨some 81, (.pick (.t 76) (.c (.bool true)) (.t 80)), none⟩]
 [] [1, 49, 50, 51, 66, 67, 68, 69, 70, 71, 72, 73, 74, 75, 76, 77, 78, 79, 80])
 (.cond (.t 81)
 (.seq
 (.ops [⟨some 2, (.mv (.c (.int .i64 (8)))), none⟩]
 [] [81])
 .ret)
 .skip))
 (.seq
 (.ops [⟨some 2, (.mv (.c (.int .i64 (0)))), none⟩]
 [] [81])
 .ret)))))))⟩
def loc20 : List Nat := [1]
def fg20 : List (Nat × List Nat) := [(14, [81]), (13, [81]), (12, [1, 49, 50, 51, 66, 67, 68, 69, 70, 71, 72, 73, 74, 75, 76, 77, 78, 79, 80]), (11, [64, 65]), (10, [1, 49, 50, 64]), (9, [4, 53, 54, 55, 56, 57, 58, 59, 60, 61, 62, 63]), (8, [51, 52]), (6, [3, 47, 48]), (5, [1, 3, 47]), (4, [14, 15, 16, 17, 18, 19, 20, 21, 22, 23, 24, 25, 26, 27, 28, 29, 30, 31, 32, 33, 34, 35, 36, 37, 38, 39, 40, 41, 42, 43, 44, 45, 46]), (3, [1, 3, 14]), (2, [8, 9, 10, 11, 12, 13]), (1, [5, 6, 7]), (0, [0, 2])]
theorem comp20 : compFn Try.prog loc20 (fun i => (fg20.lookup i).getD []) Try.f20 = some lit20 := by kernel_rfl

-- parcener/ratio.size
def lit21 : AFn := ⟨1, [.tmp 2],
 (.seq
 (.ops [⟨some 2, (.mv (.c (.int .u64 (0)))), none⟩]
 [] [2])
 (.seq
 (.seq
 (.ops [⟨some 3, (.mv (.t 0)), none⟩,
 ⟨some 4, (.bin .lss (.t 3) (.c (.int .i64 (0)))), none⟩]
 [] [3])
 (.cond (.t 4)
 (.seq
 (.ops [⟨some 5, (.mv (.t 0)), none⟩,
 ⟨some 6, (.conv .u64 (.t 5)), none⟩,
 ⟨some 7, (.un .neg (.t 6)), none⟩,
 ⟨some 2, (.mv (.t 7)), none⟩]
 [] [0, 4, 5, 6, 7])
 .ret)
 .skip))
 (.seq
 (.ops [⟨some 8, (.mv (.t 0)), none⟩,
 ⟨some 9, (.conv .u64 (.t 8)), none⟩,
 ⟨some 2, (.mv (.t 9)), none⟩]
 [] [0, 4, 8, 9])
 .ret)))⟩
def loc21 : List Nat := []
def fg21 : List (Nat × List Nat) := [(3, [0, 4, 8, 9]), (2, [0, 4, 5, 6, 7]), (1, [3]), (0, [2])]
theorem comp21 : compFn Try.prog loc21 (fun i => (fg21.lookup i).getD []) Try.f21 = some lit21 := by kernel_rfl

-- parcener/ratio.gcd
def lit22 : AFn := ⟨2, [.tmp 4],
 (.seq
 (.ops [⟨some 4, (.mv (.c (.int .u64 (0)))), none⟩]
 [] [4])
 (.seq
 (.block 0
 (.loop
 (.seq
 (.seq
 (.ops [⟨some 5, (.mv (.t 1)), none⟩,
 ⟨some 6, (.bin .gtr (.t 5) (.c (.int .u64 (0)))), none⟩]
 [] [5])
 (.cond (.t 6)
 .skip
 (.exit 0)))
 (.block 1
 (.ops [⟨some 7, (.mv (.t 1)), none⟩,
 ⟨some 8, (.mv (.t 0)), none⟩,
 ⟨some 9, (.mv (.t 1)), none⟩,
 ⟨some 10, (.bin .rem (.t 8) (.t 9)), none⟩,
 ⟨some 0, (.mv (.t 7)), none⟩,
 ⟨some 1, (.mv (.t 10)), none⟩]
 [(0, 1), (0, 2), (1, 2), (0, 3), (2, 4), (3, 4)] [6, 7, 8, 9, 10])))))
 (.seq
 (.ops [⟨some 11, (.mv (.t 0)), none⟩,
 ⟨some 4, (.mv (.t 11)), none⟩]
 [] [0, 1, 6, 11])
 .ret)))⟩
def loc22 : List Nat := []
def fg22 : List (Nat × List Nat) := [(3, [0, 1, 6, 11]), (2, [6, 7, 8, 9, 10]), (1, [5]), (0, [4])]
theorem comp22 : compFn Try.prog loc22 (fun i => (fg22.lookup i).getD []) Try.f22 = some lit22 := by kernel_rfl

-- parcener/ratio.Cmp
def lit23 : AFn := ⟨2, [.tmp 4, .tmp 5],
 (.seq
 (.ops [⟨some 2, (.boxL (.t 0)), none⟩,
 ⟨some 3, (.boxL (.t 1)), none⟩,
 ⟨some 4, (.mv (.c (.int .i64 (0)))), none⟩,
 ⟨some 5, (.mv (.c (.int .i64 (0)))), none⟩]
 [] [0, 1, 4, 5])
 (.seq
 (.seq
 (.ops [⟨some 12, (.load true 2 (.t 2)), none⟩,
 ⟨some 13, (.load true 2 (.t 3)), none⟩,
 ⟨some 14, (.call (.f 34) [(.t 12), (.t 13)]), none⟩,
 ⟨some 6, (.mv (.t 14)), none⟩]
 [] [12, 13, 14])
 (.seq
 (.ops [⟨some 15, (.mv (.t 6)), none⟩,
 ⟨some 16, (.bin .neq (.t 15) (.c (.int .i64 (0)))), none⟩]
 [] [15])
 (.cond (.t 16)
 (.seq
 (.ops [⟨some 17, (.mv (.t 6)), none⟩,
 ⟨some 4, (.mv (.c (.int .i64 (0)))), none⟩,
 ⟨some 5, (.mv (.t 17)), none⟩]
 [] [2, 3, 6, 16, 17])
 .ret)
 .skip)))
 (.seq
 (.seq
 (.ops [⟨some 18, (.fad 0 (.t 2)), none⟩,
 ⟨some 19, (.load false 1 (.t 18)), none⟩,
 ⟨some 20, (.bin .lss (.t 19) (.c (.int .i64 (0)))), none⟩,
 ⟨some 21, (.fad 0 (.t 3)), none⟩,
 ⟨some 22, (.load false 1 (.t 21)), none⟩,
 ⟨some 23, (.bin .lss (.t 22) (.c (.int .i64 (0)))), none⟩,
 ⟨some 24, (.eqB true (.t 20) (.t 23)), none⟩]
 [] [6, 16, 18, 19, 20, 21, 22, 23])
 (.cond (.t 24)
 (.seq
 (.ops [⟨some 25, (.fad 0 (.t 2)), none⟩,
 ⟨some 26, (.load false 1 (.t 25)), none⟩,
 ⟨some 27, (.fad 0 (.t 3)), none⟩,
 ⟨some 28, (.load false 1 (.t 27)), none⟩,
 ⟨some 29, (.call (.f 35) [(.t 26), (.t 28)]), none⟩,
 ⟨some 4, (.mv (.t 29)), none⟩,
 ⟨some 5, (.mv (.c (.int .i64 (0)))), none⟩]
 [] [2, 3, 24, 25, 26, 27, 28, 29])
 .ret)
 .skip))
 (.seq
 (.ops [⟨some 31, (.fad 0 (.t 2)), none⟩,
 ⟨some 32, (.load false 1 (.t 31)), none⟩,
 ⟨some 33, (.call (.f 21) [(.t 32)]), none⟩,
 ⟨some 34, (.fad 1 (.t 3)), none⟩,
 ⟨some 35, (.load false 1 (.t 34)), none⟩,
 ⟨some 36, (.conv .u64 (.t 35)), none⟩,
 ⟨some 37, (.call (.f 36) [(.t 33), (.t 36)]), none⟩,
 ⟨some 30, (.mv (.t 37)), none⟩,
 ⟨some 38, (.ext (.t 30) 0), none⟩,
 ⟨some 39, (.ext (.t 30) 1), none⟩,
 ⟨some 7, (.mv (.t 38)), none⟩,
 ⟨some 8, (.mv (.t 39)), none⟩]
 [(0, 3), (1, 3), (2, 3), (0, 4), (1, 4), (2, 4), (0, 5), (1, 5), (2, 5), (8, 9), (9, 10)] [24, 30, 31, 32, 33, 34, 35, 36, 37, 38, 39])
 (.seq
 (.ops [⟨some 41, (.fad 0 (.t 3)), none⟩,
 ⟨some 42, (.load false 1 (.t 41)), none⟩,
 ⟨some 43, (.call (.f 21) [(.t 42)]), none⟩,
 ⟨some 44, (.fad 1 (.t 2)), none⟩,
 ⟨some 45, (.load false 1 (.t 44)), none⟩,
 ⟨some 46, (.conv .u64 (.t 45)), none⟩,
 ⟨some 47, (.call (.f 36) [(.t 43), (.t 46)]), none⟩,
 ⟨some 40, (.mv (.t 47)), none⟩,
 ⟨some 48, (.ext (.t 40) 0), none⟩,
 ⟨some 49, (.ext (.t 40) 1), none⟩,
 ⟨some 9, (.mv (.t 48)), none⟩,
 ⟨some 10, (.mv (.t 49)), none⟩]
 [(0, 3), (1, 3), (2, 3), (0, 4), (1, 4), (2, 4), (0, 5), (1, 5), (2, 5), (8, 9), (9, 10)] [3, 40, 41, 42, 43, 44, 45, 46, 47, 48, 49])
 (.seq
 (.ops [⟨some 50, (.mv (.t 7)), none⟩,
 ⟨some 51, (.mv (.t 9)), none⟩,
 ⟨some 52, (.call (.f 38) [(.t 50), (.t 51)]), none⟩,
 ⟨some 53, (.mv (.t 8)), none⟩,
 ⟨some 54, (.mv (.t 10)), none⟩,
 ⟨some 55, (.call (.f 38) [(.t 53), (.t 54)]), none⟩,
 ⟨some 56, (.buildD 1 (.int .i64 (0)) 2 [(0, (.t 52)), (1, (.t 55))]), none⟩,
 ⟨some 57, (.call (.f 37) [(.t 56)]), none⟩,
 ⟨some 11, (.mv (.t 57)), none⟩]
 [] [7, 8, 9, 10, 50, 51, 52, 53, 54, 55, 56, 57])
 (.seq
 (.seq
 (.ops [⟨some 58, (.fad 0 (.t 2)), none⟩,
 ⟨some 59, (.load false 1 (.t 58)), none⟩,
 ⟨some 60, (.bin .lss (.t 59) (.c (.int .i64 (0)))), none⟩]
 [] [2, 58, 59])
 (.cond (.t 60)
 (.ops [⟨some 61, (.mv (.t 11)), none⟩,
 ⟨some 62, (.un .neg (.t 61)), none⟩,
 ⟨some 11, (.mv (.t 62)), none⟩]
 [] [60, 61, 62])
 .skip))
 (.seq
 (.ops [⟨some 63, (.mv (.t 11)), none⟩,
 ⟨some 4, (.mv (.t 63)), none⟩,
 ⟨some 5, (.mv (.c (.int .i64 (0)))), none⟩]
 [] [11, 60, 63])
 .ret))))))))⟩
def loc23 : List Nat := [56, 2, 3]
def fg23 : List (Nat × List Nat) := [(11, [11, 60, 63]), (10, [60, 61, 62]), (9, [2, 58, 59]), (8, [7, 8, 9, 10, 50, 51, 52, 53, 54, 55, 56, 57]), (7, [3, 40, 41, 42, 43, 44, 45, 46, 47, 48, 49]), (6, [24, 30, 31, 32, 33, 34, 35, 36, 37, 38, 39]), (5, [2, 3, 24, 25, 26, 27, 28, 29]), (4, [6, 16, 18, 19, 20, 21, 22, 23]), (3, [2, 3, 6, 16, 17]), (2, [15]), (1, [12, 13, 14]), (0, [0, 1, 4, 5])]
theorem comp23 : compFn Try.prog loc23 (fun i => (fg23.lookup i).getD []) Try.f23 = some lit23 := by kernel_rfl

-- parcener/ask.copied
def lit24 : AFn := ⟨1, [.tmp 2],
 (.seq
 (.ops [⟨some 2, (.mv (.c .nils)), none⟩]
 [] [2])
 (.seq
 (.ops [⟨some 3, (.mv (.c .nils)), none⟩]
 [] [])
 (.seq
 (.seq
 (.ops [⟨some 6, (.mv (.t 0)), none⟩,
 ⟨some 7, (.len (.t 6)), none⟩,
 ⟨some 8, (.mv (.c (.int .i64 (0)))), none⟩]
 [] [0])
 (.block 0
 (.loop
 (.seq
 (.ops [⟨some 9, (.bin .lss (.t 8) (.t 7)), none⟩]
 [] [])
 (.seq
 (.cond (.t 9)
 .skip
 (.exit 0))
 (.seq
 (.block 1
 (.seq
 (.ops [⟨some 10, (.iad 3 (.t 6) (.t 8)), none⟩,
 ⟨some 11, (.load true 3 (.t 10)), none⟩,
 ⟨some 5, (.allocL (.agg [(.int .i64 (0)), .nils, .nils])), none⟩,
 ⟨none, (.store 3 (.t 5) (.t 11)), none⟩]
 [] [9, 10, 11])
 (.ops [⟨some 12, (.mv (.t 3)), none⟩,
 ⟨some 13, (.fad 0 (.t 5)), none⟩,
 ⟨some 14, (.load false 1 (.t 13)), none⟩,
 ⟨some 15, (.fad 1 (.t 5)), none⟩,
 ⟨some 16, (.load false 1 (.t 15)), none⟩,
 ⟨some 17, (.call (.f 39) [(.t 16)]), none⟩,
 ⟨some 18, (.fad 2 (.t 5)), none⟩,
 ⟨some 19, (.load false 1 (.t 18)), none⟩,
 ⟨some 20, (.call (.f 39) [(.t 19)]), none⟩,
 ⟨some 21, (.build [(.int .i64 (0)), .nils, .nils] [(0, 1, (.t 14)), (1, 1, (.t 17)), (2, 1, (.t 20))]), none⟩,
 ⟨some 22, (.buildD 3 (.agg [(.int .i64 (0)), (.data []), (.data [])]) 1 [(0, (.t 21))]), none⟩,
 ⟨some 23, (.app true 3 56 (.t 12) (.t 22)), none⟩,
 ⟨some 3, (.mv (.t 23)), none⟩]
 [(0, 1), (0, 2), (0, 3), (1, 3), (2, 3), (0, 4), (1, 4), (2, 4), (0, 5), (1, 5), (2, 5), (0, 6), (1, 6), (2, 6), (3, 6), (4, 6), (5, 6), (0, 7), (1, 7), (2, 7), (3, 7), (4, 7), (5, 7), (0, 8), (1, 8), (2, 8), (0, 9), (0, 10)] [5, 12, 13, 14, 15, 16, 17, 18, 19, 20, 21, 22, 23])))
 (.ops [⟨some 24, (.bin .add (.t 8) (.c (.int .i64 (1)))), none⟩,
 ⟨some 8, (.mv (.t 24)), none⟩]
 [] [24])))))))
 (.seq
 (.ops [⟨some 25, (.mv (.t 3)), none⟩,
 ⟨some 2, (.mv (.t 25)), none⟩]
 [] [3, 6, 7, 8, 9, 25])
 .ret))))⟩
def loc24 : List Nat := [22, 5]
def fg24 : List (Nat × List Nat) := [(7, [3, 6, 7, 8, 9, 25]), (6, [24]), (5, [5, 12, 13, 14, 15, 16, 17, 18, 19, 20, 21, 22, 23]), (4, [9, 10, 11]), (2, [0]), (0, [2])]
theorem comp24 : compFn Try.prog loc24 (fun i => (fg24.lookup i).getD []) Try.f24 = some lit24 := by kernel_rfl

-- parcener/trim.round$1
def lit25 : AFn := ⟨4, [.tmp 5],
 (.seq
 (.ops [⟨some 5, (.mv (.c (.int .i64 (0)))), none⟩]
 [] [5])
 (.seq
 (.ops [⟨some 10, (.load true 2 (.t 1)), none⟩,
 ⟨some 11, (.mv (.t 0)), none⟩,
 ⟨some 12, (.load true 2 (.t 2)), none⟩,
 ⟨some 13, (.load true 2 (.t 1)), none⟩,
 ⟨some 14, (.mv (.t 0)), none⟩,
 ⟨some 15, (.call (.f 27) [(.t 13), (.t 14)]), none⟩,
 ⟨some 16, (.call (.f 26) [(.t 10), (.t 11), (.t 12), (.t 15)]), none⟩,
 ⟨some 9, (.mv (.t 16)), none⟩,
 ⟨some 17, (.ext (.t 9) 0), none⟩,
 ⟨some 18, (.ext (.t 9) 1), none⟩,
 ⟨some 19, (.ext (.t 9) 2), none⟩,
 ⟨some 6, (.allocL (.agg [.nils, .nils])), none⟩,
 ⟨some 7, (.allocL (.agg [(.int .i64 (0)), (.int .i64 (0))])), none⟩,
 ⟨none, (.store 2 (.t 6) (.t 17)), none⟩,
 ⟨none, (.store 2 (.t 7) (.t 18)), none⟩,
 ⟨some 8, (.mv (.t 19)), none⟩]
 [(0, 1), (0, 2), (1, 2), (0, 3), (1, 3), (2, 3), (0, 4), (1, 4), (2, 4), (3, 4), (0, 5), (1, 5), (2, 5), (8, 9), (8, 10), (9, 10), (0, 11), (1, 11), (2, 11), (3, 11), (4, 11), (5, 11), (6, 11), (7, 11), (8, 11), (9, 11), (10, 11), (0, 12), (1, 12), (2, 12), (3, 12), (4, 12), (5, 12), (6, 12), (7, 12), (8, 12), (9, 12), (10, 12), (11, 12), (9, 13), (10, 13), (10, 14)] [2, 9, 10, 11, 12, 13, 14, 15, 16, 17, 18, 19])
 (.seq
 (.seq
 (.ops [⟨some 20, (.mv (.t 8)), none⟩,
 ⟨some 21, (.bin .eql (.t 20) (.c (.int .i64 (0)))), none⟩]
 [] [20])
 (.cond (.t 21)
 (.ops [⟨some 22, (.load true 2 (.t 6)), none⟩,
 ⟨some 23, (.load true 2 (.t 7)), none⟩,
 ⟨some 24, (.mv (.t 0)), none⟩,
 ⟨none, (.store 2 (.t 1) (.t 22)), none⟩,
 ⟨some 25, (.fad 3 (.t 3)), none⟩,
 ⟨none, (.store 2 (.t 25) (.t 23)), none⟩,
 ⟨some 26, (.fad 0 (.t 3)), none⟩,
 ⟨none, (.store 1 (.t 26) (.t 24)), none⟩]
 [(0, 1), (0, 2), (1, 2), (1, 3), (2, 3), (2, 4), (2, 5)] [0, 1, 3, 6, 7, 21, 22, 23, 24, 25, 26])
 .skip))
 (.seq
 (.ops [⟨some 27, (.mv (.t 8)), none⟩,
 ⟨some 5, (.mv (.t 27)), none⟩]
 [] [0, 1, 3, 6, 7, 8, 21, 27])
 .ret))))⟩
def loc25 : List Nat := [6, 7]
def fg25 : List (Nat × List Nat) := [(4, [0, 1, 3, 6, 7, 8, 21, 27]), (3, [0, 1, 3, 6, 7, 21, 22, 23, 24, 25, 26]), (2, [20]), (1, [2, 9, 10, 11, 12, 13, 14, 15, 16, 17, 18, 19]), (0, [5])]
theorem comp25 : compFn Try.prog loc25 (fun i => (fg25.lookup i).getD []) Try.f25 = some lit25 := by kernel_rfl

-- parcener/ask.Mark
def lit26 : AFn := ⟨4, [.cell 8 true 2, .cell 9 true 2, .tmp 10],
 (.seq
 (.ops [⟨some 4, (.boxL (.t 0)), none⟩,
 ⟨some 6, (.boxL (.t 2)), none⟩,
 ⟨some 7, (.boxL (.t 3)), none⟩,
 ⟨some 8, (.allocL (.agg [.nils, .nils])), none⟩,
 ⟨some 9, (.allocL (.agg [(.int .i64 (0)), (.int .i64 (0))])), none⟩,
 ⟨some 10, (.mv (.c (.int .i64 (0)))), none⟩]
 [] [0, 2, 3, 10])
 (.seq
 (.ops [⟨some 12, (.load true 2 (.t 4)), none⟩,
 ⟨some 13, (.build [.nils, .nils] [(0, 2, (.t 12))]), none⟩,
 ⟨some 11, (.allocL (.agg [.nils, .nils])), none⟩,
 ⟨none, (.store 2 (.t 11) (.t 13)), none⟩]
 [] [4, 12, 13])
 (.seq
 (.ops [⟨some 14, (.load true 2 (.t 11)), none⟩,
 ⟨some 15, (.mv (.t 1)), none⟩,
 ⟨some 16, (.load true 2 (.t 6)), none⟩,
 ⟨some 17, (.load true 2 (.t 7)), none⟩,
 ⟨some 18, (.build [(.int .i64 (0)), (.int .u8 (0)), (.int .i64 (0)), (.int .i64 (0)), (.int .i64 (0)), (.int .i64 (0)), (.int .i64 (0)), (.int .i64 (0))] [(0, 1, (.t 15)), (1, 1, (.c (.int .u8 (2)))), (2, 2, (.t 16)), (4, 2, (.t 17))]), none⟩,
 ⟨some 19, (.load true 2 (.t 11)), none⟩,
 ⟨some 20, (.mkFn (.func 41) [(.t 19)] []), none⟩,
 ⟨some 21, (.call (.f 40) [(.t 14), (.t 18), (.t 20)]), none⟩,
 ⟨some 22, (.ext (.t 21) 0), none⟩,
 ⟨some 23, (.ext (.t 21) 1), none⟩,
 ⟨some 24, (.ext (.t 21) 2), none⟩,
 ⟨none, (.store 2 (.t 8) (.t 22)), none⟩,
 ⟨none, (.store 2 (.t 9) (.t 23)), none⟩,
 ⟨some 10, (.mv (.t 24)), none⟩]
 [] [1, 6, 7, 11, 14, 15, 16, 17, 18, 19, 20, 21, 22, 23, 24])
 .ret)))⟩
def loc26 : List Nat := [4, 6, 7, 8, 9, 11]
def fg26 : List (Nat × List Nat) := [(2, [1, 6, 7, 11, 14, 15, 16, 17, 18, 19, 20, 21, 22, 23, 24]), (1, [4, 12, 13]), (0, [0, 2, 3, 10])]
theorem comp26 : compFn Try.prog loc26 (fun i => (fg26.lookup i).getD []) Try.f26 = some lit26 := by kernel_rfl

-- parcener/trim.share
def lit27 : AFn := ⟨2, [.cell 4 true 2],
 (.seq
 (.ops [⟨some 2, (.boxL (.t 0)), none⟩,
 ⟨some 4, (.allocL (.agg [(.int .i64 (0)), (.int .i64 (0))])), none⟩]
 [] [0])
 (.seq
 (.ops [⟨some 10, (.load true 2 (.t 2)), none⟩,
 ⟨some 11, (.mv (.t 1)), none⟩,
 ⟨some 12, (.call (.f 42) [(.t 10), (.t 11)]), none⟩,
 ⟨some 9, (.mv (.t 12)), none⟩,
 ⟨some 13, (.ext (.t 9) 0), none⟩,
 ⟨some 14, (.ext (.t 9) 1), none⟩,
 ⟨some 5, (.mv (.t 13)), none⟩,
 ⟨some 6, (.mv (.t 14)), none⟩]
 [] [1, 6, 9, 10, 11, 12, 13, 14])
 (.seq
 (.ops [⟨some 16, (.mv (.t 5)), none⟩,
 ⟨some 17, (.fad 0 (.t 2)), none⟩,
 ⟨some 18, (.load false 1 (.t 17)), none⟩,
 ⟨some 19, (.len (.t 18)), none⟩,
 ⟨some 20, (.call (.f 43) [(.t 16), (.t 19)]), none⟩,
 ⟨some 15, (.mv (.t 20)), none⟩,
 ⟨some 21, (.ext (.t 15) 0), none⟩,
 ⟨some 22, (.ext (.t 15) 1), none⟩,
 ⟨some 7, (.allocL (.agg [(.int .i64 (0)), (.int .i64 (0))])), none⟩,
 ⟨none, (.store 2 (.t 7) (.t 21)), none⟩,
 ⟨some 8, (.mv (.t 22)), none⟩]
 [] [2, 5, 8, 15, 16, 17, 18, 19, 20, 21, 22])
 (.seq
 (.ops [⟨some 23, (.load true 2 (.t 7)), none⟩,
 ⟨none, (.store 2 (.t 4) (.t 23)), none⟩]
 [] [7, 23])
 .ret))))⟩
def loc27 : List Nat := [2, 4, 7]
def fg27 : List (Nat × List Nat) := [(3, [7, 23]), (2, [2, 5, 8, 15, 16, 17, 18, 19, 20, 21, 22]), (1, [1, 6, 9, 10, 11, 12, 13, 14]), (0, [0])]
theorem comp27 : compFn Try.prog loc27 (fun i => (fg27.lookup i).getD []) Try.f27 = some lit27 := by kernel_rfl

-- parcener/ask.Value
def lit28 : AFn := ⟨4, [.cell 8 true 2, .cell 9 true 2, .tmp 10],
 (.seq
 (.ops [⟨some 4, (.boxL (.t 0)), none⟩,
 ⟨some 6, (.boxL (.t 2)), none⟩,
 ⟨some 7, (.boxL (.t 3)), none⟩,
 ⟨some 8, (.allocL (.agg [.nils, .nils])), none⟩,
 ⟨some 9, (.allocL (.agg [(.int .i64 (0)), (.int .i64 (0))])), none⟩,
 ⟨some 10, (.mv (.c (.int .i64 (0)))), none⟩]
 [] [0, 2, 3, 10])
 (.seq
 (.ops [⟨some 12, (.load true 2 (.t 4)), none⟩,
 ⟨some 13, (.build [.nils, .nils] [(0, 2, (.t 12))]), none⟩,
 ⟨some 11, (.allocL (.agg [.nils, .nils])), none⟩,
 ⟨none, (.store 2 (.t 11) (.t 13)), none⟩]
 [] [4, 12, 13])
 (.seq
 (.ops [⟨some 14, (.load true 2 (.t 11)), none⟩,
 ⟨some 15, (.mv (.t 1)), none⟩,
 ⟨some 16, (.load true 2 (.t 6)), none⟩,
 ⟨some 17, (.load true 2 (.t 7)), none⟩,
 ⟨some 18, (.build [(.int .i64 (0)), (.int .u8 (0)), (.int .i64 (0)), (.int .i64 (0)), (.int .i64 (0)), (.int .i64 (0)), (.int .i64 (0)), (.int .i64 (0))] [(0, 1, (.t 15)), (1, 1, (.c (.int .u8 (1)))), (2, 2, (.t 16)), (4, 2, (.t 17))]), none⟩,
 ⟨some 19, (.load true 2 (.t 11)), none⟩,
 ⟨some 20, (.mkFn (.func 44) [(.t 19)] []), none⟩,
 ⟨some 21, (.call (.f 40) [(.t 14), (.t 18), (.t 20)]), none⟩,
 ⟨some 22, (.ext (.t 21) 0), none⟩,
 ⟨some 23, (.ext (.t 21) 1), none⟩,
 ⟨some 24, (.ext (.t 21) 2), none⟩,
 ⟨none, (.store 2 (.t 8) (.t 22)), none⟩,
 ⟨none, (.store 2 (.t 9) (.t 23)), none⟩,
 ⟨some 10, (.mv (.t 24)), none⟩]
 [] [1, 6, 7, 11, 14, 15, 16, 17, 18, 19, 20, 21, 22, 23, 24])
 .ret)))⟩
def loc28 : List Nat := [4, 6, 7, 8, 9, 11]
def fg28 : List (Nat × List Nat) := [(2, [1, 6, 7, 11, 14, 15, 16, 17, 18, 19, 20, 21, 22, 23, 24]), (1, [4, 12, 13]), (0, [0, 2, 3, 10])]
theorem comp28 : compFn Try.prog loc28 (fun i => (fg28.lookup i).getD []) Try.f28 = some lit28 := by kernel_rfl

-- parcener/trim.rounds$1
def lit29 : AFn := ⟨3, [],
 (.seq
 (.ops [⟨some 10, (.fad 0 (.t 1)), none⟩,
 ⟨some 11, (.load false 1 (.t 10)), none⟩,
 ⟨some 12, (.len (.t 11)), none⟩,
 ⟨some 13, (.mkSl true 1 8 (.int .i64 (0)) (.t 12) (.t 12)), none⟩,
 ⟨some 4, (.mv (.t 13)), none⟩]
 [] [10, 11, 12, 13])
 (.seq
 (.seq
 (.ops [⟨some 14, (.mv (.t 4)), none⟩,
 ⟨some 15, (.len (.t 14)), none⟩,
 ⟨some 16, (.mv (.c (.int .i64 (0)))), none⟩]
 [] [14])
 (.block 0
 (.loop
 (.seq
 (.ops [⟨some 17, (.bin .lss (.t 16) (.t 15)), none⟩]
 [] [])
 (.seq
 (.cond (.t 17)
 .skip
 (.exit 0))
 (.seq
 (.block 1
 (.seq
 (.ops [⟨some 18, (.mv (.t 16)), none⟩,
 ⟨some 5, (.mv (.t 18)), none⟩]
 [] [17, 18])
 (.ops [⟨some 19, (.mv (.t 4)), none⟩,
 ⟨some 20, (.mv (.t 5)), none⟩,
 ⟨some 21, (.mv (.t 5)), none⟩,
 ⟨some 22, (.iad 1 (.t 19) (.t 20)), none⟩,
 ⟨none, (.store 1 (.t 22) (.t 21)), none⟩]
 [] [5, 19, 20, 21, 22])))
 (.ops [⟨some 23, (.bin .add (.t 16) (.c (.int .i64 (1)))), none⟩,
 ⟨some 16, (.mv (.t 23)), none⟩]
 [] [23])))))))
 (.seq
 (.ops [⟨some 24, (.call (.f 13) [(.c (.int .i64 (0)))]), none⟩,
 ⟨some 6, (.allocL (.agg [(.int .i64 (0)), (.int .i64 (0))])), none⟩,
 ⟨none, (.store 2 (.t 6) (.t 24)), none⟩]
 [] [15, 16, 17, 24])
 (.block 2
 (.loop
 (.seq
 (.seq
 (.ops [⟨some 25, (.mv (.t 4)), none⟩,
 ⟨some 26, (.len (.t 25)), none⟩,
 ⟨some 27, (.bin .gtr (.t 26) (.c (.int .i64 (0)))), none⟩]
 [] [25, 26])
 (.cond (.t 27)
 .skip
 (.exit 2)))
 (.seq
 (.block 3
 (.seq
 (.ops [⟨some 29, (.load true 2 (.t 1)), none⟩,
 ⟨some 30, (.mv (.t 4)), none⟩,
 ⟨some 31, (.load true 2 (.t 6)), none⟩,
 ⟨some 32, (.call (.f 16) [(.t 29), (.t 30), (.t 31)]), none⟩,
 ⟨some 28, (.mv (.t 32)), none⟩,
 ⟨some 33, (.ext (.t 28) 0), none⟩,
 ⟨some 34, (.ext (.t 28) 1), none⟩,
 ⟨some 35, (.ext (.t 28) 2), none⟩,
 ⟨some 7, (.allocL (.agg [.nils, .nils])), none⟩,
 ⟨some 8, (.allocH true 6 (.agg [(.int .i64 (0)), (.int .i64 (0)), (.int .i64 (0)), (.int .i64 (0)), (.int .i64 (0)), (.int .i64 (0))])), none⟩,
 ⟨none, (.store 2 (.t 7) (.t 33)), none⟩,
 ⟨none, (.store 6 (.t 8) (.t 34)), none⟩,
 ⟨some 9, (.mv (.t 35)), none⟩]
 [] [27, 28, 29, 30, 31, 32, 33, 34, 35])
 (.seq
 (.seq
 (.ops [⟨some 36, (.mv (.t 9)), none⟩,
 ⟨some 37, (.bin .neq (.t 36) (.c (.int .i64 (0)))), none⟩]
 [] [36])
 (.cond (.t 37)
 (.seq
 (.ops [⟨some 38, (.load false 1 (.t 2)), none⟩,
 ⟨some 39, (.mv (.t 9)), none⟩,
 ⟨some 40, (.call (.t 38) [(.t 39)]), none⟩]
 [] [0, 1, 2, 4, 6, 7, 8, 9, 37, 38, 39, 40])
 .ret)
 .skip))
 (.seq
 (.yret
 (.seq
 (.ops [⟨some 41, (.mv (.t 0)), none⟩,
 ⟨some 42, (.load true 2 (.t 7)), none⟩,
 ⟨some 43, (.load true 6 (.t 8)), none⟩,
 ⟨some 44, (.call (.t 41) [(.t 42), (.t 43)]), none⟩,
 ⟨some 45, (.un .not (.t 44)), none⟩]
 [] [9, 37, 41, 42, 43, 44])
 (.cond (.t 45)
 .ret
 .skip))
 [⟨some 41, (.mv (.t 0)), none⟩,
 ⟨some 42, (.load true 2 (.t 7)), none⟩,
 ⟨some 43, (.load true 6 (.t 8)), none⟩]
 44 (.t 41) [(.t 42), (.t 43)] 45 [9, 37, 41, 42, 43, 44])
 (.seq
 (.ops [⟨some 46, (.load true 2 (.t 7)), none⟩,
 ⟨some 47, (.fad 3 (.t 8)), none⟩,
 ⟨some 48, (.load true 2 (.t 47)), none⟩,
 ⟨none, (.store 2 (.t 1) (.t 46)), none⟩,
 ⟨none, (.store 2 (.t 6) (.t 48)), none⟩]
 [(0, 1), (0, 2), (1, 3), (2, 3)] [7, 45, 46, 47, 48])
 (.ops [⟨some 49, (.mv (.t 4)), none⟩,
 ⟨some 50, (.mkFn (.func 31) [] [(.t 8)]), none⟩,
 ⟨some 51, (.call (.f 30) [(.t 49), (.t 50)]), none⟩,
 ⟨some 4, (.mv (.t 51)), none⟩]
 [] [8, 49, 50, 51]))))))
 (.seq
 (.ops [⟨some 52, (.load true 2 (.t 6)), none⟩]
 [] [6])
 (.ops [⟨some 6, (.allocL (.agg [(.int .i64 (0)), (.int .i64 (0))])), none⟩,
 ⟨none, (.store 2 (.t 6) (.t 52)), none⟩]
 [] [52])))))))))⟩
def loc29 : List Nat := [6, 7, 6]
def fg29 : List (Nat × List Nat) := [(15, [52]), (14, [6]), (13, [8, 49, 50, 51]), (12, [7, 45, 46, 47, 48]), (11, [9, 37, 41, 42, 43, 44]), (10, [0, 1, 2, 4, 6, 7, 8, 9, 37, 38, 39, 40]), (9, [36]), (8, [27, 28, 29, 30, 31, 32, 33, 34, 35]), (7, [25, 26]), (6, [15, 16, 17, 24]), (5, [23]), (4, [5, 19, 20, 21, 22]), (3, [17, 18]), (1, [14]), (0, [10, 11, 12, 13])]
theorem comp29 : compFn Try.prog loc29 (fun i => (fg29.lookup i).getD []) Try.f29 = some lit29 := by kernel_rfl

-- slices.DeleteFunc[[]int,int]
def lit30 : AFn := ⟨2, [.tmp 4],
 (.seq
 (.ops [⟨some 4, (.mv (.c .nils)), none⟩]
 [] [4])
 (.seq
 (.ops [⟨some 8, (.mv (.t 0)), none⟩,
 ⟨some 9, (.mv (.t 1)), none⟩,
 ⟨some 10, (.call (.f 45) [(.t 8), (.t 9)]), none⟩,
 ⟨some 5, (.mv (.t 10)), none⟩]
 [] [8, 9, 10])
 (.seq
 (.seq
 (.ops [⟨some 11, (.mv (.t 5)), none⟩,
 ⟨some 12, (.bin .eql (.t 11) (.c (.int .i64 (-1)))), none⟩]
 [] [11])
 (.cond (.t 12)
 (.seq
 (.ops [⟨some 13, (.mv (.t 0)), none⟩,
 ⟨some 4, (.mv (.t 13)), none⟩]
 [] [0, 1, 5, 12, 13])
 .ret)
 .skip))
 (.seq
 (.seq
 (.ops [⟨some 14, (.mv (.t 5)), none⟩,
 ⟨some 15, (.bin .add (.t 14) (.c (.int .i64 (1)))), none⟩,
 ⟨some 6, (.mv (.t 15)), none⟩]
 [] [12, 14, 15])
 (.block 0
 (.loop
 (.seq
 (.seq
 (.ops [⟨some 16, (.mv (.t 6)), none⟩,
 ⟨some 17, (.mv (.t 0)), none⟩,
 ⟨some 18, (.len (.t 17)), none⟩,
 ⟨some 19, (.bin .lss (.t 16) (.t 18)), none⟩]
 [] [16, 17, 18])
 (.cond (.t 19)
 .skip
 (.exit 0)))
 (.seq
 (.block 1
 (.seq
 (.ops [⟨some 22, (.mv (.t 0)), none⟩,
 ⟨some 23, (.mv (.t 6)), none⟩,
 ⟨some 24, (.iad 1 (.t 22) (.t 23)), none⟩,
 ⟨some 25, (.load false 1 (.t 24)), none⟩,
 ⟨some 7, (.mv (.t 25)), none⟩]
 [] [19, 22, 23, 24, 25])
 (.seq
 (.ops [⟨some 26, (.mv (.t 1)), none⟩,
 ⟨some 27, (.mv (.t 7)), none⟩,
 ⟨some 28, (.call (.t 26) [(.t 27)]), none⟩,
 ⟨some 29, (.un .not (.t 28)), none⟩]
 [] [26, 27, 28])
 (.cond (.t 29)
 (.seq
 (.ops [⟨some 30, (.mv (.t 0)), none⟩,
 ⟨some 31, (.mv (.t 5)), none⟩,
 ⟨some 32, (.mv (.t 7)), none⟩,
 ⟨some 33, (.iad 1 (.t 30) (.t 31)), none⟩,
 ⟨none, (.store 1 (.t 33) (.t 32)), none⟩]
 [] [7, 29, 30, 31, 32, 33])
 (.ops [⟨some 34, (.mv (.t 5)), none⟩,
 ⟨some 35, (.bin .add (.t 34) (.c (.int .i64 (1)))), none⟩,
 ⟨some 5, (.mv (.t 35)), none⟩]
 [] [34, 35]))
 .skip))))
 (.ops [⟨some 20, (.mv (.t 6)), none⟩,
 ⟨some 21, (.bin .add (.t 20) (.c (.int .i64 (1)))), none⟩,
 ⟨some 6, (.mv (.t 21)), none⟩]
 [] [7, 20, 21, 29]))))))
 (.seq
 (.ops [⟨some 36, (.mv (.t 0)), none⟩,
 ⟨some 37, (.mv (.t 5)), none⟩,
 ⟨some 38, (.slc 1 (.t 36) (some (.t 37)) none none), none⟩,
 ⟨none, (.clr true 1 (.int .i64 (0)) (.t 38)), none⟩]
 [] [1, 6, 19, 36, 37, 38])
 (.seq
 (.ops [⟨some 39, (.mv (.t 0)), none⟩,
 ⟨some 40, (.mv (.t 5)), none⟩,
 ⟨some 41, (.slc 1 (.t 39) none (some (.t 40)) none), none⟩,
 ⟨some 4, (.mv (.t 41)), none⟩]
 [] [0, 5, 39, 40, 41])
 .ret))))))⟩
def loc30 : List Nat := []
def fg30 : List (Nat × List Nat) := [(12, [0, 5, 39, 40, 41]), (11, [1, 6, 19, 36, 37, 38]), (6, [7, 20, 21, 29]), (10, [34, 35]), (9, [7, 29, 30, 31, 32, 33]), (8, [26, 27, 28]), (7, [19, 22, 23, 24, 25]), (5, [16, 17, 18]), (4, [12, 14, 15]), (3, [0, 1, 5, 12, 13]), (2, [11]), (1, [8, 9, 10]), (0, [4])]
theorem comp30 : compFn Try.prog loc30 (fun i => (fg30.lookup i).getD []) Try.f30 = some lit30 := by kernel_rfl

-- parcener/trim.rounds$1$1
def lit31 : AFn := ⟨2, [.tmp 3],
 (.seq
 (.ops [⟨some 3, (.mv (.c (.bool false))), none⟩]
 [] [3])
 (.seq
 (.ops [⟨some 4, (.mv (.t 0)), none⟩,
 ⟨some 5, (.fad 0 (.t 1)), none⟩,
 ⟨some 6, (.load false 1 (.t 5)), none⟩,
 ⟨some 7, (.bin .eql (.t 4) (.t 6)), none⟩,
 ⟨some 3, (.mv (.t 7)), none⟩]
 [] [0, 1, 4, 5, 6, 7])
 .ret))⟩
def loc31 : List Nat := []
def fg31 : List (Nat × List Nat) := [(1, [0, 1, 4, 5, 6, 7]), (0, [3])]
theorem comp31 : compFn Try.prog loc31 (fun i => (fg31.lookup i).getD []) Try.f31 = some lit31 := by kernel_rfl

-- slices.Min[[]int,int]
def lit32 : AFn := ⟨1, [.tmp 2],
 (.seq
 (.ops [⟨some 2, (.mv (.c (.int .i64 (0)))), none⟩]
 [] [2])
 (.seq
 (.seq
 (.ops [⟨some 5, (.mv (.t 0)), none⟩,
 ⟨some 6, (.len (.t 5)), none⟩,
 ⟨some 7, (.bin .lss (.t 6) (.c (.int .i64 (1)))), none⟩]
 [] [5, 6])
 (.cond (.t 7)
 (.ops [⟨some 8, .bad, none⟩,
 ⟨none, .bad, none⟩]
 [] [7, 8])
 .skip))
 (.seq
 (.ops [⟨some 9, (.mv (.t 0)), none⟩,
 ⟨some 10, (.iad 1 (.t 9) (.c (.int .i64 (0)))), none⟩,
 ⟨some 11, (.load false 1 (.t 10)), none⟩,
 ⟨some 3, (.mv (.t 11)), none⟩]
 [] [7, 9, 10, 11])
 (.seq
 (.seq
 (.ops [⟨some 4, (.mv (.c (.int .i64 (1)))), none⟩]
 [] [])
 (.block 0
 (.loop
 (.seq
 (.seq
 (.ops [⟨some 12, (.mv (.t 4)), none⟩,
 ⟨some 13, (.mv (.t 0)), none⟩,
 ⟨some 14, (.len (.t 13)), none⟩,
 ⟨some 15, (.bin .lss (.t 12) (.t 14)), none⟩]
 [] [12, 13, 14])
 (.cond (.t 15)
 .skip
 (.exit 0)))
 (.seq
 (.block 1
 (.ops [⟨some 18, (.mv (.t 3)), none⟩,
 ⟨some 19, (.mv (.t 0)), none⟩,
 ⟨some 20, (.mv (.t 4)), none⟩,
 ⟨some 21, (.iad 1 (.t 19) (.t 20)), none⟩,
 ⟨some 22, (.load false 1 (.t 21)), none⟩,
 ⟨some 23, (.minmax false [(.t 18), (.t 22)]), none⟩,
 ⟨some 3, (.mv (.t 23)), none⟩]
 [] [15, 18, 19, 20, 21, 22, 23]))
 (.ops [⟨some 16, (.mv (.t 4)), none⟩,
 ⟨some 17, (.bin .add (.t 16) (.c (.int .i64 (1)))), none⟩,
 ⟨some 4, (.mv (.t 17)), none⟩]
 [] [16, 17]))))))
 (.seq
 (.ops [⟨some 24, (.mv (.t 3)), none⟩,
 ⟨some 2, (.mv (.t 24)), none⟩]
 [] [0, 3, 4, 15, 24])
 .ret)))))⟩
def loc32 : List Nat := []
def fg32 : List (Nat × List Nat) := [(8, [0, 3, 4, 15, 24]), (6, [16, 17]), (7, [15, 18, 19, 20, 21, 22, 23]), (5, [12, 13, 14]), (3, [7, 9, 10, 11]), (2, [7, 8]), (1, [5, 6]), (0, [2])]
theorem comp32 : compFn Try.prog loc32 (fun i => (fg32.lookup i).getD []) Try.f32 = some lit32 := by kernel_rfl

-- slices.Max[[]int,int]
def lit33 : AFn := ⟨1, [.tmp 2],
 (.seq
 (.ops [⟨some 2, (.mv (.c (.int .i64 (0)))), none⟩]
 [] [2])
 (.seq
 (.seq
 (.ops [⟨some 5, (.mv (.t 0)), none⟩,
 ⟨some 6, (.len (.t 5)), none⟩,
 ⟨some 7, (.bin .lss (.t 6) (.c (.int .i64 (1)))), none⟩]
 [] [5, 6])
 (.cond (.t 7)
 (.ops [⟨some 8, .bad, none⟩,
 ⟨none, .bad, none⟩]
 [] [7, 8])
 .skip))
 (.seq
 (.ops [⟨some 9, (.mv (.t 0)), none⟩,
 ⟨some 10, (.iad 1 (.t 9) (.c (.int .i64 (0)))), none⟩,
 ⟨some 11, (.load false 1 (.t 10)), none⟩,
 ⟨some 3, (.mv (.t 11)), none⟩]
 [] [7, 9, 10, 11])
 (.seq
 (.seq
 (.ops [⟨some 4, (.mv (.c (.int .i64 (1)))), none⟩]
 [] [])
 (.block 0
 (.loop
 (.seq
 (.seq
 (.ops [⟨some 12, (.mv (.t 4)), none⟩,
 ⟨some 13, (.mv (.t 0)), none⟩,
 ⟨some 14, (.len (.t 13)), none⟩,
 ⟨some 15, (.bin .lss (.t 12) (.t 14)), none⟩]
 [] [12, 13, 14])
 (.cond (.t 15)
 .skip
 (.exit 0)))
 (.seq
 (.block 1
 (.ops [⟨some 18, (.mv (.t 3)), none⟩,
 ⟨some 19, (.mv (.t 0)), none⟩,
 ⟨some 20, (.mv (.t 4)), none⟩,
 ⟨some 21, (.iad 1 (.t 19) (.t 20)), none⟩,
 ⟨some 22, (.load false 1 (.t 21)), none⟩,
 ⟨some 23, (.minmax true [(.t 18), (.t 22)]), none⟩,
 ⟨some 3, (.mv (.t 23)), none⟩]
 [] [15, 18, 19, 20, 21, 22, 23]))
 (.ops [⟨some 16, (.mv (.t 4)), none⟩,
 ⟨some 17, (.bin .add (.t 16) (.c (.int .i64 (1)))), none⟩,
 ⟨some 4, (.mv (.t 17)), none⟩]
 [] [16, 17]))))))
 (.seq
 (.ops [⟨some 24, (.mv (.t 3)), none⟩,
 ⟨some 2, (.mv (.t 24)), none⟩]
 [] [0, 3, 4, 15, 24])
 .ret)))))⟩
def loc33 : List Nat := []
def fg33 : List (Nat × List Nat) := [(8, [0, 3, 4, 15, 24]), (6, [16, 17]), (7, [15, 18, 19, 20, 21, 22, 23]), (5, [12, 13, 14]), (3, [7, 9, 10, 11]), (2, [7, 8]), (1, [5, 6]), (0, [2])]
theorem comp33 : compFn Try.prog loc33 (fun i => (fg33.lookup i).getD []) Try.f33 = some lit33 := by kernel_rfl

-- parcener/ratio.check
def lit34 : AFn := ⟨2, [.tmp 4],
 (.seq
 (.ops [⟨some 2, (.boxL (.t 0)), none⟩,
 ⟨some 3, (.boxL (.t 1)), none⟩,
 ⟨some 4, (.mv (.c (.int .i64 (0)))), none⟩]
 [] [0, 1, 4])
 (.seq
 (.ops [⟨some 5, (.load true 2 (.t 2)), none⟩,
 ⟨some 6, (.call (.f 11) [(.t 5)]), none⟩,
 ⟨some 7, (.load true 2 (.t 3)), none⟩,
 ⟨some 8, (.call (.f 11) [(.t 7)]), none⟩,
 ⟨some 9, (.buildD 1 (.int .i64 (0)) 2 [(0, (.t 6)), (1, (.t 8))]), none⟩,
 ⟨some 10, (.call (.f 46) [(.t 9)]), none⟩,
 ⟨some 4, (.mv (.t 10)), none⟩]
 [(0, 2), (1, 2)] [2, 3, 5, 6, 7, 8, 9, 10])
 .ret))⟩
def loc34 : List Nat := [9, 2, 3]
def fg34 : List (Nat × List Nat) := [(1, [2, 3, 5, 6, 7, 8, 9, 10]), (0, [0, 1, 4])]
theorem comp34 : compFn Try.prog loc34 (fun i => (fg34.lookup i).getD []) Try.f34 = some lit34 := by kernel_rfl

-- math/bits.Mul64
def lit36 : AFn := ⟨2, [.tmp 4, .tmp 5],
 (.seq
 (.ops [⟨some 4, (.mv (.c (.int .u64 (0)))), none⟩,
 ⟨some 5, (.mv (.c (.int .u64 (0)))), none⟩]
 [] [4, 5])
 (.seq
 (.ops [⟨some 14, (.mv (.t 0)), none⟩,
 ⟨some 15, (.bin .and (.t 14) (.c (.int .u64 (4294967295)))), none⟩,
 ⟨some 6, (.mv (.t 15)), none⟩]
 [] [14, 15])
 (.seq
 (.ops [⟨some 16, (.mv (.t 0)), none⟩,
 ⟨some 17, (.bin .shr (.t 16) (.c (.int .u64 (32)))), none⟩,
 ⟨some 7, (.mv (.t 17)), none⟩]
 [] [16, 17])
 (.seq
 (.ops [⟨some 18, (.mv (.t 1)), none⟩,
 ⟨some 19, (.bin .and (.t 18) (.c (.int .u64 (4294967295)))), none⟩,
 ⟨some 8, (.mv (.t 19)), none⟩]
 [] [18, 19])
 (.seq
 (.ops [⟨some 20, (.mv (.t 1)), none⟩,
 ⟨some 21, (.bin .shr (.t 20) (.c (.int .u64 (32)))), none⟩,
 ⟨some 9, (.mv (.t 21)), none⟩]
 [] [20, 21])
 (.seq
 (.ops [⟨some 22, (.mv (.t 6)), none⟩,
 ⟨some 23, (.mv (.t 8)), none⟩,
 ⟨some 24, (.bin .mul (.t 22) (.t 23)), none⟩,
 ⟨some 10, (.mv (.t 24)), none⟩]
 [] [22, 23, 24])
 (.seq
 (.ops [⟨some 25, (.mv (.t 7)), none⟩,
 ⟨some 26, (.mv (.t 8)), none⟩,
 ⟨some 27, (.bin .mul (.t 25) (.t 26)), none⟩,
 ⟨some 28, (.mv (.t 10)), none⟩,
 ⟨some 29, (.bin .shr (.t 28) (.c (.int .u64 (32)))), none⟩,
 ⟨some 30, (.bin .add (.t 27) (.t 29)), none⟩,
 ⟨some 11, (.mv (.t 30)), none⟩]
 [] [8, 10, 25, 26, 27, 28, 29, 30])
 (.seq
 (.ops [⟨some 31, (.mv (.t 11)), none⟩,
 ⟨some 32, (.bin .and (.t 31) (.c (.int .u64 (4294967295)))), none⟩,
 ⟨some 12, (.mv (.t 32)), none⟩]
 [] [31, 32])
 (.seq
 (.ops [⟨some 33, (.mv (.t 11)), none⟩,
 ⟨some 34, (.bin .shr (.t 33) (.c (.int .u64 (32)))), none⟩,
 ⟨some 13, (.mv (.t 34)), none⟩]
 [] [11, 33, 34])
 (.seq
 (.ops [⟨some 35, (.mv (.t 12)), none⟩,
 ⟨some 36, (.mv (.t 6)), none⟩,
 ⟨some 37, (.mv (.t 9)), none⟩,
 ⟨some 38, (.bin .mul (.t 36) (.t 37)), none⟩,
 ⟨some 39, (.bin .add (.t 35) (.t 38)), none⟩,
 ⟨some 12, (.mv (.t 39)), none⟩]
 [] [6, 35, 36, 37, 38, 39])
 (.seq
 (.ops [⟨some 40, (.mv (.t 7)), none⟩,
 ⟨some 41, (.mv (.t 9)), none⟩,
 ⟨some 42, (.bin .mul (.t 40) (.t 41)), none⟩,
 ⟨some 43, (.mv (.t 13)), none⟩,
 ⟨some 44, (.bin .add (.t 42) (.t 43)), none⟩,
 ⟨some 45, (.mv (.t 12)), none⟩,
 ⟨some 46, (.bin .shr (.t 45) (.c (.int .u64 (32)))), none⟩,
 ⟨some 47, (.bin .add (.t 44) (.t 46)), none⟩,
 ⟨some 4, (.mv (.t 47)), none⟩]
 [] [7, 9, 12, 13, 40, 41, 42, 43, 44, 45, 46, 47])
 (.seq
 (.ops [⟨some 48, (.mv (.t 0)), none⟩,
 ⟨some 49, (.mv (.t 1)), none⟩,
 ⟨some 50, (.bin .mul (.t 48) (.t 49)), none⟩,
 ⟨some 5, (.mv (.t 50)), none⟩]
 [] [0, 1, 48, 49, 50])
 .ret))))))))))))⟩
def loc36 : List Nat := []
def fg36 : List (Nat × List Nat) := [(11, [0, 1, 48, 49, 50]), (10, [7, 9, 12, 13, 40, 41, 42, 43, 44, 45, 46, 47]), (9, [6, 35, 36, 37, 38, 39]), (8, [11, 33, 34]), (7, [31, 32]), (6, [8, 10, 25, 26, 27, 28, 29, 30]), (5, [22, 23, 24]), (4, [20, 21]), (3, [18, 19]), (2, [16, 17]), (1, [14, 15]), (0, [4, 5])]
theorem comp36 : compFn Try.prog loc36 (fun i => (fg36.lookup i).getD []) Try.f36 = some lit36 := by kernel_rfl

-- cmp.Or[int]
def lit37 : AFn := ⟨1, [.tmp 2],
 (.seq
 (.ops [⟨some 2, (.mv (.c (.int .i64 (0)))), none⟩]
 [] [2])
 (.seq
 (.ops [⟨some 3, (.mv (.c (.int .i64 (0)))), none⟩]
 [] [])
 (.seq
 (.seq
 (.ops [⟨some 6, (.mv (.t 0)), none⟩,
 ⟨some 7, (.len (.t 6)), none⟩,
 ⟨some 8, (.mv (.c (.int .i64 (0)))), none⟩]
 [] [0])
 (.block 0
 (.loop
 (.seq
 (.ops [⟨some 9, (.bin .lss (.t 8) (.t 7)), none⟩]
 [] [])
 (.seq
 (.cond (.t 9)
 .skip
 (.exit 0))
 (.seq
 (.block 1
 (.seq
 (.ops [⟨some 10, (.iad 1 (.t 6) (.t 8)), none⟩,
 ⟨some 11, (.load false 1 (.t 10)), none⟩,
 ⟨some 5, (.mv (.t 11)), none⟩]
 [] [9, 10, 11])
 (.seq
 (.ops [⟨some 12, (.mv (.t 5)), none⟩,
 ⟨some 13, (.mv (.t 3)), none⟩,
 ⟨some 14, (.bin .neq (.t 12) (.t 13)), none⟩]
 [] [12, 13])
 (.cond (.t 14)
 (.seq
 (.ops [⟨some 15, (.mv (.t 5)), none⟩,
 ⟨some 2, (.mv (.t 15)), none⟩]
 [] [3, 5, 6, 7, 8, 14, 15])
 .ret)
 .skip))))
 (.ops [⟨some 16, (.bin .add (.t 8) (.c (.int .i64 (1)))), none⟩,
 ⟨some 8, (.mv (.t 16)), none⟩]
 [] [5, 14, 16])))))))
 (.seq
 (.ops [⟨some 17, (.mv (.t 3)), none⟩,
 ⟨some 2, (.mv (.t 17)), none⟩]
 [] [3, 6, 7, 8, 9, 17])
 .ret))))⟩
def loc37 : List Nat := []
def fg37 : List (Nat × List Nat) := [(8, [3, 6, 7, 8, 9, 17]), (7, [5, 14, 16]), (6, [3, 5, 6, 7, 8, 14, 15]), (5, [12, 13]), (4, [9, 10, 11]), (2, [0]), (0, [2])]
theorem comp37 : compFn Try.prog loc37 (fun i => (fg37.lookup i).getD []) Try.f37 = some lit37 := by kernel_rfl

-- cmp.Compare[uint64]
def lit38 : AFn := ⟨2, [.tmp 4],
 (.seq
 (.ops [⟨some 4, (.mv (.c (.int .i64 (0)))), none⟩]
 [] [4])
 (.seq
 (.ops [⟨some 7, (.mv (.t 0)), none⟩,
 ⟨some 8, (.call (.f 48) [(.t 7)]), none⟩,
 ⟨some 5, (.mv (.t 8)), none⟩]
 [] [7, 8])
 (.seq
 (.ops [⟨some 9, (.mv (.t 1)), none⟩,
 ⟨some 10, (.call (.f 48) [(.t 9)]), none⟩,
 ⟨some 6, (.mv (.t 10)), none⟩]
 [] [9, 10])
 (.seq
 (.seq
 (.ops [⟨some 11, (.mv (.t 5)), none⟩]
 [] [5])
 (.cond (.t 11)
 (.seq
 (.seq
 (.ops [⟨some 12, (.mv (.t 6)), none⟩]
 [] [0, 1, 6, 11])
 (.cond (.t 12)
 (.seq
 (.ops [⟨some 4, (.mv (.c (.int .i64 (0)))), none⟩]
 [] [12])
 .ret)
 .skip))
 (.seq
 (.ops [⟨some 4, (.mv (.c (.int .i64 (-1)))), none⟩]
 [] [12])
 .ret))
 .skip))
 (.seq
 (.seq
 (.ops [⟨some 13, (.mv (.t 6)), none⟩]
 [] [6, 11])
 (.cond (.t 13)
 (.seq
 (.ops [⟨some 4, (.mv (.c (.int .i64 (1)))), none⟩]
 [] [0, 1, 13])
 .ret)
 .skip))
 (.seq
 (.seq
 (.ops [⟨some 14, (.mv (.t 0)), none⟩,
 ⟨some 15, (.mv (.t 1)), none⟩,
 ⟨some 16, (.bin .lss (.t 14) (.t 15)), none⟩]
 [] [13, 14, 15])
 (.cond (.t 16)
 (.seq
 (.ops [⟨some 4, (.mv (.c (.int .i64 (-1)))), none⟩]
 [] [0, 1, 16])
 .ret)
 .skip))
 (.seq
 (.seq
 (.ops [⟨some 17, (.mv (.t 0)), none⟩,
 ⟨some 18, (.mv (.t 1)), none⟩,
 ⟨some 19, (.bin .gtr (.t 17) (.t 18)), none⟩]
 [] [0, 1, 16, 17, 18])
 (.cond (.t 19)
 (.seq
 (.ops [⟨some 4, (.mv (.c (.int .i64 (1)))), none⟩]
 [] [19])
 .ret)
 .skip))
 (.seq
 (.ops [⟨some 4, (.mv (.c (.int .i64 (0)))), none⟩]
 [] [19])
 .ret))))))))⟩
def loc38 : List Nat := []
def fg38 : List (Nat × List Nat) := [(13, [19]), (12, [19]), (11, [0, 1, 16, 17, 18]), (10, [0, 1, 16]), (9, [13, 14, 15]), (8, [0, 1, 13]), (7, [6, 11]), (6, [12]), (5, [12]), (4, [0, 1, 6, 11]), (3, [5]), (2, [9, 10]), (1, [7, 8]), (0, [4])]
theorem comp38 : compFn Try.prog loc38 (fun i => (fg38.lookup i).getD []) Try.f38 = some lit38 := by kernel_rfl

-- slices.Clone[[]int,int]
def lit39 : AFn := ⟨1, [.tmp 2],
 (.seq
 (.ops [⟨some 2, (.mv (.c .nils)), none⟩]
 [] [2])
 (.seq
 (.seq
 (.ops [⟨some 3, (.mv (.t 0)), none⟩,
 ⟨some 4, (.eqN false (.t 3)), none⟩]
 [] [3])
 (.cond (.t 4)
 (.seq
 (.ops [⟨some 2, (.mv (.c .nils)), none⟩]
 [] [0, 4])
 .ret)
 .skip))
 (.seq
 (.ops [⟨some 5, (.buildSl true 1 (.int .i64 (0)) 0 []), none⟩,
 ⟨some 6, (.mv (.t 0)), none⟩,
 ⟨some 7, (.app true 1 8 (.t 5) (.t 6)), none⟩,
 ⟨some 2, (.mv (.t 7)), none⟩]
 [] [0, 4, 5, 6, 7])
 .ret)))⟩
def loc39 : List Nat := []
def fg39 : List (Nat × List Nat) := [(3, [0, 4, 5, 6, 7]), (2, [0, 4]), (1, [3]), (0, [2])]
theorem comp39 : compFn Try.prog loc39 (fun i => (fg39.lookup i).getD []) Try.f39 = some lit39 := by kernel_rfl

-- (parcener/ask.office).ask
def lit40 : AFn := ⟨3, [.cell 6 true 2, .cell 7 true 2, .tmp 8],
 (.seq
 (.ops [⟨some 3, (.boxL (.t 0)), none⟩,
 ⟨some 4, (.boxL (.t 1)), none⟩,
 ⟨some 6, (.allocL (.agg [.nils, .nils])), none⟩,
 ⟨some 7, (.allocL (.agg [(.int .i64 (0)), (.int .i64 (0))])), none⟩,
 ⟨some 8, (.mv (.c (.int .i64 (0)))), none⟩]
 [] [0, 1, 8])
 (.seq
 (.seq
 (.ops [⟨some 13, (.fad 0 (.t 3)), none⟩,
 ⟨some 14, (.load true 2 (.t 13)), none⟩,
 ⟨some 15, (.call (.f 10) [(.t 14)]), none⟩,
 ⟨some 9, (.mv (.t 15)), none⟩]
 [] [13, 14, 15])
 (.seq
 (.ops [⟨some 16, (.mv (.t 9)), none⟩,
 ⟨some 17, (.bin .neq (.t 16) (.c (.int .i64 (0)))), none⟩]
 [] [16])
 (.cond (.t 17)
 (.seq
 (.ops [⟨some 18, (.build [.nils, .nils] []), none⟩,
 ⟨some 19, (.build [(.int .i64 (0)), (.int .i64 (0))] []), none⟩,
 ⟨some 20, (.mv (.t 9)), none⟩,
 ⟨none, (.store 2 (.t 6) (.t 18)), none⟩,
 ⟨none, (.store 2 (.t 7) (.t 19)), none⟩,
 ⟨some 8, (.mv (.t 20)), none⟩]
 [] [2, 3, 4, 9, 17, 18, 19, 20])
 .ret)
 .skip)))
 (.seq
 (.seq
 (.ops [⟨some 21, (.load true 2 (.t 3)), none⟩,
 ⟨some 22, (.fad 0 (.t 4)), none⟩,
 ⟨some 23, (.load false 1 (.t 22)), none⟩,
 ⟨some 24, (.call (.f 49) [(.t 21), (.t 23)]), none⟩,
 ⟨some 25, (.un .not (.t 24)), none⟩]
 [] [9, 17, 21, 22, 23, 24])
 (.cond (.t 25)
 (.seq
 (.ops [⟨some 26, (.build [.nils, .nils] []), none⟩,
 ⟨some 27, (.build [(.int .i64 (0)), (.int .i64 (0))] []), none⟩,
 ⟨none, (.store 2 (.t 6) (.t 26)), none⟩,
 ⟨none, (.store 2 (.t 7) (.t 27)), none⟩,
 ⟨some 8, (.mv (.c (.int .i64 (2)))), none⟩]
 [] [2, 3, 4, 25, 26, 27])
 .ret)
 .skip))
 (.seq
 (.ops [⟨some 29, (.mv (.t 2)), none⟩,
 ⟨some 30, (.fad 0 (.t 4)), none⟩,
 ⟨some 31, (.load false 1 (.t 30)), none⟩,
 ⟨some 32, (.fad 2 (.t 4)), none⟩,
 ⟨some 33, (.load true 2 (.t 32)), none⟩,
 ⟨some 34, (.fad 4 (.t 4)), none⟩,
 ⟨some 35, (.load true 2 (.t 34)), none⟩,
 ⟨some 36, (.call (.t 29) [(.t 31), (.t 33), (.t 35)]), none⟩,
 ⟨some 28, (.mv (.t 36)), none⟩,
 ⟨some 37, (.ext (.t 28) 0), none⟩,
 ⟨some 38, (.ext (.t 28) 1), none⟩,
 ⟨some 10, (.allocL (.agg [(.int .i64 (0)), (.int .i64 (0))])), none⟩,
 ⟨none, (.store 2 (.t 10) (.t 37)), none⟩,
 ⟨some 11, (.mv (.t 38)), none⟩]
 [] [2, 25, 28, 29, 30, 31, 32, 33, 34, 35, 36, 37, 38])
 (.seq
 (.seq
 (.ops [⟨some 39, (.mv (.t 11)), none⟩,
 ⟨some 40, (.bin .neq (.t 39) (.c (.int .i64 (0)))), none⟩]
 [] [39])
 (.cond (.t 40)
 (.seq
 (.ops [⟨some 41, (.build [.nils, .nils] []), none⟩,
 ⟨some 42, (.build [(.int .i64 (0)), (.int .i64 (0))] []), none⟩,
 ⟨some 43, (.mv (.t 11)), none⟩,
 ⟨none, (.store 2 (.t 6) (.t 41)), none⟩,
 ⟨none, (.store 2 (.t 7) (.t 42)), none⟩,
 ⟨some 8, (.mv (.t 43)), none⟩]
 [] [3, 4, 10, 11, 40, 41, 42, 43])
 .ret)
 .skip))
 (.seq
 (.seq
 (.ops [⟨some 44, (.fad 0 (.t 3)), none⟩,
 ⟨some 45, (.fad 1 (.t 44)), none⟩,
 ⟨some 46, (.load false 1 (.t 45)), none⟩,
 ⟨some 47, (.len (.t 46)), none⟩,
 ⟨some 48, (.bin .geq (.t 47) (.c (.int .i64 (2000)))), none⟩]
 [] [11, 40, 44, 45, 46, 47])
 (.cond (.t 48)
 (.seq
 (.ops [⟨some 49, (.build [.nils, .nils] []), none⟩,
 ⟨some 50, (.build [(.int .i64 (0)), (.int .i64 (0))] []), none⟩,
 ⟨none, (.store 2 (.t 6) (.t 49)), none⟩,
 ⟨none, (.store 2 (.t 7) (.t 50)), none⟩,
 ⟨some 8, (.mv (.c (.int .i64 (4)))), none⟩]
 [] [3, 4, 10, 48, 49, 50])
 .ret)
 .skip))
 (.seq
 (.ops [⟨some 51, (.load true 2 (.t 10)), none⟩,
 ⟨some 52, (.fad 6 (.t 4)), none⟩,
 ⟨none, (.store 2 (.t 52) (.t 51)), none⟩]
 [] [48, 51, 52])
 (.seq
 (.ops [⟨some 53, (.fad 0 (.t 3)), none⟩,
 ⟨some 54, (.fad 1 (.t 53)), none⟩,
 ⟨some 55, (.load false 1 (.t 54)), none⟩,
 ⟨some 56, (.len (.t 55)), none⟩,
 ⟨some 57, (.bin .add (.t 56) (.c (.int .i64 (1)))), none⟩,
 ⟨some 58, (.mkSl true 8 64 (.agg [(.int .i64 (0)), (.int .u8 (0)), (.int .i64 (0)), (.int .i64 (0)), (.int .i64 (0)), (.int .i64 (0)), (.int .i64 (0)), (.int .i64 (0))]) (.c (.int .i64 (0))) (.t 57)), none⟩,
 ⟨some 12, (.mv (.t 58)), none⟩]
 [] [53, 54, 55, 56, 57, 58])
 (.seq
 (.ops [⟨some 59, (.fad 0 (.t 3)), none⟩,
 ⟨some 60, (.fad 0 (.t 59)), none⟩,
 ⟨some 61, (.load false 1 (.t 60)), none⟩,
 ⟨some 62, (.call (.f 24) [(.t 61)]), none⟩,
 ⟨some 63, (.mv (.t 12)), none⟩,
 ⟨some 64, (.fad 0 (.t 3)), none⟩,
 ⟨some 65, (.fad 1 (.t 64)), none⟩,
 ⟨some 66, (.load false 1 (.t 65)), none⟩,
 ⟨some 67, (.app true 8 64 (.t 63) (.t 66)), none⟩,
 ⟨some 68, (.load true 8 (.t 4)), none⟩,
 ⟨some 69, (.buildD 8 (.agg [(.int .i64 (0)), (.int .u8 (0)), (.int .i64 (0)), (.int .i64 (0)), (.int .i64 (0)), (.int .i64 (0)), (.int .i64 (0)), (.int .i64 (0))]) 1 [(0, (.t 68))]), none⟩,
 ⟨some 70, (.app true 8 64 (.t 67) (.t 69)), none⟩,
 ⟨some 71, (.build [.nils, .nils] [(0, 1, (.t 62)), (1, 1, (.t 70))]), none⟩,
 ⟨some 72, (.load true 2 (.t 10)), none⟩,
 ⟨none, (.store 2 (.t 6) (.t 71)), none⟩,
 ⟨none, (.store 2 (.t 7) (.t 72)), none⟩,
 ⟨some 8, (.mv (.c (.int .i64 (0)))), none⟩]
 [(0, 4), (1, 4), (2, 4), (3, 4), (0, 5), (1, 5), (2, 5), (3, 5), (4, 5), (0, 6), (1, 6), (2, 6), (3, 6), (4, 6), (0, 7), (1, 7), (2, 7), (3, 7), (4, 7), (0, 9), (1, 9), (2, 9), (3, 9), (4, 9), (5, 9), (6, 9), (7, 9), (8, 9), (0, 10), (1, 10), (2, 10), (3, 10), (4, 10), (5, 10), (6, 10), (7, 10), (8, 10), (0, 13), (1, 13), (2, 13), (3, 13), (4, 13), (5, 13), (6, 13), (7, 13), (8, 13), (9, 13), (10, 13), (11, 13), (12, 13), (13, 14)] [3, 4, 10, 12, 59, 60, 61, 62, 63, 64, 65, 66, 67, 68, 69, 70, 71, 72])
 .ret)))))))))⟩
def loc40 : List Nat := [69, 3, 4, 6, 7, 10]
def fg40 : List (Nat × List Nat) := [(13, [3, 4, 10, 12, 59, 60, 61, 62, 63, 64, 65, 66, 67, 68, 69, 70, 71, 72]), (12, [53, 54, 55, 56, 57, 58]), (11, [48, 51, 52]), (10, [3, 4, 10, 48, 49, 50]), (9, [11, 40, 44, 45, 46, 47]), (8, [3, 4, 10, 11, 40, 41, 42, 43]), (7, [39]), (6, [2, 25, 28, 29, 30, 31, 32, 33, 34, 35, 36, 37, 38]), (5, [2, 3, 4, 25, 26, 27]), (4, [9, 17, 21, 22, 23, 24]), (3, [2, 3, 4, 9, 17, 18, 19, 20]), (2, [16]), (1, [13, 14, 15]), (0, [0, 1, 8])]
theorem comp40 : compFn Try.prog loc40 (fun i => (fg40.lookup i).getD []) Try.f40 = some lit40 := by kernel_rfl

-- (parcener/ask.office).mark
def lit41 : AFn := ⟨4, [.cell 8 true 2, .tmp 9],
 (.seq
 (.ops [⟨some 4, (.boxL (.t 0)), none⟩,
 ⟨some 6, (.boxL (.t 2)), none⟩,
 ⟨some 7, (.boxL (.t 3)), none⟩,
 ⟨some 8, (.allocL (.agg [(.int .i64 (0)), (.int .i64 (0))])), none⟩,
 ⟨some 9, (.mv (.c (.int .i64 (0)))), none⟩]
 [] [0, 2, 3, 9])
 (.seq
 (.ops [⟨some 10, (.fad 0 (.t 4)), none⟩,
 ⟨some 11, (.fad 0 (.t 10)), none⟩,
 ⟨some 12, (.load false 1 (.t 11)), none⟩,
 ⟨some 13, (.mv (.t 1)), none⟩,
 ⟨some 14, (.iad 3 (.t 12) (.t 13)), none⟩,
 ⟨some 15, (.load true 3 (.t 14)), none⟩,
 ⟨some 16, (.load true 2 (.t 6)), none⟩,
 ⟨some 17, (.load true 2 (.t 7)), none⟩,
 ⟨some 18, (.call (.f 50) [(.t 15), (.t 16), (.t 17)]), none⟩,
 ⟨some 19, (.ext (.t 18) 0), none⟩,
 ⟨some 20, (.ext (.t 18) 1), none⟩,
 ⟨none, (.store 2 (.t 8) (.t 19)), none⟩,
 ⟨some 9, (.mv (.t 20)), none⟩]
 [(0, 3), (1, 3), (2, 3), (0, 6), (1, 6), (2, 6), (3, 6), (4, 6), (5, 6), (0, 7), (1, 7), (2, 7), (3, 7), (4, 7), (5, 7), (6, 7), (9, 10)] [1, 4, 6, 7, 10, 11, 12, 13, 14, 15, 16, 17, 18, 19, 20])
 .ret))⟩
def loc41 : List Nat := [4, 6, 7, 8]
def fg41 : List (Nat × List Nat) := [(1, [1, 4, 6, 7, 10, 11, 12, 13, 14, 15, 16, 17, 18, 19, 20]), (0, [0, 2, 3, 9])]
theorem comp41 : compFn Try.prog loc41 (fun i => (fg41.lookup i).getD []) Try.f41 = some lit41 := by kernel_rfl

-- parcener/ask.Total
def lit42 : AFn := ⟨2, [.tmp 4, .tmp 5],
 (.seq
 (.ops [⟨some 2, (.boxL (.t 0)), none⟩,
 ⟨some 4, (.mv (.c (.int .i64 (0)))), none⟩,
 ⟨some 5, (.mv (.c (.int .i64 (0)))), none⟩]
 [] [0, 4, 5])
 (.seq
 (.seq
 (.ops [⟨some 7, (.load true 2 (.t 2)), none⟩,
 ⟨some 8, (.call (.f 10) [(.t 7)]), none⟩,
 ⟨some 6, (.mv (.t 8)), none⟩]
 [] [7, 8])
 (.seq
 (.ops [⟨some 9, (.mv (.t 6)), none⟩,
 ⟨some 10, (.bin .neq (.t 9) (.c (.int .i64 (0)))), none⟩]
 [] [9])
 (.cond (.t 10)
 (.seq
 (.ops [⟨some 11, (.mv (.t 6)), none⟩,
 ⟨some 4, (.mv (.c (.int .i64 (0)))), none⟩,
 ⟨some 5, (.mv (.t 11)), none⟩]
 [] [1, 2, 6, 10, 11])
 .ret)
 .skip)))
 (.seq
 (.seq
 (.ops [⟨some 12, (.load true 2 (.t 2)), none⟩,
 ⟨some 13, (.build [.nils, .nils] [(0, 2, (.t 12))]), none⟩,
 ⟨some 14, (.mv (.t 1)), none⟩,
 ⟨some 15, (.call (.f 49) [(.t 13), (.t 14)]), none⟩,
 ⟨some 16, (.un .not (.t 15)), none⟩]
 [] [6, 10, 12, 13, 14, 15])
 (.cond (.t 16)
 (.seq
 (.ops [⟨some 4, (.mv (.c (.int .i64 (0)))), none⟩,
 ⟨some 5, (.mv (.c (.int .i64 (2)))), none⟩]
 [] [1, 2, 16])
 .ret)
 .skip))
 (.seq
 (.ops [⟨some 17, (.fad 0 (.t 2)), none⟩,
 ⟨some 18, (.load false 1 (.t 17)), none⟩,
 ⟨some 19, (.mv (.t 1)), none⟩,
 ⟨some 20, (.iad 3 (.t 18) (.t 19)), none⟩,
 ⟨some 21, (.load true 3 (.t 20)), none⟩,
 ⟨some 22, (.call (.f 51) [(.t 21)]), none⟩,
 ⟨some 23, (.ext (.t 22) 0), none⟩,
 ⟨some 24, (.ext (.t 22) 1), none⟩,
 ⟨some 4, (.mv (.t 23)), none⟩,
 ⟨some 5, (.mv (.t 24)), none⟩]
 [] [1, 2, 16, 17, 18, 19, 20, 21, 22, 23, 24])
 .ret))))⟩
def loc42 : List Nat := [2]
def fg42 : List (Nat × List Nat) := [(6, [1, 2, 16, 17, 18, 19, 20, 21, 22, 23, 24]), (5, [1, 2, 16]), (4, [6, 10, 12, 13, 14, 15]), (3, [1, 2, 6, 10, 11]), (2, [9]), (1, [7, 8]), (0, [0, 4, 5])]
theorem comp42 : compFn Try.prog loc42 (fun i => (fg42.lookup i).getD []) Try.f42 = some lit42 := by kernel_rfl

-- parcener/ratio.Make
def lit43 : AFn := ⟨2, [.cell 4 true 2, .tmp 5],
 (.seq
 (.ops [⟨some 4, (.allocL (.agg [(.int .i64 (0)), (.int .i64 (0))])), none⟩,
 ⟨some 5, (.mv (.c (.int .i64 (0)))), none⟩]
 [] [5])
 (.seq
 (.seq
 (.ops [⟨some 9, (.mv (.t 1)), none⟩,
 ⟨some 10, (.bin .eql (.t 9) (.c (.int .i64 (0)))), none⟩]
 [] [9])
 (.cond (.t 10)
 (.seq
 (.ops [⟨some 11, (.build [(.int .i64 (0)), (.int .i64 (0))] []), none⟩,
 ⟨none, (.store 2 (.t 4) (.t 11)), none⟩,
 ⟨some 5, (.mv (.c (.int .i64 (18)))), none⟩]
 [] [0, 1, 10, 11])
 .ret)
 .skip))
 (.seq
 (.ops [⟨some 12, (.mv (.t 0)), none⟩,
 ⟨some 13, (.call (.f 21) [(.t 12)]), none⟩,
 ⟨some 14, (.mv (.t 1)), none⟩,
 ⟨some 15, (.call (.f 21) [(.t 14)]), none⟩,
 ⟨some 6, (.mv (.t 13)), none⟩,
 ⟨some 7, (.mv (.t 15)), none⟩]
 [] [10, 12, 13, 14, 15])
 (.seq
 (.ops [⟨some 16, (.mv (.t 6)), none⟩,
 ⟨some 17, (.mv (.t 7)), none⟩,
 ⟨some 18, (.call (.f 22) [(.t 16), (.t 17)]), none⟩,
 ⟨some 8, (.mv (.t 18)), none⟩]
 [] [16, 17, 18])
 (.seq
 (.ops [⟨some 19, (.mv (.t 0)), none⟩,
 ⟨some 20, (.bin .lss (.t 19) (.c (.int .i64 (0)))), none⟩,
 ⟨some 21, (.mv (.t 1)), none⟩,
 ⟨some 22, (.bin .lss (.t 21) (.c (.int .i64 (0)))), none⟩,
 ⟨some 23, (.eqB true (.t 20) (.t 22)), none⟩,
 ⟨some 24, (.mv (.t 6)), none⟩,
 ⟨some 25, (.mv (.t 8)), none⟩,
 ⟨some 26, (.bin .quo (.t 24) (.t 25)), none⟩,
 ⟨some 27, (.mv (.t 7)), none⟩,
 ⟨some 28, (.mv (.t 8)), none⟩,
 ⟨some 29, (.bin .quo (.t 27) (.t 28)), none⟩,
 ⟨some 30, (.call (.f 52) [(.t 23), (.t 26), (.t 29)]), none⟩,
 ⟨some 31, (.ext (.t 30) 0), none⟩,
 ⟨some 32, (.ext (.t 30) 1), none⟩,
 ⟨none, (.store 2 (.t 4) (.t 31)), none⟩,
 ⟨some 5, (.mv (.t 32)), none⟩]
 [(0, 2), (1, 2), (0, 3), (1, 3), (0, 5), (1, 5), (2, 5), (3, 5), (4, 5), (0, 6), (1, 6), (2, 6), (3, 6), (4, 6), (5, 6), (0, 7), (1, 7), (2, 7), (3, 7), (4, 7), (0, 8), (1, 8), (2, 8), (3, 8), (4, 8), (5, 8), (6, 8), (7, 8), (0, 9), (1, 9), (2, 9), (3, 9), (4, 9), (5, 9), (6, 9), (7, 9), (8, 9), (0, 10), (1, 10), (2, 10), (3, 10), (4, 10), (5, 10), (6, 10), (7, 10), (12, 13)] [0, 1, 6, 7, 8, 19, 20, 21, 22, 23, 24, 25, 26, 27, 28, 29, 30, 31, 32])
 .ret)))))⟩
def loc43 : List Nat := [4]
def fg43 : List (Nat × List Nat) := [(5, [0, 1, 6, 7, 8, 19, 20, 21, 22, 23, 24, 25, 26, 27, 28, 29, 30, 31, 32]), (4, [16, 17, 18]), (3, [10, 12, 13, 14, 15]), (2, [0, 1, 10, 11]), (1, [9]), (0, [5])]
theorem comp43 : compFn Try.prog loc43 (fun i => (fg43.lookup i).getD []) Try.f43 = some lit43 := by kernel_rfl

-- (parcener/ask.office).value
def lit44 : AFn := ⟨4, [.cell 8 true 2, .tmp 9],
 (.seq
 (.ops [⟨some 4, (.boxL (.t 0)), none⟩,
 ⟨some 6, (.boxL (.t 2)), none⟩,
 ⟨some 7, (.boxL (.t 3)), none⟩,
 ⟨some 8, (.allocL (.agg [(.int .i64 (0)), (.int .i64 (0))])), none⟩,
 ⟨some 9, (.mv (.c (.int .i64 (0)))), none⟩]
 [] [0, 2, 3, 9])
 (.seq
 (.ops [⟨some 10, (.fad 0 (.t 4)), none⟩,
 ⟨some 11, (.fad 0 (.t 10)), none⟩,
 ⟨some 12, (.load false 1 (.t 11)), none⟩,
 ⟨some 13, (.mv (.t 1)), none⟩,
 ⟨some 14, (.iad 3 (.t 12) (.t 13)), none⟩,
 ⟨some 15, (.load true 3 (.t 14)), none⟩,
 ⟨some 16, (.load true 2 (.t 6)), none⟩,
 ⟨some 17, (.load true 2 (.t 7)), none⟩,
 ⟨some 18, (.call (.f 53) [(.t 15), (.t 16), (.t 17)]), none⟩,
 ⟨some 19, (.ext (.t 18) 0), none⟩,
 ⟨some 20, (.ext (.t 18) 1), none⟩,
 ⟨none, (.store 2 (.t 8) (.t 19)), none⟩,
 ⟨some 9, (.mv (.t 20)), none⟩]
 [(0, 3), (1, 3), (2, 3), (0, 6), (1, 6), (2, 6), (3, 6), (4, 6), (5, 6), (0, 7), (1, 7), (2, 7), (3, 7), (4, 7), (5, 7), (6, 7), (9, 10)] [1, 4, 6, 7, 10, 11, 12, 13, 14, 15, 16, 17, 18, 19, 20])
 .ret))⟩
def loc44 : List Nat := [4, 6, 7, 8]
def fg44 : List (Nat × List Nat) := [(1, [1, 4, 6, 7, 10, 11, 12, 13, 14, 15, 16, 17, 18, 19, 20]), (0, [0, 2, 3, 9])]
theorem comp44 : compFn Try.prog loc44 (fun i => (fg44.lookup i).getD []) Try.f44 = some lit44 := by kernel_rfl

-- slices.IndexFunc[[]int,int]
def lit45 : AFn := ⟨2, [.tmp 4],
 (.seq
 (.ops [⟨some 4, (.mv (.c (.int .i64 (0)))), none⟩]
 [] [4])
 (.seq
 (.seq
 (.ops [⟨some 6, (.mv (.t 0)), none⟩,
 ⟨some 7, (.len (.t 6)), none⟩,
 ⟨some 8, (.mv (.c (.int .i64 (0)))), none⟩]
 [] [6])
 (.block 0
 (.loop
 (.seq
 (.ops [⟨some 9, (.bin .lss (.t 8) (.t 7)), none⟩]
 [] [])
 (.seq
 (.cond (.t 9)
 .skip
 (.exit 0))
 (.seq
 (.block 1
 (.seq
 (.ops [⟨some 10, (.mv (.t 8)), none⟩,
 ⟨some 5, (.mv (.t 10)), none⟩]
 [] [9, 10])
 (.seq
 (.ops [⟨some 11, (.mv (.t 1)), none⟩,
 ⟨some 12, (.mv (.t 0)), none⟩,
 ⟨some 13, (.mv (.t 5)), none⟩,
 ⟨some 14, (.iad 1 (.t 12) (.t 13)), none⟩,
 ⟨some 15, (.load false 1 (.t 14)), none⟩,
 ⟨some 16, (.call (.t 11) [(.t 15)]), none⟩]
 [] [11, 12, 13, 14, 15])
 (.cond (.t 16)
 (.seq
 (.ops [⟨some 17, (.mv (.t 5)), none⟩,
 ⟨some 4, (.mv (.t 17)), none⟩]
 [] [0, 1, 5, 7, 8, 16, 17])
 .ret)
 .skip))))
 (.ops [⟨some 18, (.bin .add (.t 8) (.c (.int .i64 (1)))), none⟩,
 ⟨some 8, (.mv (.t 18)), none⟩]
 [] [5, 16, 18])))))))
 (.seq
 (.ops [⟨some 4, (.mv (.c (.int .i64 (-1)))), none⟩]
 [] [0, 1, 7, 8, 9])
 .ret)))⟩
def loc45 : List Nat := []
def fg45 : List (Nat × List Nat) := [(7, [0, 1, 7, 8, 9]), (6, [5, 16, 18]), (5, [0, 1, 5, 7, 8, 16, 17]), (4, [11, 12, 13, 14, 15]), (3, [9, 10]), (1, [6]), (0, [4])]
theorem comp45 : compFn Try.prog loc45 (fun i => (fg45.lookup i).getD []) Try.f45 = some lit45 := by kernel_rfl

-- cmp.Or[parcener/api.Errno]
def lit46 : AFn := ⟨1, [.tmp 2],
 (.seq
 (.ops [⟨some 2, (.mv (.c (.int .i64 (0)))), none⟩]
 [] [2])
 (.seq
 (.ops [⟨some 3, (.mv (.c (.int .i64 (0)))), none⟩]
 [] [])
 (.seq
 (.seq
 (.ops [⟨some 6, (.mv (.t 0)), none⟩,
 ⟨some 7, (.len (.t 6)), none⟩,
 ⟨some 8, (.mv (.c (.int .i64 (0)))), none⟩]
 [] [0])
 (.block 0
 (.loop
 (.seq
 (.ops [⟨some 9, (.bin .lss (.t 8) (.t 7)), none⟩]
 [] [])
 (.seq
 (.cond (.t 9)
 .skip
 (.exit 0))
 (.seq
 (.block 1
 (.seq
 (.ops [⟨some 10, (.iad 1 (.t 6) (.t 8)), none⟩,
 ⟨some 11, (.load false 1 (.t 10)), none⟩,
 ⟨some 5, (.mv (.t 11)), none⟩]
 [] [9, 10, 11])
 (.seq
 (.ops [⟨some 12, (.mv (.t 5)), none⟩,
 ⟨some 13, (.mv (.t 3)), none⟩,
 ⟨some 14, (.bin .neq (.t 12) (.t 13)), none⟩]
 [] [12, 13])
 (.cond (.t 14)
 (.seq
 (.ops [⟨some 15, (.mv (.t 5)), none⟩,
 ⟨some 2, (.mv (.t 15)), none⟩]
 [] [3, 5, 6, 7, 8, 14, 15])
 .ret)
 .skip))))
 (.ops [⟨some 16, (.bin .add (.t 8) (.c (.int .i64 (1)))), none⟩,
 ⟨some 8, (.mv (.t 16)), none⟩]
 [] [5, 14, 16])))))))
 (.seq
 (.ops [⟨some 17, (.mv (.t 3)), none⟩,
 ⟨some 2, (.mv (.t 17)), none⟩]
 [] [3, 6, 7, 8, 9, 17])
 .ret))))⟩
def loc46 : List Nat := []
def fg46 : List (Nat × List Nat) := [(8, [3, 6, 7, 8, 9, 17]), (7, [5, 14, 16]), (6, [3, 5, 6, 7, 8, 14, 15]), (5, [12, 13]), (4, [9, 10, 11]), (2, [0]), (0, [2])]
theorem comp46 : compFn Try.prog loc46 (fun i => (fg46.lookup i).getD []) Try.f46 = some lit46 := by kernel_rfl

-- cmp.isNaN[uint64]
def lit48 : AFn := ⟨1, [.tmp 2],
 (.seq
 (.ops [⟨some 2, (.mv (.c (.bool false))), none⟩]
 [] [2])
 (.seq
 (.ops [⟨some 3, (.mv (.t 0)), none⟩,
 ⟨some 4, (.mv (.t 0)), none⟩,
 ⟨some 5, (.bin .neq (.t 3) (.t 4)), none⟩,
 ⟨some 2, (.mv (.t 5)), none⟩]
 [] [0, 3, 4, 5])
 .ret))⟩
def loc48 : List Nat := []
def fg48 : List (Nat × List Nat) := [(1, [0, 3, 4, 5]), (0, [2])]
theorem comp48 : compFn Try.prog loc48 (fun i => (fg48.lookup i).getD []) Try.f48 = some lit48 := by kernel_rfl

-- (parcener/ask.office).has
def lit49 : AFn := ⟨2, [.tmp 4],
 (.seq
 (.ops [⟨some 2, (.boxL (.t 0)), none⟩,
 ⟨some 4, (.mv (.c (.bool false))), none⟩]
 [] [0, 4])
 (.seq
 (.ops [⟨some 5, (.mv (.t 1)), none⟩,
 ⟨some 6, (.bin .geq (.t 5) (.c (.int .i64 (0)))), none⟩,
 ⟨some 7, (.mv (.t 6)), none⟩,
 ⟨some 8, (.mv (.t 1)), some (7, true)⟩,
 ⟨some 9, (.fad 0 (.t 2)), some (7, true)⟩,
 ⟨some 10, (.fad 0 (.t 9)), some (7, true)⟩,
 ⟨some 11, (.load false 1 (.t 10)), some (7, true)⟩,
 ⟨some 12, (.len (.t 11)), some (7, true)⟩,
 ⟨some 13, (.bin .lss (.t 8) (.t 12)), some (7, true)⟩,
 ⟨some 14, (.pick (.t 7) (.t 13) (.c (.bool false))), none⟩,
 ⟨some 4, (.mv (.t 14)), none⟩]
 [] [1, 2, 5, 6, 7, 8, 9, 10, 11, 12, 13, 14])
 .ret))⟩
def loc49 : List Nat := [2]
def fg49 : List (Nat × List Nat) := [(1, [1, 2, 5, 6, 7, 8, 9, 10, 11, 12, 13, 14]), (0, [0, 4])]
theorem comp49 : compFn Try.prog loc49 (fun i => (fg49.lookup i).getD []) Try.f49 = some lit49 := by kernel_rfl

-- parcener/cake.Mark
def lit50 : AFn := ⟨3, [.cell 6 true 2, .tmp 7],
 (.seq
 (.ops [⟨some 3, (.boxL (.t 0)), none⟩,
 ⟨some 4, (.boxL (.t 1)), none⟩,
 ⟨some 5, (.boxH true 2 (.t 2)), none⟩,
 ⟨some 6, (.allocL (.agg [(.int .i64 (0)), (.int .i64 (0))])), none⟩,
 ⟨some 7, (.mv (.c (.int .i64 (0)))), none⟩]
 [] [0, 1, 2, 7])
 (.seq
 (.seq
 (.ops [⟨some 12, (.load true 3 (.t 3)), none⟩,
 ⟨some 13, (.call (.f 20) [(.t 12)]), none⟩,
 ⟨some 8, (.mv (.t 13)), none⟩]
 [] [12, 13])
 (.seq
 (.ops [⟨some 14, (.mv (.t 8)), none⟩,
 ⟨some 15, (.bin .neq (.t 14) (.c (.int .i64 (0)))), none⟩]
 [] [14])
 (.cond (.t 15)
 (.seq
 (.ops [⟨some 16, (.build [(.int .i64 (0)), (.int .i64 (0))] []), none⟩,
 ⟨some 17, (.mv (.t 8)), none⟩,
 ⟨none, (.store 2 (.t 6) (.t 16)), none⟩,
 ⟨some 7, (.mv (.t 17)), none⟩]
 [] [3, 4, 5, 8, 15, 16, 17])
 .ret)
 .skip)))
 (.seq
 (.seq
 (.ops [⟨some 18, (.load true 3 (.t 3)), none⟩,
 ⟨some 19, (.load true 2 (.t 4)), none⟩,
 ⟨some 20, (.call (.f 54) [(.t 18), (.t 19)]), none⟩,
 ⟨some 21, (.un .not (.t 20)), none⟩,
 ⟨some 22, (.mv (.t 21)), none⟩,
 ⟨some 23, (.load true 2 (.t 5)), some (22, false)⟩,
 ⟨some 24, (.call (.f 11) [(.t 23)]), some (22, false)⟩,
 ⟨some 25, (.bin .neq (.t 24) (.c (.int .i64 (0)))), some (22, false)⟩,
 ⟨some 26, (.pick (.t 22) (.c (.bool true)) (.t 25)), none⟩,
 ⟨some 27, (.mv (.t 26)), none⟩,
 ⟨some 28, (.fad 0 (.t 5)), some (27, false)⟩,
 ⟨some 29, (.load false 1 (.t 28)), some (27, false)⟩,
 ⟨some 30, (.bin .lss (.t 29) (.c (.int .i64 (0)))), some (27, false)⟩,
 ⟨some 31, (.pick (.t 27) (.c (.bool true)) (.t 30)), none⟩]
 [] [8, 15, 18, 19, 20, 21, 22, 23, 24, 25, 26, 27, 28, 29, 30])
 (.cond (.t 31)
 (.seq
 (.ops [⟨some 32, (.build [(.int .i64 (0)), (.int .i64 (0))] []), none⟩,
 ⟨none, (.store 2 (.t 6) (.t 32)), none⟩,
 ⟨some 7, (.mv (.c (.int .i64 (2)))), none⟩]
 [] [3, 4, 5, 31, 32])
 .ret)
 .skip))
 (.seq
 (.seq
 (.ops [⟨some 33, (.fad 0 (.t 5)), none⟩,
 ⟨some 34, (.load false 1 (.t 33)), none⟩,
 ⟨some 35, (.bin .eql (.t 34) (.c (.int .i64 (0)))), none⟩]
 [] [31, 33, 34])
 (.cond (.t 35)
 (.seq
 (.ops [⟨some 36, (.load true 2 (.t 4)), none⟩,
 ⟨none, (.store 2 (.t 6) (.t 36)), none⟩,
 ⟨some 7, (.mv (.c (.int .i64 (0)))), none⟩]
 [] [3, 4, 5, 35, 36])
 .ret)
 .skip))
 (.seq
 (.ops [⟨some 9, (.allocH true 2 (.agg [(.int .i64 (0)), (.int .i64 (0))])), none⟩]
 [] [35])
 (.seq
 (.ops [⟨some 10, (.allocH true 1 (.int .i64 (0))), none⟩,
 ⟨none, (.store 1 (.t 10) (.c (.int .i64 (6)))), none⟩]
 [] [])
 (.seq
 (.ops [⟨some 37, (.load true 3 (.t 3)), none⟩,
 ⟨some 38, (.load true 2 (.t 4)), none⟩,
 ⟨some 39, (.mkFn (.func 56) [] [(.t 5), (.t 10), (.t 9)]), none⟩,
 ⟨some 40, (.call (.f 55) [(.t 37), (.t 38), (.t 39)]), none⟩,
 ⟨some 11, (.mv (.t 40)), none⟩]
 [] [3, 4, 5, 37, 38, 39, 40])
 (.seq
 (.seq
 (.ops [⟨some 41, (.mv (.t 11)), none⟩,
 ⟨some 42, (.bin .neq (.t 41) (.c (.int .i64 (0)))), none⟩]
 [] [41])
 (.cond (.t 42)
 (.ops [⟨some 43, (.mv (.t 11)), none⟩,
 ⟨none, (.store 1 (.t 10) (.t 43)), none⟩]
 [] [11, 42, 43])
 .skip))
 (.seq
 (.seq
 (.ops [⟨some 44, (.load false 1 (.t 10)), none⟩,
 ⟨some 45, (.bin .neq (.t 44) (.c (.int .i64 (0)))), none⟩]
 [] [11, 42, 44])
 (.cond (.t 45)
 (.seq
 (.ops [⟨some 46, (.build [(.int .i64 (0)), (.int .i64 (0))] []), none⟩,
 ⟨some 47, (.load false 1 (.t 10)), none⟩,
 ⟨none, (.store 2 (.t 6) (.t 46)), none⟩,
 ⟨some 7, (.mv (.t 47)), none⟩]
 [(0, 1), (1, 2)] [9, 10, 45, 46, 47])
 .ret)
 .skip))
 (.seq
 (.ops [⟨some 48, (.load true 2 (.t 9)), none⟩,
 ⟨none, (.store 2 (.t 6) (.t 48)), none⟩,
 ⟨some 7, (.mv (.c (.int .i64 (0)))), none⟩]
 [] [9, 10, 45, 48])
 .ret))))))))))⟩
def loc50 : List Nat := [3, 4, 6]
def fg50 : List (Nat × List Nat) := [(15, [9, 10, 45, 48]), (14, [9, 10, 45, 46, 47]), (13, [11, 42, 44]), (12, [11, 42, 43]), (11, [41]), (10, [3, 4, 5, 37, 38, 39, 40]), (8, [35]), (7, [3, 4, 5, 35, 36]), (6, [31, 33, 34]), (5, [3, 4, 5, 31, 32]), (4, [8, 15, 18, 19, 20, 21, 22, 23, 24, 25, 26, 27, 28, 29, 30]), (3, [3, 4, 5, 8, 15, 16, 17]), (2, [14]), (1, [12, 13]), (0, [0, 1, 2, 7])]
theorem comp50 : compFn Try.prog loc50 (fun i => (fg50.lookup i).getD []) Try.f50 = some lit50 := by kernel_rfl

-- parcener/cake.Total
def lit51 : AFn := ⟨1, [.tmp 2, .tmp 3],
 (.seq
 (.ops [⟨some 1, (.boxL (.t 0)), none⟩,
 ⟨some 2, (.mv (.c (.int .i64 (0)))), none⟩,
 ⟨some 3, (.mv (.c (.int .i64 (0)))), none⟩]
 [] [0, 2, 3])
 (.seq
 (.seq
 (.ops [⟨some 8, (.load true 3 (.t 1)), none⟩,
 ⟨some 9, (.call (.f 20) [(.t 8)]), none⟩,
 ⟨some 4, (.mv (.t 9)), none⟩]
 [] [8, 9])
 (.seq
 (.ops [⟨some 10, (.mv (.t 4)), none⟩,
 ⟨some 11, (.bin .neq (.t 10) (.c (.int .i64 (0)))), none⟩]
 [] [10])
 (.cond (.t 11)
 (.seq
 (.ops [⟨some 12, (.mv (.t 4)), none⟩,
 ⟨some 2, (.mv (.c (.int .i64 (0)))), none⟩,
 ⟨some 3, (.mv (.t 12)), none⟩]
 [] [1, 4, 11, 12])
 .ret)
 .skip)))
 (.seq
 (.ops [⟨some 5, (.mv (.c (.int .i64 (0)))), none⟩]
 [] [4, 11])
 (.seq
 (.seq
 (.ops [⟨some 13, (.fad 2 (.t 1)), none⟩,
 ⟨some 14, (.load false 1 (.t 13)), none⟩,
 ⟨some 15, (.len (.t 14)), none⟩,
 ⟨some 16, (.mv (.c (.int .i64 (0)))), none⟩]
 [] [13])
 (.block 0
 (.loop
 (.seq
 (.ops [⟨some 17, (.bin .lss (.t 16) (.t 15)), none⟩]
 [] [])
 (.seq
 (.cond (.t 17)
 .skip
 (.exit 0))
 (.seq
 (.block 1
 (.seq
 (.ops [⟨some 18, (.mv (.t 16)), none⟩,
 ⟨some 19, (.iad 1 (.t 14) (.t 16)), none⟩,
 ⟨some 20, (.load false 1 (.t 19)), none⟩,
 ⟨some 6, (.mv (.t 18)), none⟩,
 ⟨some 7, (.mv (.t 20)), none⟩]
 [] [17, 18, 19, 20])
 (.ops [⟨some 21, (.mv (.t 5)), none⟩,
 ⟨some 22, (.mv (.t 7)), none⟩,
 ⟨some 23, (.fad 1 (.t 1)), none⟩,
 ⟨some 24, (.load false 1 (.t 23)), none⟩,
 ⟨some 25, (.mv (.t 6)), none⟩,
 ⟨some 26, (.bin .add (.t 25) (.c (.int .i64 (1)))), none⟩,
 ⟨some 27, (.iad 1 (.t 24) (.t 26)), none⟩,
 ⟨some 28, (.load false 1 (.t 27)), none⟩,
 ⟨some 29, (.fad 1 (.t 1)), none⟩,
 ⟨some 30, (.load false 1 (.t 29)), none⟩,
 ⟨some 31, (.mv (.t 6)), none⟩,
 ⟨some 32, (.iad 1 (.t 30) (.t 31)), none⟩,
 ⟨some 33, (.load false 1 (.t 32)), none⟩,
 ⟨some 34, (.bin .sub (.t 28) (.t 33)), none⟩,
 ⟨some 35, (.bin .mul (.t 22) (.t 34)), none⟩,
 ⟨some 36, (.bin .add (.t 21) (.t 35)), none⟩,
 ⟨some 5, (.mv (.t 36)), none⟩]
 [(0, 1), (0, 2), (1, 2), (0, 3), (1, 3), (0, 4), (1, 4), (2, 4), (3, 4), (0, 5), (1, 5), (2, 5), (3, 5), (0, 6), (1, 6), (0, 7), (1, 7), (0, 8), (1, 8), (2, 8), (3, 8), (4, 8), (5, 8), (6, 8), (7, 8), (0, 9), (1, 9), (2, 9), (3, 9), (4, 9), (5, 9), (6, 9), (7, 9), (0, 10), (1, 10), (2, 10), (3, 10), (4, 10), (5, 10), (6, 10), (7, 10), (8, 10), (9, 10), (0, 11), (1, 11), (2, 11), (3, 11), (4, 11), (5, 11), (6, 11), (7, 11), (0, 12), (1, 12), (2, 12), (3, 12), (4, 12), (5, 12), (6, 12), (7, 12), (0, 13), (1, 13), (0, 14)] [6, 7, 21, 22, 23, 24, 25, 26, 27, 28, 29, 30, 31, 32, 33, 34, 35, 36])))
 (.ops [⟨some 37, (.bin .add (.t 16) (.c (.int .i64 (1)))), none⟩,
 ⟨some 16, (.mv (.t 37)), none⟩]
 [] [37])))))))
 (.seq
 (.ops [⟨some 38, (.mv (.t 5)), none⟩,
 ⟨some 2, (.mv (.t 38)), none⟩,
 ⟨some 3, (.mv (.c (.int .i64 (0)))), none⟩]
 [] [1, 5, 14, 15, 16, 17, 38])
 .ret)))))⟩
def loc51 : List Nat := [1]
def fg51 : List (Nat × List Nat) := [(10, [1, 5, 14, 15, 16, 17, 38]), (9, [37]), (8, [6, 7, 21, 22, 23, 24, 25, 26, 27, 28, 29, 30, 31, 32, 33, 34, 35, 36]), (7, [17, 18, 19, 20]), (5, [13]), (4, [4, 11]), (3, [1, 4, 11, 12]), (2, [10]), (1, [8, 9]), (0, [0, 2, 3])]
theorem comp51 : compFn Try.prog loc51 (fun i => (fg51.lookup i).getD []) Try.f51 = some lit51 := by kernel_rfl

-- parcener/ratio.signed
def lit52 : AFn := ⟨3, [.cell 6 true 2, .tmp 7],
 (.seq
 (.ops [⟨some 6, (.allocL (.agg [(.int .i64 (0)), (.int .i64 (0))])), none⟩,
 ⟨some 7, (.mv (.c (.int .i64 (0)))), none⟩]
 [] [7])
 (.seq
 (.seq
 (.ops [⟨some 8, (.mv (.t 1)), none⟩,
 ⟨some 9, (.mv (.t 2)), none⟩,
 ⟨some 10, (.minmax true [(.t 8), (.t 9)]), none⟩,
 ⟨some 11, (.bin .gtr (.t 10) (.c (.int .u64 (1000000000000000000)))), none⟩]
 [] [8, 9, 10])
 (.cond (.t 11)
 (.seq
 (.ops [⟨some 12, (.build [(.int .i64 (0)), (.int .i64 (0))] []), none⟩,
 ⟨none, (.store 2 (.t 6) (.t 12)), none⟩,
 ⟨some 7, (.mv (.c (.int .i64 (16)))), none⟩]
 [] [0, 1, 2, 11, 12])
 .ret)
 .skip))
 (.seq
 (.seq
 (.ops [⟨some 13, (.mv (.t 0)), none⟩]
 [] [0, 11])
 (.cond (.t 13)
 (.seq
 (.ops [⟨some 14, (.mv (.t 1)), none⟩,
 ⟨some 15, (.conv .i64 (.t 14)), none⟩,
 ⟨some 16, (.un .neg (.t 15)), none⟩,
 ⟨some 17, (.mv (.t 2)), none⟩,
 ⟨some 18, (.conv .i64 (.t 17)), none⟩,
 ⟨some 19, (.build [(.int .i64 (0)), (.int .i64 (0))] [(0, 1, (.t 16)), (1, 1, (.t 18))]), none⟩,
 ⟨none, (.store 2 (.t 6) (.t 19)), none⟩,
 ⟨some 7, (.mv (.c (.int .i64 (0)))), none⟩]
 [] [1, 2, 13, 14, 15, 16, 17, 18, 19])
 .ret)
 .skip))
 (.seq
 (.ops [⟨some 20, (.mv (.t 1)), none⟩,
 ⟨some 21, (.conv .i64 (.t 20)), none⟩,
 ⟨some 22, (.mv (.t 2)), none⟩,
 ⟨some 23, (.conv .i64 (.t 22)), none⟩,
 ⟨some 24, (.build [(.int .i64 (0)), (.int .i64 (0))] [(0, 1, (.t 21)), (1, 1, (.t 23))]), none⟩,
 ⟨none, (.store 2 (.t 6) (.t 24)), none⟩,
 ⟨some 7, (.mv (.c (.int .i64 (0)))), none⟩]
 [] [1, 2, 13, 20, 21, 22, 23, 24])
 .ret))))⟩
def loc52 : List Nat := [6]
def fg52 : List (Nat × List Nat) := [(5, [1, 2, 13, 20, 21, 22, 23, 24]), (4, [1, 2, 13, 14, 15, 16, 17, 18, 19]), (3, [0, 11]), (2, [0, 1, 2, 11, 12]), (1, [8, 9, 10]), (0, [7])]
theorem comp52 : compFn Try.prog loc52 (fun i => (fg52.lookup i).getD []) Try.f52 = some lit52 := by kernel_rfl

-- parcener/cake.Value
def lit53 : AFn := ⟨3, [.cell 6 true 2, .tmp 7],
 (.seq
 (.ops [⟨some 3, (.boxL (.t 0)), none⟩,
 ⟨some 4, (.boxL (.t 1)), none⟩,
 ⟨some 5, (.boxL (.t 2)), none⟩,
 ⟨some 6, (.allocL (.agg [(.int .i64 (0)), (.int .i64 (0))])), none⟩,
 ⟨some 7, (.mv (.c (.int .i64 (0)))), none⟩]
 [] [0, 1, 2, 7])
 (.seq
 (.seq
 (.ops [⟨some 17, (.load true 3 (.t 3)), none⟩,
 ⟨some 18, (.call (.f 20) [(.t 17)]), none⟩,
 ⟨some 8, (.mv (.t 18)), none⟩]
 [] [17, 18])
 (.seq
 (.ops [⟨some 19, (.mv (.t 8)), none⟩,
 ⟨some 20, (.bin .neq (.t 19) (.c (.int .i64 (0)))), none⟩]
 [] [19])
 (.cond (.t 20)
 (.seq
 (.ops [⟨some 21, (.build [(.int .i64 (0)), (.int .i64 (0))] []), none⟩,
 ⟨some 22, (.mv (.t 8)), none⟩,
 ⟨none, (.store 2 (.t 6) (.t 21)), none⟩,
 ⟨some 7, (.mv (.t 22)), none⟩]
 [] [3, 4, 5, 8, 20, 21, 22])
 .ret)
 .skip)))
 (.seq
 (.seq
 (.ops [⟨some 23, (.load true 3 (.t 3)), none⟩,
 ⟨some 24, (.load true 2 (.t 4)), none⟩,
 ⟨some 25, (.call (.f 54) [(.t 23), (.t 24)]), none⟩,
 ⟨some 26, (.un .not (.t 25)), none⟩,
 ⟨some 27, (.mv (.t 26)), none⟩,
 ⟨some 28, (.load true 3 (.t 3)), some (27, false)⟩,
 ⟨some 29, (.load true 2 (.t 5)), some (27, false)⟩,
 ⟨some 30, (.call (.f 54) [(.t 28), (.t 29)]), some (27, false)⟩,
 ⟨some 31, (.un .not (.t 30)), some (27, false)⟩,
 ⟨some 32, (.pick (.t 27) (.c (.bool true)) (.t 31)), none⟩,
 ⟨some 33, (.mv (.t 32)), none⟩,
 ⟨some 34, (.load true 2 (.t 5)), some (33, false)⟩,
 ⟨some 35, (.load true 2 (.t 4)), some (33, false)⟩,
 ⟨some 36, (.call (.f 57) [(.t 34), (.t 35)]), some (33, false)⟩,
 ⟨some 37, (.pick (.t 33) (.c (.bool true)) (.t 36)), none⟩]
 [] [8, 20, 23, 24, 25, 26, 27, 28, 29, 30, 31, 32, 33, 34, 35, 36])
 (.cond (.t 37)
 (.seq
 (.ops [⟨some 38, (.build [(.int .i64 (0)), (.int .i64 (0))] []), none⟩,
 ⟨none, (.store 2 (.t 6) (.t 38)), none⟩,
 ⟨some 7, (.mv (.c (.int .i64 (2)))), none⟩]
 [] [3, 4, 5, 37, 38])
 .ret)
 .skip))
 (.seq
 (.ops [⟨some 39, (.call (.f 60) [(.c (.int .i64 (0)))]), none⟩,
 ⟨some 9, (.allocL (.agg [(.int .i64 (0)), (.int .i64 (0))])), none⟩,
 ⟨none, (.store 2 (.t 9) (.t 39)), none⟩]
 [] [37, 39])
 (.seq
 (.ops [⟨some 40, (.load true 2 (.t 4)), none⟩,
 ⟨some 10, (.allocL (.agg [(.int .i64 (0)), (.int .i64 (0))])), none⟩,
 ⟨none, (.store 2 (.t 10) (.t 40)), none⟩]
 [] [4, 40])
 (.seq
 (.seq
 (.ops [⟨some 41, (.fad 2 (.t 3)), none⟩,
 ⟨some 42, (.load false 1 (.t 41)), none⟩,
 ⟨some 43, (.len (.t 42)), none⟩,
 ⟨some 44, (.mv (.c (.int .i64 (0)))), none⟩]
 [] [41])
 (.block 0
 (.loop
 (.seq
 (.ops [⟨some 45, (.bin .lss (.t 44) (.t 43)), none⟩]
 [] [])
 (.seq
 (.cond (.t 45)
 .skip
 (.exit 0))
 (.seq
 (.block 1
 (.seq
 (.ops [⟨some 46, (.mv (.t 44)), none⟩,
 ⟨some 47, (.iad 1 (.t 42) (.t 44)), none⟩,
 ⟨some 48, (.load false 1 (.t 47)), none⟩,
 ⟨some 11, (.mv (.t 46)), none⟩,
 ⟨some 12, (.mv (.t 48)), none⟩]
 [] [45, 46, 47, 48])
 (.seq
 (.ops [⟨some 49, (.fad 1 (.t 3)), none⟩,
 ⟨some 50, (.load false 1 (.t 49)), none⟩,
 ⟨some 51, (.mv (.t 11)), none⟩,
 ⟨some 52, (.bin .add (.t 51) (.c (.int .i64 (1)))), none⟩,
 ⟨some 53, (.iad 1 (.t 50) (.t 52)), none⟩,
 ⟨some 54, (.load false 1 (.t 53)), none⟩,
 ⟨some 55, (.call (.f 60) [(.t 54)]), none⟩,
 ⟨some 13, (.allocL (.agg [(.int .i64 (0)), (.int .i64 (0))])), none⟩,
 ⟨none, (.store 2 (.t 13) (.t 55)), none⟩]
 [] [11, 49, 50, 51, 52, 53, 54, 55])
 (.seq
 (.seq
 (.ops [⟨some 56, (.load true 2 (.t 5)), none⟩,
 ⟨some 57, (.load true 2 (.t 13)), none⟩,
 ⟨some 58, (.call (.f 57) [(.t 56), (.t 57)]), none⟩]
 [] [56, 57])
 (.cond (.t 58)
 (.ops [⟨some 59, (.load true 2 (.t 5)), none⟩,
 ⟨none, (.store 2 (.t 13) (.t 59)), none⟩]
 [] [58, 59])
 .skip))
 (.seq
 (.seq
 (.ops [⟨some 60, (.mv (.t 12)), none⟩,
 ⟨some 61, (.bin .eql (.t 60) (.c (.int .i64 (0)))), none⟩,
 ⟨some 62, (.mv (.t 61)), none⟩,
 ⟨some 63, (.load true 2 (.t 10)), some (62, false)⟩,
 ⟨some 64, (.load true 2 (.t 13)), some (62, false)⟩,
 ⟨some 65, (.call (.f 57) [(.t 63), (.t 64)]), some (62, false)⟩,
 ⟨some 66, (.un .not (.t 65)), some (62, false)⟩,
 ⟨some 67, (.pick (.t 62) (.c (.bool true)) (.t 66)), none⟩]
 [] [58, 60, 61, 62, 63, 64, 65, 66])
 (.cond (.t 67)
 (.seq
 (.seq
 (.ops [⟨some 68, (.load true 2 (.t 10)), none⟩,
 ⟨some 69, (.load true 2 (.t 13)), none⟩,
 ⟨some 70, (.call (.f 57) [(.t 68), (.t 69)]), none⟩]
 [] [12, 67, 68, 69])
 (.cond (.t 70)
 (.ops [⟨some 71, (.load true 2 (.t 13)), none⟩,
 ⟨none, (.store 2 (.t 10) (.t 71)), none⟩]
 [] [13, 70, 71])
 .skip))
 (.exit 1))
 .skip))
 (.seq
 (.ops [⟨some 73, (.load true 2 (.t 13)), none⟩,
 ⟨some 74, (.load true 2 (.t 10)), none⟩,
 ⟨some 75, (.call (.f 58) [(.t 73), (.t 74)]), none⟩,
 ⟨some 72, (.mv (.t 75)), none⟩,
 ⟨some 76, (.ext (.t 72) 0), none⟩,
 ⟨some 77, (.ext (.t 72) 1), none⟩,
 ⟨some 14, (.allocL (.agg [(.int .i64 (0)), (.int .i64 (0))])), none⟩,
 ⟨none, (.store 2 (.t 14) (.t 76)), none⟩,
 ⟨some 15, (.mv (.t 77)), none⟩]
 [] [67, 72, 73, 74, 75, 76, 77])
 (.seq
 (.seq
 (.ops [⟨some 78, (.mv (.t 15)), none⟩,
 ⟨some 79, (.bin .neq (.t 78) (.c (.int .i64 (0)))), none⟩]
 [] [78])
 (.cond (.t 79)
 (.seq
 (.ops [⟨some 80, (.build [(.int .i64 (0)), (.int .i64 (0))] []), none⟩,
 ⟨some 81, (.mv (.t 15)), none⟩,
 ⟨none, (.store 2 (.t 6) (.t 80)), none⟩,
 ⟨some 7, (.mv (.t 81)), none⟩]
 [] [3, 5, 9, 10, 12, 13, 14, 15, 42, 43, 44, 79, 80, 81])
 .ret)
 .skip))
 (.seq
 (.ops [⟨some 83, (.load true 2 (.t 14)), none⟩,
 ⟨some 84, (.mv (.t 12)), none⟩,
 ⟨some 85, (.call (.f 60) [(.t 84)]), none⟩,
 ⟨some 86, (.call (.f 62) [(.t 83), (.t 85)]), none⟩,
 ⟨some 82, (.mv (.t 86)), none⟩,
 ⟨some 87, (.ext (.t 82) 0), none⟩,
 ⟨some 88, (.ext (.t 82) 1), none⟩,
 ⟨some 16, (.allocL (.agg [(.int .i64 (0)), (.int .i64 (0))])), none⟩,
 ⟨none, (.store 2 (.t 16) (.t 87)), none⟩,
 ⟨some 15, (.mv (.t 88)), none⟩]
 [(0, 1), (0, 2), (5, 6), (0, 7), (1, 7), (2, 7), (3, 7), (4, 7), (5, 7), (6, 7), (6, 8)] [12, 14, 79, 82, 83, 84, 85, 86, 87, 88])
 (.seq
 (.seq
 (.ops [⟨some 89, (.mv (.t 15)), none⟩,
 ⟨some 90, (.bin .neq (.t 89) (.c (.int .i64 (0)))), none⟩]
 [] [89])
 (.cond (.t 90)
 (.seq
 (.ops [⟨some 91, (.build [(.int .i64 (0)), (.int .i64 (0))] []), none⟩,
 ⟨some 92, (.mv (.t 15)), none⟩,
 ⟨none, (.store 2 (.t 6) (.t 91)), none⟩,
 ⟨some 7, (.mv (.t 92)), none⟩]
 [] [3, 5, 9, 10, 13, 15, 16, 42, 43, 44, 90, 91, 92])
 .ret)
 .skip))
 (.seq
 (.seq
 (.ops [⟨some 94, (.load true 2 (.t 9)), none⟩,
 ⟨some 95, (.load true 2 (.t 16)), none⟩,
 ⟨some 96, (.call (.f 61) [(.t 94), (.t 95)]), none⟩,
 ⟨some 93, (.mv (.t 96)), none⟩,
 ⟨some 97, (.ext (.t 93) 0), none⟩,
 ⟨some 98, (.ext (.t 93) 1), none⟩,
 ⟨none, (.store 2 (.t 9) (.t 97)), none⟩,
 ⟨some 15, (.mv (.t 98)), none⟩]
 [] [16, 90, 93, 94, 95, 96, 97, 98])
 (.seq
 (.ops [⟨some 99, (.mv (.t 15)), none⟩,
 ⟨some 100, (.bin .neq (.t 99) (.c (.int .i64 (0)))), none⟩]
 [] [99])
 (.cond (.t 100)
 (.seq
 (.ops [⟨some 101, (.build [(.int .i64 (0)), (.int .i64 (0))] []), none⟩,
 ⟨some 102, (.mv (.t 15)), none⟩,
 ⟨none, (.store 2 (.t 6) (.t 101)), none⟩,
 ⟨some 7, (.mv (.t 102)), none⟩]
 [] [3, 5, 9, 10, 13, 15, 42, 43, 44, 100, 101, 102])
 .ret)
 .skip)))
 (.ops [⟨some 103, (.load true 2 (.t 13)), none⟩,
 ⟨none, (.store 2 (.t 10) (.t 103)), none⟩]
 [] [13, 15, 100, 103])))))))))))
 (.ops [⟨some 104, (.bin .add (.t 44) (.c (.int .i64 (1)))), none⟩,
 ⟨some 44, (.mv (.t 104)), none⟩]
 [] [13, 70, 104])))))))
 (.seq
 (.ops [⟨some 105, (.load true 2 (.t 9)), none⟩,
 ⟨none, (.store 2 (.t 6) (.t 105)), none⟩,
 ⟨some 7, (.mv (.c (.int .i64 (0)))), none⟩]
 [] [3, 5, 9, 10, 42, 43, 44, 45, 105])
 .ret)))))))⟩
def loc53 : List Nat := [3, 4, 5, 6, 9, 10, 13, 14, 16]
def fg53 : List (Nat × List Nat) := [(28, [3, 5, 9, 10, 42, 43, 44, 45, 105]), (27, [13, 70, 104]), (26, [13, 15, 100, 103]), (25, [3, 5, 9, 10, 13, 15, 42, 43, 44, 100, 101, 102]), (24, [99]), (23, [16, 90, 93, 94, 95, 96, 97, 98]), (22, [3, 5, 9, 10, 13, 15, 16, 42, 43, 44, 90, 91, 92]), (21, [89]), (20, [12, 14, 79, 82, 83, 84, 85, 86, 87, 88]), (19, [3, 5, 9, 10, 12, 13, 14, 15, 42, 43, 44, 79, 80, 81]), (18, [78]), (17, [67, 72, 73, 74, 75, 76, 77]), (16, [13, 70, 71]), (15, [12, 67, 68, 69]), (14, [58, 60, 61, 62, 63, 64, 65, 66]), (13, [58, 59]), (12, [56, 57]), (11, [11, 49, 50, 51, 52, 53, 54, 55]), (10, [45, 46, 47, 48]), (8, [41]), (7, [4, 40]), (6, [37, 39]), (5, [3, 4, 5, 37, 38]), (4, [8, 20, 23, 24, 25, 26, 27, 28, 29, 30, 31, 32, 33, 34, 35, 36]), (3, [3, 4, 5, 8, 20, 21, 22]), (2, [19]), (1, [17, 18]), (0, [0, 1, 2, 7])]
theorem comp53 : compFn Try.prog loc53 (fun i => (fg53.lookup i).getD []) Try.f53 = some lit53 := by kernel_rfl

-- parcener/cake.point
def lit54 : AFn := ⟨2, [.tmp 4],
 (.seq
 (.ops [⟨some 2, (.boxL (.t 0)), none⟩,
 ⟨some 3, (.boxL (.t 1)), none⟩,
 ⟨some 4, (.mv (.c (.bool false))), none⟩]
 [] [0, 1, 4])
 (.seq
 (.ops [⟨some 5, (.load true 2 (.t 3)), none⟩,
 ⟨some 6, (.call (.f 11) [(.t 5)]), none⟩,
 ⟨some 7, (.bin .eql (.t 6) (.c (.int .i64 (0)))), none⟩,
 ⟨some 8, (.mv (.t 7)), none⟩,
 ⟨some 9, (.fad 0 (.t 3)), some (8, true)⟩,
 ⟨some 10, (.load false 1 (.t 9)), some (8, true)⟩,
 ⟨some 11, (.bin .geq (.t 10) (.c (.int .i64 (0)))), some (8, true)⟩,
 ⟨some 12, (.pick (.t 8) (.t 11) (.c (.bool false))), none⟩,
 ⟨some 13, (.mv (.t 12)), none⟩,
 ⟨some 14, (.fad 0 (.t 2)), some (13, true)⟩,
 ⟨some 15, (.load false 1 (.t 14)), some (13, true)⟩,
 ⟨some 16, (.call (.f 60) [(.t 15)]), some (13, true)⟩,
 ⟨some 17, (.load true 2 (.t 3)), some (13, true)⟩,
 ⟨some 18, (.call (.f 57) [(.t 16), (.t 17)]), some (13, true)⟩,
 ⟨some 19, (.un .not (.t 18)), some (13, true)⟩,
 ⟨some 20, (.pick (.t 13) (.t 19) (.c (.bool false))), none⟩,
 ⟨some 4, (.mv (.t 20)), none⟩]
 [(9, 12), (10, 12), (11, 12)] [2, 3, 5, 6, 7, 8, 9, 10, 11, 12, 13, 14, 15, 16, 17, 18, 19, 20])
 .ret))⟩
def loc54 : List Nat := [2, 3]
def fg54 : List (Nat × List Nat) := [(1, [2, 3, 5, 6, 7, 8, 9, 10, 11, 12, 13, 14, 15, 16, 17, 18, 19, 20]), (0, [0, 1, 4])]
theorem comp54 : compFn Try.prog loc54 (fun i => (fg54.lookup i).getD []) Try.f54 = some lit54 := by kernel_rfl

def tab0 : List (Nat × AFn) := [(3, lit3), (4, lit4), (5, lit5), (6, lit6), (7, lit7), (8, lit8), (9, lit9), (10, lit10), (11, lit11), (12, lit12), (13, lit13), (14, lit14), (15, lit15), (16, lit16), (17, lit17), (19, lit19), (20, lit20), (21, lit21), (22, lit22), (23, lit23), (24, lit24), (25, lit25), (26, lit26), (27, lit27), (28, lit28), (29, lit29), (30, lit30), (31, lit31), (32, lit32), (33, lit33), (34, lit34), (36, lit36), (37, lit37), (38, lit38), (39, lit39), (40, lit40), (41, lit41), (42, lit42), (43, lit43), (44, lit44), (45, lit45), (46, lit46), (48, lit48), (49, lit49), (50, lit50), (51, lit51), (52, lit52), (53, lit53), (54, lit54)]
theorem tabOk0 : AllOk Try.prog tab0 := ⟨⟨_, _, _, Try.func3, comp3⟩, ⟨_, _, _, Try.func4, comp4⟩, ⟨_, _, _, Try.func5, comp5⟩, ⟨_, _, _, Try.func6, comp6⟩, ⟨_, _, _, Try.func7, comp7⟩, ⟨_, _, _, Try.func8, comp8⟩, ⟨_, _, _, Try.func9, comp9⟩, ⟨_, _, _, Try.func10, comp10⟩, ⟨_, _, _, Try.func11, comp11⟩, ⟨_, _, _, Try.func12, comp12⟩, ⟨_, _, _, Try.func13, comp13⟩, ⟨_, _, _, Try.func14, comp14⟩, ⟨_, _, _, Try.func15, comp15⟩, ⟨_, _, _, Try.func16, comp16⟩, ⟨_, _, _, Try.func17, comp17⟩, ⟨_, _, _, Try.func19, comp19⟩, ⟨_, _, _, Try.func20, comp20⟩, ⟨_, _, _, Try.func21, comp21⟩, ⟨_, _, _, Try.func22, comp22⟩, ⟨_, _, _, Try.func23, comp23⟩, ⟨_, _, _, Try.func24, comp24⟩, ⟨_, _, _, Try.func25, comp25⟩, ⟨_, _, _, Try.func26, comp26⟩, ⟨_, _, _, Try.func27, comp27⟩, ⟨_, _, _, Try.func28, comp28⟩, ⟨_, _, _, Try.func29, comp29⟩, ⟨_, _, _, Try.func30, comp30⟩, ⟨_, _, _, Try.func31, comp31⟩, ⟨_, _, _, Try.func32, comp32⟩, ⟨_, _, _, Try.func33, comp33⟩, ⟨_, _, _, Try.func34, comp34⟩, ⟨_, _, _, Try.func36, comp36⟩, ⟨_, _, _, Try.func37, comp37⟩, ⟨_, _, _, Try.func38, comp38⟩, ⟨_, _, _, Try.func39, comp39⟩, ⟨_, _, _, Try.func40, comp40⟩, ⟨_, _, _, Try.func41, comp41⟩, ⟨_, _, _, Try.func42, comp42⟩, ⟨_, _, _, Try.func43, comp43⟩, ⟨_, _, _, Try.func44, comp44⟩, ⟨_, _, _, Try.func45, comp45⟩, ⟨_, _, _, Try.func46, comp46⟩, ⟨_, _, _, Try.func48, comp48⟩, ⟨_, _, _, Try.func49, comp49⟩, ⟨_, _, _, Try.func50, comp50⟩, ⟨_, _, _, Try.func51, comp51⟩, ⟨_, _, _, Try.func52, comp52⟩, ⟨_, _, _, Try.func53, comp53⟩, ⟨_, _, _, Try.func54, comp54⟩, trivial⟩
end Go.Proofs.Ytppkmfaolbocfaa.Tn
