/- The functions that the statement ProofNames runs, in the small code (part 0); each is what the framework makes of the program. -/
import Derived.Test.YtclfeoieffcoiaaFw27
import Derived.Test.YtclfeoieffcoiaaRows
namespace Go.Proofs.Ytclfeoieffcoiaa.Pn
open Go Go.Pf
-- parcener/parcenerlaw06.ProofNames
def lit4 : AFn := ⟨0, [.tmp 0],
 (.seq
 (.ops [⟨some 0, (.mv (.c (.bool false))), none⟩]
 [] [0])
 (.seq
 (.ops [⟨some 42, (.call (.f 15) [(.c (.int .i64 (0))), (.c (.int .i64 (2)))]), none⟩,
 ⟨some 43, (.call (.f 15) [(.c (.int .i64 (1))), (.c (.int .i64 (2)))]), none⟩,
 ⟨some 44, (.buildD 4 (.agg [(.int .i64 (0)), (.int .i64 (0)), (.int .i64 (0)), (.int .i64 (0))]) 2 [(0, (.t 42)), (1, (.t 43))]), none⟩,
 ⟨some 45, (.call (.f 14) [(.t 44)]), none⟩,
 ⟨some 1, (.allocL (.agg [.nils])), none⟩,
 ⟨none, (.store 1 (.t 1) (.t 45)), none⟩]
 [] [42, 43, 44, 45])
 (.seq
 (.ops [⟨some 46, (.call (.f 15) [(.c (.int .i64 (0))), (.c (.int .i64 (1)))]), none⟩,
 ⟨some 47, (.buildD 4 (.agg [(.int .i64 (0)), (.int .i64 (0)), (.int .i64 (0)), (.int .i64 (0))]) 1 [(0, (.t 46))]), none⟩,
 ⟨some 48, (.buildD 1 (.data []) 2 [(0, (.t 47)), (1, (.c .nils))]), none⟩,
 ⟨some 49, (.build [.nils] [(0, 1, (.t 48))]), none⟩,
 ⟨some 2, (.allocL (.agg [.nils])), none⟩,
 ⟨none, (.store 1 (.t 2) (.t 49)), none⟩]
 [] [46, 47, 48, 49])
 (.seq
 (.ops [⟨some 50, (.call (.f 15) [(.c (.int .i64 (1))), (.c (.int .i64 (2)))]), none⟩,
 ⟨some 51, (.buildD 4 (.agg [(.int .i64 (0)), (.int .i64 (0)), (.int .i64 (0)), (.int .i64 (0))]) 1 [(0, (.t 50))]), none⟩,
 ⟨some 52, (.call (.f 16) [(.c (.int .i64 (0)))]), none⟩,
 ⟨some 53, (.build [(.int .i64 (0)), (.int .i64 (0))] [(0, 1, (.c (.int .i64 (2)))), (1, 1, (.c (.int .i64 (3))))]), none⟩,
 ⟨some 54, (.build [(.int .i64 (0)), (.int .i64 (0)), (.int .i64 (0)), (.int .i64 (0))] [(0, 2, (.t 52)), (2, 2, (.t 53))]), none⟩,
 ⟨some 55, (.buildD 4 (.agg [(.int .i64 (0)), (.int .i64 (0)), (.int .i64 (0)), (.int .i64 (0))]) 1 [(0, (.t 54))]), none⟩,
 ⟨some 56, (.buildD 1 (.data []) 2 [(0, (.t 51)), (1, (.t 55))]), none⟩,
 ⟨some 57, (.build [.nils] [(0, 1, (.t 56))]), none⟩,
 ⟨some 3, (.allocL (.agg [.nils])), none⟩,
 ⟨none, (.store 1 (.t 3) (.t 57)), none⟩]
 [] [50, 51, 52, 53, 54, 55, 56, 57])
 (.seq
 (.ops [⟨some 59, (.call (.f 18) []), none⟩,
 ⟨some 60, (.load true 1 (.t 3)), none⟩,
 ⟨some 61, (.call (.f 17) [(.t 59), (.t 60), (.c (.int .u8 (8)))]), none⟩,
 ⟨some 58, (.mv (.t 61)), none⟩,
 ⟨some 62, (.ext (.t 58) 0), none⟩,
 ⟨some 63, (.ext (.t 58) 1), none⟩,
 ⟨some 4, (.mv (.t 62)), none⟩,
 ⟨some 5, (.mv (.t 63)), none⟩]
 [(0, 1), (4, 5), (5, 6)] [58, 59, 60, 61, 62, 63])
 (.seq
 (.ops [⟨some 64, (.call (.f 18) []), none⟩,
 ⟨some 65, (.load true 1 (.t 1)), none⟩,
 ⟨some 66, (.call (.f 19) [(.t 64), (.t 65), (.c (.int .u8 (1))), (.c (.int .i64 (0))), (.c (.int .i64 (1)))]), none⟩,
 ⟨some 67, (.mv (.t 66)), none⟩,
 ⟨some 68, (.call (.f 18) []), some (67, true)⟩,
 ⟨some 69, (.load true 1 (.t 2)), some (67, true)⟩,
 ⟨some 70, (.call (.f 19) [(.t 68), (.t 69), (.c (.int .u8 (1))), (.c (.int .i64 (-1))), (.c (.int .i64 (-1)))]), some (67, true)⟩,
 ⟨some 71, (.pick (.t 67) (.t 70) (.c (.bool false))), none⟩,
 ⟨some 72, (.mv (.t 71)), none⟩,
 ⟨some 73, (.call (.f 18) []), some (72, true)⟩,
 ⟨some 74, (.load true 1 (.t 2)), some (72, true)⟩,
 ⟨some 75, (.call (.f 19) [(.t 73), (.t 74), (.c (.int .u8 (16))), (.c (.int .i64 (1))), (.c (.int .i64 (1)))]), some (72, true)⟩,
 ⟨some 76, (.pick (.t 72) (.t 75) (.c (.bool false))), none⟩,
 ⟨some 77, (.mv (.t 76)), none⟩,
 ⟨some 78, (.call (.f 18) []), some (77, true)⟩,
 ⟨some 79, (.load true 1 (.t 2)), some (77, true)⟩,
 ⟨some 80, (.call (.f 19) [(.t 78), (.t 79), (.c (.int .u8 (2))), (.c (.int .i64 (1))), (.c (.int .i64 (1)))]), some (77, true)⟩,
 ⟨some 81, (.pick (.t 77) (.t 80) (.c (.bool false))), none⟩,
 ⟨some 82, (.mv (.t 81)), none⟩,
 ⟨some 83, (.mv (.t 5)), some (82, true)⟩,
 ⟨some 84, (.bin .eql (.t 83) (.c (.int .i64 (0)))), some (82, true)⟩,
 ⟨some 85, (.pick (.t 82) (.t 84) (.c (.bool false))), none⟩,
 ⟨some 86, (.mv (.t 85)), none⟩,
 ⟨some 87, (.mv (.t 4)), some (86, true)⟩,
 ⟨some 88, (.pick (.t 86) (.t 87) (.c (.bool false))), none⟩,
 ⟨some 89, (.mv (.t 88)), none⟩,
 ⟨some 90, (.call (.f 18) []), some (89, true)⟩,
 ⟨some 91, (.load true 1 (.t 3)), some (89, true)⟩,
 ⟨some 92, (.call (.f 19) [(.t 90), (.t 91), (.c (.int .u8 (1))), (.c (.int .i64 (-1))), (.c (.int .i64 (-1)))]), some (89, true)⟩,
 ⟨some 93, (.pick (.t 89) (.t 92) (.c (.bool false))), none⟩,
 ⟨some 6, (.mv (.t 93)), none⟩]
 [(0, 1), (4, 5), (9, 10), (14, 15), (26, 27)] [1, 2, 3, 4, 5, 64, 65, 66, 67, 68, 69, 70, 71, 72, 73, 74, 75, 76, 77, 78, 79, 80, 81, 82, 83, 84, 85, 86, 87, 88, 89, 90, 91, 92, 93])
 (.seq
 (.ops [⟨some 94, (.call (.f 15) [(.c (.int .i64 (1))), (.c (.int .i64 (2)))]), none⟩,
 ⟨some 95, (.call (.f 15) [(.c (.int .i64 (0))), (.c (.int .i64 (1)))]), none⟩,
 ⟨some 96, (.buildD 4 (.agg [(.int .i64 (0)), (.int .i64 (0)), (.int .i64 (0)), (.int .i64 (0))]) 2 [(0, (.t 94)), (1, (.t 95))]), none⟩,
 ⟨some 97, (.call (.f 14) [(.t 96)]), none⟩,
 ⟨some 7, (.allocL (.agg [.nils])), none⟩,
 ⟨none, (.store 1 (.t 7) (.t 97)), none⟩]
 [] [94, 95, 96, 97])
 (.seq
 (.ops [⟨some 99, (.call (.f 18) []), none⟩,
 ⟨some 100, (.load true 1 (.t 7)), none⟩,
 ⟨some 101, (.call (.f 20) [(.t 99), (.t 100)]), none⟩,
 ⟨some 98, (.mv (.t 101)), none⟩,
 ⟨some 102, (.ext (.t 98) 0), none⟩,
 ⟨some 103, (.ext (.t 98) 1), none⟩,
 ⟨some 8, (.allocL (.agg [(.int .u8 (0)), .nils])), none⟩,
 ⟨none, (.store 2 (.t 8) (.t 102)), none⟩,
 ⟨some 9, (.mv (.t 103)), none⟩]
 [(0, 1), (4, 5), (0, 6), (1, 6), (2, 6), (3, 6), (4, 6), (5, 6), (5, 7)] [98, 99, 100, 101, 102, 103])
 (.seq
 (.ops [⟨some 104, (.load true 2 (.t 8)), none⟩,
 ⟨some 105, (.load true 2 (.t 8)), none⟩,
 ⟨some 106, (.fad 0 (.t 8)), none⟩,
 ⟨some 107, (.load false 1 (.t 106)), none⟩,
 ⟨some 108, (.call (.f 16) [(.c (.int .i64 (1)))]), none⟩,
 ⟨some 109, (.buildD 2 (.agg [(.int .i64 (0)), (.int .i64 (0))]) 1 [(0, (.t 108))]), none⟩,
 ⟨some 110, (.call (.f 16) [(.c (.int .i64 (3)))]), none⟩,
 ⟨some 111, (.call (.f 16) [(.c (.int .i64 (1)))]), none⟩,
 ⟨some 112, (.buildD 2 (.agg [(.int .i64 (0)), (.int .i64 (0))]) 2 [(0, (.t 110)), (1, (.t 111))]), none⟩,
 ⟨some 113, (.buildD 1 (.data []) 2 [(0, (.t 109)), (1, (.t 112))]), none⟩,
 ⟨some 114, (.build [(.int .u8 (0)), .nils] [(0, 1, (.t 107)), (1, 1, (.t 113))]), none⟩,
 ⟨some 10, (.allocL (.agg [(.int .u8 (0)), .nils])), none⟩,
 ⟨some 11, (.allocL (.agg [(.int .u8 (0)), .nils])), none⟩,
 ⟨some 12, (.allocL (.agg [(.int .u8 (0)), .nils])), none⟩,
 ⟨none, (.store 2 (.t 10) (.t 104)), none⟩,
 ⟨none, (.store 2 (.t 11) (.t 105)), none⟩,
 ⟨none, (.store 2 (.t 12) (.t 114)), none⟩]
 [(0, 1), (0, 2), (1, 2), (0, 3), (1, 3), (0, 4), (1, 4), (2, 4), (3, 4), (0, 5), (1, 5), (2, 5), (3, 5), (0, 6), (1, 6), (2, 6), (3, 6), (5, 6), (0, 7), (1, 7), (2, 7), (3, 7), (5, 7), (0, 8), (1, 8), (2, 8), (3, 8), (5, 8), (0, 9), (1, 9), (2, 9), (3, 9), (0, 10), (1, 10), (0, 11), (1, 11), (2, 11), (3, 11), (4, 11), (5, 11), (6, 11), (7, 11), (8, 11), (9, 11), (10, 11), (0, 12), (1, 12), (2, 12), (3, 12), (4, 12), (5, 12), (6, 12), (7, 12), (8, 12), (9, 12), (10, 12), (11, 12), (0, 13), (1, 13), (2, 13), (3, 13), (4, 13), (5, 13), (6, 13), (7, 13), (8, 13), (9, 13), (10, 13), (11, 13), (12, 13), (1, 14), (2, 14), (3, 14), (5, 14), (8, 14), (9, 14), (10, 14), (2, 15), (3, 15), (5, 15), (8, 15), (9, 15), (10, 15)] [104, 105, 106, 107, 108, 109, 110, 111, 112, 113, 114])
 (.seq
 (.ops [⟨some 115, (.fad 0 (.t 10)), none⟩,
 ⟨none, (.store 1 (.t 115) (.c (.int .u8 (0)))), none⟩,
 ⟨some 116, (.fad 0 (.t 11)), none⟩,
 ⟨none, (.store 1 (.t 116) (.c (.int .u8 (31)))), none⟩]
 [] [115, 116])
 (.seq
 (.ops [⟨some 118, (.call (.f 18) []), none⟩,
 ⟨some 119, (.load true 1 (.t 7)), none⟩,
 ⟨some 120, (.load true 2 (.t 8)), none⟩,
 ⟨some 121, (.call (.f 21) [(.t 118), (.t 119), (.t 120)]), none⟩,
 ⟨some 117, (.mv (.t 121)), none⟩,
 ⟨some 122, (.ext (.t 117) 0), none⟩,
 ⟨some 123, (.ext (.t 117) 1), none⟩,
 ⟨some 13, (.mv (.t 122)), none⟩,
 ⟨some 14, (.mv (.t 123)), none⟩]
 [(0, 1), (0, 2), (1, 2), (5, 6), (6, 7)] [117, 118, 119, 120, 121, 122, 123])
 (.seq
 (.ops [⟨some 125, (.call (.f 18) []), none⟩,
 ⟨some 126, (.load true 1 (.t 7)), none⟩,
 ⟨some 127, (.load true 2 (.t 10)), none⟩,
 ⟨some 128, (.call (.f 21) [(.t 125), (.t 126), (.t 127)]), none⟩,
 ⟨some 124, (.mv (.t 128)), none⟩,
 ⟨some 129, (.ext (.t 124) 0), none⟩,
 ⟨some 130, (.ext (.t 124) 1), none⟩,
 ⟨some 15, (.mv (.t 129)), none⟩,
 ⟨some 16, (.mv (.t 130)), none⟩]
 [(0, 1), (0, 2), (1, 2), (5, 6), (6, 7)] [10, 124, 125, 126, 127, 128, 129, 130])
 (.seq
 (.ops [⟨some 132, (.call (.f 18) []), none⟩,
 ⟨some 133, (.load true 1 (.t 7)), none⟩,
 ⟨some 134, (.load true 2 (.t 11)), none⟩,
 ⟨some 135, (.call (.f 21) [(.t 132), (.t 133), (.t 134)]), none⟩,
 ⟨some 131, (.mv (.t 135)), none⟩,
 ⟨some 136, (.ext (.t 131) 0), none⟩,
 ⟨some 137, (.ext (.t 131) 1), none⟩,
 ⟨some 17, (.mv (.t 136)), none⟩,
 ⟨some 18, (.mv (.t 137)), none⟩]
 [(0, 1), (0, 2), (1, 2), (5, 6), (6, 7)] [131, 132, 133, 134, 135, 136, 137])
 (.seq
 (.ops [⟨some 139, (.call (.f 18) []), none⟩,
 ⟨some 140, (.load true 1 (.t 7)), none⟩,
 ⟨some 141, (.load true 2 (.t 12)), none⟩,
 ⟨some 142, (.call (.f 21) [(.t 139), (.t 140), (.t 141)]), none⟩,
 ⟨some 138, (.mv (.t 142)), none⟩,
 ⟨some 143, (.ext (.t 138) 0), none⟩,
 ⟨some 144, (.ext (.t 138) 1), none⟩,
 ⟨some 19, (.mv (.t 143)), none⟩,
 ⟨some 20, (.mv (.t 144)), none⟩]
 [(0, 1), (0, 2), (1, 2), (5, 6), (6, 7)] [12, 138, 139, 140, 141, 142, 143, 144])
 (.seq
 (.ops [⟨some 145, (.fad 0 (.t 11)), none⟩,
 ⟨none, (.store 1 (.t 145) (.c (.int .u8 (128)))), none⟩]
 [] [145])
 (.seq
 (.ops [⟨some 147, (.call (.f 18) []), none⟩,
 ⟨some 148, (.load true 1 (.t 7)), none⟩,
 ⟨some 149, (.load true 2 (.t 11)), none⟩,
 ⟨some 150, (.call (.f 21) [(.t 147), (.t 148), (.t 149)]), none⟩,
 ⟨some 146, (.mv (.t 150)), none⟩,
 ⟨some 151, (.ext (.t 146) 0), none⟩,
 ⟨some 152, (.ext (.t 146) 1), none⟩,
 ⟨some 21, (.mv (.t 151)), none⟩,
 ⟨some 22, (.mv (.t 152)), none⟩]
 [(0, 1), (0, 2), (1, 2), (5, 6), (6, 7)] [11, 146, 147, 148, 149, 150, 151, 152])
 (.seq
 (.ops [⟨some 153, (.mv (.t 9)), none⟩,
 ⟨some 154, (.bin .eql (.t 153) (.c (.int .i64 (0)))), none⟩,
 ⟨some 155, (.mv (.t 154)), none⟩,
 ⟨some 156, (.mv (.t 14)), some (155, true)⟩,
 ⟨some 157, (.bin .eql (.t 156) (.c (.int .i64 (0)))), some (155, true)⟩,
 ⟨some 158, (.pick (.t 155) (.t 157) (.c (.bool false))), none⟩,
 ⟨some 159, (.mv (.t 158)), none⟩,
 ⟨some 160, (.mv (.t 13)), some (159, true)⟩,
 ⟨some 161, (.pick (.t 159) (.t 160) (.c (.bool false))), none⟩,
 ⟨some 162, (.mv (.t 161)), none⟩,
 ⟨some 163, (.mv (.t 16)), some (162, true)⟩,
 ⟨some 164, (.bin .eql (.t 163) (.c (.int .i64 (0)))), some (162, true)⟩,
 ⟨some 165, (.pick (.t 162) (.t 164) (.c (.bool false))), none⟩,
 ⟨some 166, (.mv (.t 165)), none⟩,
 ⟨some 167, (.mv (.t 15)), some (166, true)⟩,
 ⟨some 168, (.pick (.t 166) (.t 167) (.c (.bool false))), none⟩,
 ⟨some 169, (.mv (.t 168)), none⟩,
 ⟨some 170, (.mv (.t 18)), some (169, true)⟩,
 ⟨some 171, (.bin .eql (.t 170) (.c (.int .i64 (0)))), some (169, true)⟩,
 ⟨some 172, (.pick (.t 169) (.t 171) (.c (.bool false))), none⟩,
 ⟨some 173, (.mv (.t 172)), none⟩,
 ⟨some 174, (.mv (.t 17)), some (173, true)⟩,
 ⟨some 175, (.un .not (.t 174)), some (173, true)⟩,
 ⟨some 176, (.pick (.t 173) (.t 175) (.c (.bool false))), none⟩,
 ⟨some 177, (.mv (.t 176)), none⟩,
 ⟨some 178, (.mv (.t 20)), some (177, true)⟩,
 ⟨some 179, (.bin .eql (.t 178) (.c (.int .i64 (0)))), some (177, true)⟩,
 ⟨some 180, (.pick (.t 177) (.t 179) (.c (.bool false))), none⟩,
 ⟨some 181, (.mv (.t 180)), none⟩,
 ⟨some 182, (.mv (.t 19)), some (181, true)⟩,
 ⟨some 183, (.un .not (.t 182)), some (181, true)⟩,
 ⟨some 184, (.pick (.t 181) (.t 183) (.c (.bool false))), none⟩,
 ⟨some 185, (.mv (.t 184)), none⟩,
 ⟨some 186, (.mv (.t 22)), some (185, true)⟩,
 ⟨some 187, (.bin .eql (.t 186) (.c (.int .i64 (0)))), some (185, true)⟩,
 ⟨some 188, (.pick (.t 185) (.t 187) (.c (.bool false))), none⟩,
 ⟨some 189, (.mv (.t 188)), none⟩,
 ⟨some 190, (.mv (.t 21)), some (189, true)⟩,
 ⟨some 191, (.un .not (.t 190)), some (189, true)⟩,
 ⟨some 192, (.pick (.t 189) (.t 191) (.c (.bool false))), none⟩,
 ⟨some 23, (.mv (.t 192)), none⟩]
 [] [9, 13, 14, 15, 16, 17, 18, 19, 20, 21, 22, 153, 154, 155, 156, 157, 158, 159, 160, 161, 162, 163, 164, 165, 166, 167, 168, 169, 170, 171, 172, 173, 174, 175, 176, 177, 178, 179, 180, 181, 182, 183, 184, 185, 186, 187, 188, 189, 190, 191, 192])
 (.seq
 (.ops [⟨some 194, (.call (.f 18) []), none⟩,
 ⟨some 195, (.load true 1 (.t 7)), none⟩,
 ⟨some 196, (.call (.f 17) [(.t 194), (.t 195), (.c (.int .u8 (3)))]), none⟩,
 ⟨some 193, (.mv (.t 196)), none⟩,
 ⟨some 197, (.ext (.t 193) 0), none⟩,
 ⟨some 198, (.ext (.t 193) 1), none⟩,
 ⟨some 24, (.mv (.t 197)), none⟩,
 ⟨some 25, (.mv (.t 198)), none⟩]
 [(0, 1), (4, 5), (5, 6)] [24, 193, 194, 195, 196, 197, 198])
 (.seq
 (.ops [⟨some 200, (.call (.f 18) []), none⟩,
 ⟨some 201, (.load true 1 (.t 7)), none⟩,
 ⟨some 202, (.call (.f 17) [(.t 200), (.t 201), (.c (.int .u8 (0)))]), none⟩,
 ⟨some 199, (.mv (.t 202)), none⟩,
 ⟨some 203, (.ext (.t 199) 0), none⟩,
 ⟨some 204, (.ext (.t 199) 1), none⟩,
 ⟨some 26, (.mv (.t 203)), none⟩,
 ⟨some 27, (.mv (.t 204)), none⟩]
 [(0, 1), (4, 5), (5, 6)] [26, 199, 200, 201, 202, 203, 204])
 (.seq
 (.ops [⟨some 206, (.call (.f 18) []), none⟩,
 ⟨some 207, (.load true 1 (.t 7)), none⟩,
 ⟨some 208, (.call (.f 22) [(.t 206), (.t 207), (.c (.int .u8 (4)))]), none⟩,
 ⟨some 205, (.mv (.t 208)), none⟩,
 ⟨some 209, (.ext (.t 205) 0), none⟩,
 ⟨some 210, (.ext (.t 205) 1), none⟩,
 ⟨some 211, (.ext (.t 205) 2), none⟩,
 ⟨some 28, (.mv (.t 209)), none⟩,
 ⟨some 29, (.mv (.t 210)), none⟩,
 ⟨some 30, (.mv (.t 211)), none⟩]
 [(0, 1), (4, 5), (4, 6), (5, 6), (5, 7), (6, 7), (6, 8)] [28, 29, 205, 206, 207, 208, 209, 210, 211])
 (.seq
 (.ops [⟨some 213, (.call (.f 18) []), none⟩,
 ⟨some 214, (.call (.f 15) [(.c (.int .i64 (0))), (.c (.int .i64 (1)))]), none⟩,
 ⟨some 215, (.buildD 4 (.agg [(.int .i64 (0)), (.int .i64 (0)), (.int .i64 (0)), (.int .i64 (0))]) 1 [(0, (.t 214))]), none⟩,
 ⟨some 216, (.call (.f 14) [(.t 215)]), none⟩,
 ⟨some 217, (.call (.f 23) [(.t 213), (.t 216)]), none⟩,
 ⟨some 212, (.mv (.t 217)), none⟩,
 ⟨some 218, (.ext (.t 212) 0), none⟩,
 ⟨some 219, (.ext (.t 212) 1), none⟩,
 ⟨some 31, (.mv (.t 218)), none⟩,
 ⟨some 32, (.mv (.t 219)), none⟩]
 [] [31, 212, 213, 214, 215, 216, 217, 218, 219])
 (.seq
 (.ops [⟨some 221, (.call (.f 18) []), none⟩,
 ⟨some 222, (.call (.f 15) [(.c (.int .i64 (0))), (.c (.int .i64 (1)))]), none⟩,
 ⟨some 223, (.call (.f 15) [(.c (.int .i64 (1))), (.c (.int .i64 (3)))]), none⟩,
 ⟨some 224, (.buildD 4 (.agg [(.int .i64 (0)), (.int .i64 (0)), (.int .i64 (0)), (.int .i64 (0))]) 2 [(0, (.t 222)), (1, (.t 223))]), none⟩,
 ⟨some 225, (.call (.f 14) [(.t 224)]), none⟩,
 ⟨some 226, (.call (.f 20) [(.t 221), (.t 225)]), none⟩,
 ⟨some 220, (.mv (.t 226)), none⟩,
 ⟨some 227, (.ext (.t 220) 0), none⟩,
 ⟨some 228, (.ext (.t 220) 1), none⟩,
 ⟨some 33, (.allocL (.agg [(.int .u8 (0)), .nils])), none⟩,
 ⟨none, (.store 2 (.t 33) (.t 227)), none⟩,
 ⟨some 34, (.mv (.t 228)), none⟩]
 [] [33, 220, 221, 222, 223, 224, 225, 226, 227, 228])
 (.seq
 (.ops [⟨some 230, (.call (.f 18) []), none⟩,
 ⟨some 231, (.call (.f 15) [(.c (.int .i64 (0))), (.c (.int .i64 (1)))]), none⟩,
 ⟨some 232, (.call (.f 15) [(.c (.int .i64 (1))), (.c (.int .i64 (1)))]), none⟩,
 ⟨some 233, (.buildD 4 (.agg [(.int .i64 (0)), (.int .i64 (0)), (.int .i64 (0)), (.int .i64 (0))]) 2 [(0, (.t 231)), (1, (.t 232))]), none⟩,
 ⟨some 234, (.call (.f 14) [(.t 233)]), none⟩,
 ⟨some 235, (.call (.f 23) [(.t 230), (.t 234)]), none⟩,
 ⟨some 229, (.mv (.t 235)), none⟩,
 ⟨some 236, (.ext (.t 229) 0), none⟩,
 ⟨some 237, (.ext (.t 229) 1), none⟩,
 ⟨some 35, (.mv (.t 236)), none⟩,
 ⟨some 36, (.mv (.t 237)), none⟩]
 [] [35, 229, 230, 231, 232, 233, 234, 235, 236, 237])
 (.seq
 (.ops [⟨some 239, (.build [.nils] []), none⟩,
 ⟨some 240, (.call (.f 20) [(.c .nils), (.t 239)]), none⟩,
 ⟨some 238, (.mv (.t 240)), none⟩,
 ⟨some 241, (.ext (.t 238) 0), none⟩,
 ⟨some 242, (.ext (.t 238) 1), none⟩,
 ⟨some 37, (.allocL (.agg [(.int .u8 (0)), .nils])), none⟩,
 ⟨none, (.store 2 (.t 37) (.t 241)), none⟩,
 ⟨some 38, (.mv (.t 242)), none⟩]
 [] [37, 238, 239, 240, 241, 242])
 (.seq
 (.ops [⟨some 244, (.mkSl true 3 56 (.agg [(.int .i64 (0)), (.data []), (.data [])]) (.c (.int .i64 (7))) (.c (.int .i64 (7)))), none⟩,
 ⟨some 245, (.load true 1 (.t 7)), none⟩,
 ⟨some 246, (.load true 2 (.t 8)), none⟩,
 ⟨some 247, (.call (.f 21) [(.t 244), (.t 245), (.t 246)]), none⟩,
 ⟨some 243, (.mv (.t 247)), none⟩,
 ⟨some 248, (.ext (.t 243) 0), none⟩,
 ⟨some 249, (.ext (.t 243) 1), none⟩,
 ⟨some 39, (.mv (.t 248)), none⟩,
 ⟨some 40, (.mv (.t 249)), none⟩]
 [(0, 1), (0, 2), (1, 2), (5, 6), (6, 7)] [7, 8, 39, 243, 244, 245, 246, 247, 248, 249])
 (.seq
 (.ops [⟨some 250, (.mv (.t 25)), none⟩,
 ⟨some 251, (.bin .eql (.t 250) (.c (.int .i64 (2)))), none⟩,
 ⟨some 252, (.mv (.t 251)), none⟩,
 ⟨some 253, (.mv (.t 27)), some (252, true)⟩,
 ⟨some 254, (.bin .eql (.t 253) (.c (.int .i64 (2)))), some (252, true)⟩,
 ⟨some 255, (.pick (.t 252) (.t 254) (.c (.bool false))), none⟩,
 ⟨some 256, (.mv (.t 255)), none⟩,
 ⟨some 257, (.mv (.t 30)), some (256, true)⟩,
 ⟨some 258, (.bin .eql (.t 257) (.c (.int .i64 (6)))), some (256, true)⟩,
 ⟨some 259, (.pick (.t 256) (.t 258) (.c (.bool false))), none⟩,
 ⟨some 260, (.mv (.t 259)), none⟩,
 ⟨some 261, (.mv (.t 32)), some (260, true)⟩,
 ⟨some 262, (.bin .eql (.t 261) (.c (.int .i64 (2)))), some (260, true)⟩,
 ⟨some 263, (.pick (.t 260) (.t 262) (.c (.bool false))), none⟩,
 ⟨some 264, (.mv (.t 263)), none⟩,
 ⟨some 265, (.mv (.t 34)), some (264, true)⟩,
 ⟨some 266, (.bin .eql (.t 265) (.c (.int .i64 (2)))), some (264, true)⟩,
 ⟨some 267, (.pick (.t 264) (.t 266) (.c (.bool false))), none⟩,
 ⟨some 268, (.mv (.t 267)), none⟩,
 ⟨some 269, (.mv (.t 36)), some (268, true)⟩,
 ⟨some 270, (.bin .eql (.t 269) (.c (.int .i64 (8)))), some (268, true)⟩,
 ⟨some 271, (.pick (.t 268) (.t 270) (.c (.bool false))), none⟩,
 ⟨some 272, (.mv (.t 271)), none⟩,
 ⟨some 273, (.mv (.t 38)), some (272, true)⟩,
 ⟨some 274, (.bin .eql (.t 273) (.c (.int .i64 (8)))), some (272, true)⟩,
 ⟨some 275, (.pick (.t 272) (.t 274) (.c (.bool false))), none⟩,
 ⟨some 276, (.mv (.t 275)), none⟩,
 ⟨some 277, (.mv (.t 40)), some (276, true)⟩,
 ⟨some 278, (.bin .eql (.t 277) (.c (.int .i64 (4)))), some (276, true)⟩,
 ⟨some 279, (.pick (.t 276) (.t 278) (.c (.bool false))), none⟩,
 ⟨some 41, (.mv (.t 279)), none⟩]
 [] [25, 27, 30, 32, 34, 36, 38, 40, 250, 251, 252, 253, 254, 255, 256, 257, 258, 259, 260, 261, 262, 263, 264, 265, 266, 267, 268, 269, 270, 271, 272, 273, 274, 275, 276, 277, 278, 279])
 (.seq
 (.ops [⟨some 280, (.mv (.c (.bool true))), none⟩,
 ⟨some 281, (.mv (.t 6)), some (280, true)⟩,
 ⟨some 282, (.pick (.t 280) (.t 281) (.c (.bool false))), none⟩,
 ⟨some 283, (.mv (.t 282)), none⟩,
 ⟨some 284, (.mv (.t 23)), some (283, true)⟩,
 ⟨some 285, (.pick (.t 283) (.t 284) (.c (.bool false))), none⟩,
 ⟨some 286, (.mv (.t 285)), none⟩,
 ⟨some 287, (.mv (.t 41)), some (286, true)⟩,
 ⟨some 288, (.pick (.t 286) (.t 287) (.c (.bool false))), none⟩,
 ⟨some 289, (.mv (.t 288)), none⟩,
 ⟨some 290, (.call (.f 24) []), some (289, true)⟩,
 ⟨some 291, (.pick (.t 289) (.t 290) (.c (.bool false))), none⟩,
 ⟨some 0, (.mv (.t 291)), none⟩]
 [] [6, 23, 41, 280, 281, 282, 283, 284, 285, 286, 287, 288, 289, 290, 291])
 .ret)))))))))))))))))))))))))))⟩
def loc4 : List Nat := [44, 47, 48, 51, 55, 56, 96, 109, 112, 113, 215, 224, 233, 1, 2, 3, 7, 8, 10, 11, 12, 33, 37]
def fg4 : List (Nat × List Nat) := [(26, [6, 23, 41, 280, 281, 282, 283, 284, 285, 286, 287, 288, 289, 290, 291]), (25, [25, 27, 30, 32, 34, 36, 38, 40, 250, 251, 252, 253, 254, 255, 256, 257, 258, 259, 260, 261, 262, 263, 264, 265, 266, 267, 268, 269, 270, 271, 272, 273, 274, 275, 276, 277, 278, 279]), (24, [7, 8, 39, 243, 244, 245, 246, 247, 248, 249]), (23, [37, 238, 239, 240, 241, 242]), (22, [35, 229, 230, 231, 232, 233, 234, 235, 236, 237]), (21, [33, 220, 221, 222, 223, 224, 225, 226, 227, 228]), (20, [31, 212, 213, 214, 215, 216, 217, 218, 219]), (19, [28, 29, 205, 206, 207, 208, 209, 210, 211]), (18, [26, 199, 200, 201, 202, 203, 204]), (17, [24, 193, 194, 195, 196, 197, 198]), (16, [9, 13, 14, 15, 16, 17, 18, 19, 20, 21, 22, 153, 154, 155, 156, 157, 158, 159, 160, 161, 162, 163, 164, 165, 166, 167, 168, 169, 170, 171, 172, 173, 174, 175, 176, 177, 178, 179, 180, 181, 182, 183, 184, 185, 186, 187, 188, 189, 190, 191, 192]), (15, [11, 146, 147, 148, 149, 150, 151, 152]), (14, [145]), (13, [12, 138, 139, 140, 141, 142, 143, 144]), (12, [131, 132, 133, 134, 135, 136, 137]), (11, [10, 124, 125, 126, 127, 128, 129, 130]), (10, [117, 118, 119, 120, 121, 122, 123]), (9, [115, 116]), (8, [104, 105, 106, 107, 108, 109, 110, 111, 112, 113, 114]), (7, [98, 99, 100, 101, 102, 103]), (6, [94, 95, 96, 97]), (5, [1, 2, 3, 4, 5, 64, 65, 66, 67, 68, 69, 70, 71, 72, 73, 74, 75, 76, 77, 78, 79, 80, 81, 82, 83, 84, 85, 86, 87, 88, 89, 90, 91, 92, 93]), (4, [58, 59, 60, 61, 62, 63]), (3, [50, 51, 52, 53, 54, 55, 56, 57]), (2, [46, 47, 48, 49]), (1, [42, 43, 44, 45]), (0, [0])]
theorem comp4 : compFn Try.prog loc4 (fun i => (fg4.lookup i).getD []) Try.f4 = some lit4 := by kernel_rfl

-- parcener/parcenerlaw06.given
def lit14 : AFn := ⟨1, [.cell 2 true 1],
 (.seq
 (.ops [⟨some 2, (.allocL (.agg [.nils])), none⟩]
 [] [])
 (.seq
 (.ops [⟨some 3, (.allocL (.agg [.nils])), none⟩]
 [] [])
 (.seq
 (.seq
 (.ops [⟨some 4, (.mv (.c (.int .i64 (0)))), none⟩]
 [] [])
 (.block 0
 (.loop
 (.seq
 (.seq
 (.ops [⟨some 5, (.mv (.t 4)), none⟩,
 ⟨some 6, (.mv (.t 0)), none⟩,
 ⟨some 7, (.len (.t 6)), none⟩,
 ⟨some 8, (.bin .lss (.t 5) (.t 7)), none⟩]
 [] [5, 6, 7])
 (.cond (.t 8)
 .skip
 (.exit 0)))
 (.seq
 (.block 1
 (.ops [⟨some 11, (.fad 0 (.t 3)), none⟩,
 ⟨some 12, (.load false 1 (.t 11)), none⟩,
 ⟨some 13, (.mv (.t 0)), none⟩,
 ⟨some 14, (.mv (.t 4)), none⟩,
 ⟨some 15, (.iad 4 (.t 13) (.t 14)), none⟩,
 ⟨some 16, (.load true 4 (.t 15)), none⟩,
 ⟨some 17, (.buildD 4 (.agg [(.int .i64 (0)), (.int .i64 (0)), (.int .i64 (0)), (.int .i64 (0))]) 1 [(0, (.t 16))]), none⟩,
 ⟨some 18, (.buildD 1 (.data []) 1 [(0, (.t 17))]), none⟩,
 ⟨some 19, (.app true 1 24 (.t 12) (.t 18)), none⟩,
 ⟨some 20, (.fad 0 (.t 3)), none⟩,
 ⟨none, (.store 1 (.t 20) (.t 19)), none⟩]
 [(0, 2), (1, 2), (0, 3), (1, 3), (2, 3), (0, 4), (1, 4), (0, 5), (1, 5), (0, 6), (1, 6), (0, 7), (1, 7)] [8, 11, 12, 13, 14, 15, 16, 17, 18, 19, 20]))
 (.ops [⟨some 9, (.mv (.t 4)), none⟩,
 ⟨some 10, (.bin .add (.t 9) (.c (.int .i64 (1)))), none⟩,
 ⟨some 4, (.mv (.t 10)), none⟩]
 [] [9, 10]))))))
 (.seq
 (.ops [⟨some 21, (.load true 1 (.t 3)), none⟩,
 ⟨none, (.store 1 (.t 2) (.t 21)), none⟩]
 [] [0, 3, 4, 8, 21])
 .ret))))⟩
def loc14 : List Nat := [17, 18, 2, 3]
def fg14 : List (Nat × List Nat) := [(6, [0, 3, 4, 8, 21]), (4, [9, 10]), (5, [8, 11, 12, 13, 14, 15, 16, 17, 18, 19, 20]), (3, [5, 6, 7])]
theorem comp14 : compFn Try.prog loc14 (fun i => (fg14.lookup i).getD []) Try.f14 = some lit14 := by kernel_rfl

-- parcener/parcenerlaw06.of
def lit15 : AFn := ⟨2, [.cell 4 true 4],
 (.seq
 (.ops [⟨some 4, (.allocL (.agg [(.int .i64 (0)), (.int .i64 (0)), (.int .i64 (0)), (.int .i64 (0))])), none⟩]
 [] [])
 (.seq
 (.ops [⟨some 5, (.mv (.t 0)), none⟩,
 ⟨some 6, (.call (.f 16) [(.t 5)]), none⟩,
 ⟨some 7, (.mv (.t 1)), none⟩,
 ⟨some 8, (.call (.f 16) [(.t 7)]), none⟩,
 ⟨some 9, (.build [(.int .i64 (0)), (.int .i64 (0)), (.int .i64 (0)), (.int .i64 (0))] [(0, 2, (.t 6)), (2, 2, (.t 8))]), none⟩,
 ⟨none, (.store 4 (.t 4) (.t 9)), none⟩]
 [] [0, 1, 5, 6, 7, 8, 9])
 .ret))⟩
def loc15 : List Nat := [4]
def fg15 : List (Nat × List Nat) := [(1, [0, 1, 5, 6, 7, 8, 9])]
theorem comp15 : compFn Try.prog loc15 (fun i => (fg15.lookup i).getD []) Try.f15 = some lit15 := by kernel_rfl

-- parcener/parcenerref01.Of
def lit16 : AFn := ⟨1, [.cell 2 true 2],
 (.seq
 (.ops [⟨some 2, (.allocL (.agg [(.int .i64 (0)), (.int .i64 (0))])), none⟩]
 [] [])
 (.seq
 (.ops [⟨some 3, (.mv (.t 0)), none⟩,
 ⟨some 4, (.build [(.int .i64 (0)), (.int .i64 (0))] [(0, 1, (.t 3)), (1, 1, (.c (.int .i64 (1))))]), none⟩,
 ⟨none, (.store 2 (.t 2) (.t 4)), none⟩]
 [] [0, 3, 4])
 .ret))⟩
def loc16 : List Nat := [2]
def fg16 : List (Nat × List Nat) := [(1, [0, 3, 4])]
theorem comp16 : compFn Try.prog loc16 (fun i => (fg16.lookup i).getD []) Try.f16 = some lit16 := by kernel_rfl

-- parcener/proof.Holds
def lit17 : AFn := ⟨3, [.tmp 6, .tmp 7],
 (.seq
 (.ops [⟨some 4, (.boxL (.t 1)), none⟩,
 ⟨some 6, (.mv (.c (.bool false))), none⟩,
 ⟨some 7, (.mv (.c (.int .i64 (0)))), none⟩]
 [] [1, 6, 7])
 (.seq
 (.ops [⟨some 13, (.mv (.t 0)), none⟩,
 ⟨some 14, (.load true 1 (.t 4)), none⟩,
 ⟨some 15, (.mv (.t 2)), none⟩,
 ⟨some 16, (.call (.f 55) [(.t 13), (.t 14), (.t 15)]), none⟩,
 ⟨some 12, (.mv (.t 16)), none⟩,
 ⟨some 17, (.ext (.t 12) 0), none⟩,
 ⟨some 18, (.ext (.t 12) 1), none⟩,
 ⟨some 19, (.ext (.t 12) 2), none⟩,
 ⟨some 20, (.ext (.t 12) 3), none⟩,
 ⟨some 8, (.mv (.t 17)), none⟩,
 ⟨some 9, (.mv (.t 18)), none⟩,
 ⟨some 10, (.mv (.t 19)), none⟩,
 ⟨some 11, (.mv (.t 20)), none⟩]
 [] [0, 2, 4, 8, 9, 12, 13, 14, 15, 16, 17, 18, 19, 20])
 (.seq
 (.ops [⟨some 21, (.mv (.t 10)), none⟩,
 ⟨some 22, (.un .not (.t 21)), none⟩,
 ⟨some 23, (.mv (.t 22)), none⟩,
 ⟨some 24, (.mv (.t 11)), some (23, true)⟩,
 ⟨some 25, (.bin .eql (.t 24) (.c (.int .i64 (0)))), some (23, true)⟩,
 ⟨some 26, (.pick (.t 23) (.t 25) (.c (.bool false))), none⟩,
 ⟨some 27, (.mv (.t 11)), none⟩,
 ⟨some 6, (.mv (.t 26)), none⟩,
 ⟨some 7, (.mv (.t 27)), none⟩]
 [] [10, 11, 21, 22, 23, 24, 25, 26, 27])
 .ret)))⟩
def loc17 : List Nat := [4, 1000004]
def fg17 : List (Nat × List Nat) := [(2, [10, 11, 21, 22, 23, 24, 25, 26, 27]), (1, [0, 2, 4, 8, 9, 12, 13, 14, 15, 16, 17, 18, 19, 20]), (0, [1, 6, 7])]
theorem comp17 : compFn Try.prog loc17 (fun i => (fg17.lookup i).getD []) Try.f17 = some lit17 := by kernel_rfl

-- parcener/parcenerlaw06.two
def lit18 : AFn := ⟨0, [.tmp 0],
 (.seq
 (.ops [⟨some 0, (.mv (.c .nils)), none⟩]
 [] [0])
 (.seq
 (.ops [⟨some 1, (.buildD 1 (.int .i64 (0)) 2 [(0, (.c (.int .i64 (0)))), (1, (.c (.int .i64 (2))))]), none⟩,
 ⟨some 2, (.buildD 1 (.int .i64 (0)) 1 [(0, (.c (.int .i64 (1))))]), none⟩,
 ⟨some 3, (.build [(.int .i64 (0)), .nils, .nils] [(0, 1, (.c (.int .i64 (2)))), (1, 1, (.t 1)), (2, 1, (.t 2))]), none⟩,
 ⟨some 4, (.buildD 1 (.int .i64 (0)) 3 [(0, (.c (.int .i64 (0)))), (1, (.c (.int .i64 (1)))), (2, (.c (.int .i64 (2))))]), none⟩,
 ⟨some 5, (.buildD 1 (.int .i64 (0)) 2 [(0, (.c (.int .i64 (3)))), (1, (.c (.int .i64 (1))))]), none⟩,
 ⟨some 6, (.build [(.int .i64 (0)), .nils, .nils] [(0, 1, (.c (.int .i64 (2)))), (1, 1, (.t 4)), (2, 1, (.t 5))]), none⟩,
 ⟨some 7, (.buildSl true 3 (.agg [(.int .i64 (0)), (.data []), (.data [])]) 2 [(0, (.t 3)), (1, (.t 6))]), none⟩,
 ⟨some 0, (.mv (.t 7)), none⟩]
 [] [1, 2, 3, 4, 5, 6, 7])
 .ret))⟩
def loc18 : List Nat := [1, 2, 4, 5]
def fg18 : List (Nat × List Nat) := [(1, [1, 2, 3, 4, 5, 6, 7]), (0, [0])]
theorem comp18 : compFn Try.prog loc18 (fun i => (fg18.lookup i).getD []) Try.f18 = some lit18 := by kernel_rfl

-- parcener/parcenerlaw06.against
def lit19 : AFn := ⟨5, [.tmp 10],
 (.seq
 (.ops [⟨some 6, (.boxL (.t 1)), none⟩,
 ⟨some 10, (.mv (.c (.bool false))), none⟩]
 [] [1, 10])
 (.seq
 (.ops [⟨some 17, (.mv (.t 0)), none⟩,
 ⟨some 18, (.load true 1 (.t 6)), none⟩,
 ⟨some 19, (.mv (.t 2)), none⟩,
 ⟨some 20, (.call (.f 22) [(.t 17), (.t 18), (.t 19)]), none⟩,
 ⟨some 16, (.mv (.t 20)), none⟩,
 ⟨some 21, (.ext (.t 16) 0), none⟩,
 ⟨some 22, (.ext (.t 16) 1), none⟩,
 ⟨some 23, (.ext (.t 16) 2), none⟩,
 ⟨some 11, (.mv (.t 21)), none⟩,
 ⟨some 12, (.mv (.t 22)), none⟩,
 ⟨some 13, (.mv (.t 23)), none⟩]
 [] [16, 17, 18, 19, 20, 21, 22, 23])
 (.seq
 (.ops [⟨some 25, (.mv (.t 0)), none⟩,
 ⟨some 26, (.load true 1 (.t 6)), none⟩,
 ⟨some 27, (.mv (.t 2)), none⟩,
 ⟨some 28, (.call (.f 17) [(.t 25), (.t 26), (.t 27)]), none⟩,
 ⟨some 24, (.mv (.t 28)), none⟩,
 ⟨some 29, (.ext (.t 24) 0), none⟩,
 ⟨some 30, (.ext (.t 24) 1), none⟩,
 ⟨some 14, (.mv (.t 29)), none⟩,
 ⟨some 15, (.mv (.t 30)), none⟩]
 [] [0, 2, 6, 24, 25, 26, 27, 28, 29, 30])
 (.seq
 (.ops [⟨some 31, (.mv (.t 13)), none⟩,
 ⟨some 32, (.bin .eql (.t 31) (.c (.int .i64 (0)))), none⟩,
 ⟨some 33, (.mv (.t 32)), none⟩,
 ⟨some 34, (.mv (.t 11)), some (33, true)⟩,
 ⟨some 35, (.mv (.t 3)), some (33, true)⟩,
 ⟨some 36, (.bin .eql (.t 34) (.t 35)), some (33, true)⟩,
 ⟨some 37, (.pick (.t 33) (.t 36) (.c (.bool false))), none⟩,
 ⟨some 38, (.mv (.t 37)), none⟩,
 ⟨some 39, (.mv (.t 12)), some (38, true)⟩,
 ⟨some 40, (.mv (.t 4)), some (38, true)⟩,
 ⟨some 41, (.bin .eql (.t 39) (.t 40)), some (38, true)⟩,
 ⟨some 42, (.pick (.t 38) (.t 41) (.c (.bool false))), none⟩,
 ⟨some 43, (.mv (.t 42)), none⟩,
 ⟨some 44, (.mv (.t 15)), some (43, true)⟩,
 ⟨some 45, (.bin .eql (.t 44) (.c (.int .i64 (0)))), some (43, true)⟩,
 ⟨some 46, (.pick (.t 43) (.t 45) (.c (.bool false))), none⟩,
 ⟨some 47, (.mv (.t 46)), none⟩,
 ⟨some 48, (.mv (.t 14)), some (47, true)⟩,
 ⟨some 49, (.un .not (.t 48)), some (47, true)⟩,
 ⟨some 50, (.pick (.t 47) (.t 49) (.c (.bool false))), none⟩,
 ⟨some 10, (.mv (.t 50)), none⟩]
 [] [3, 4, 11, 12, 13, 14, 15, 31, 32, 33, 34, 35, 36, 37, 38, 39, 40, 41, 42, 43, 44, 45, 46, 47, 48, 49, 50])
 .ret))))⟩
def loc19 : List Nat := [6]
def fg19 : List (Nat × List Nat) := [(3, [3, 4, 11, 12, 13, 14, 15, 31, 32, 33, 34, 35, 36, 37, 38, 39, 40, 41, 42, 43, 44, 45, 46, 47, 48, 49, 50]), (2, [0, 2, 6, 24, 25, 26, 27, 28, 29, 30]), (1, [16, 17, 18, 19, 20, 21, 22, 23]), (0, [1, 10])]
theorem comp19 : compFn Try.prog loc19 (fun i => (fg19.lookup i).getD []) Try.f19 = some lit19 := by kernel_rfl

-- parcener/proof.Make
def lit20 : AFn := ⟨2, [.cell 4 true 2, .tmp 5],
 (.seq
 (.ops [⟨some 3, (.boxL (.t 1)), none⟩,
 ⟨some 4, (.allocL (.agg [(.int .u8 (0)), .nils])), none⟩,
 ⟨some 5, (.mv (.c (.int .i64 (0)))), none⟩]
 [] [1, 5])
 (.seq
 (.ops [⟨some 14, (.mv (.t 0)), none⟩,
 ⟨some 15, (.load true 1 (.t 3)), none⟩,
 ⟨some 16, (.call (.f 56) [(.t 14), (.t 15)]), none⟩,
 ⟨some 13, (.mv (.t 16)), none⟩,
 ⟨some 17, (.ext (.t 13) 0), none⟩,
 ⟨some 18, (.ext (.t 13) 1), none⟩,
 ⟨some 6, (.mv (.t 17)), none⟩,
 ⟨some 7, (.mv (.t 18)), none⟩]
 [] [0, 3, 13, 14, 15, 16, 17, 18])
 (.seq
 (.seq
 (.ops [⟨some 19, (.mv (.t 7)), none⟩,
 ⟨some 20, (.bin .eql (.t 19) (.c (.int .i64 (0)))), none⟩]
 [] [19])
 (.cond (.t 20)
 (.ops [⟨some 21, (.mv (.t 6)), none⟩,
 ⟨some 22, (.call (.f 57) [(.t 21)]), none⟩,
 ⟨some 7, (.mv (.t 22)), none⟩]
 [] [20, 21, 22])
 .skip))
 (.seq
 (.seq
 (.ops [⟨some 23, (.mv (.t 7)), none⟩,
 ⟨some 24, (.bin .neq (.t 23) (.c (.int .i64 (0)))), none⟩]
 [] [20, 23])
 (.cond (.t 24)
 (.seq
 (.ops [⟨some 25, (.build [(.int .u8 (0)), .nils] []), none⟩,
 ⟨some 26, (.mv (.t 7)), none⟩,
 ⟨none, (.store 2 (.t 4) (.t 25)), none⟩,
 ⟨some 5, (.mv (.t 26)), none⟩]
 [] [6, 7, 24, 25, 26])
 .ret)
 .skip))
 (.seq
 (.ops [⟨some 27, (.mv (.t 6)), none⟩,
 ⟨some 28, (.nilchk (.t 27)), none⟩,
 ⟨some 29, (.fad 2 (.t 28)), none⟩,
 ⟨some 30, (.load false 1 (.t 29)), none⟩,
 ⟨some 31, (.build [(.int .u8 (0)), .nils] [(1, 1, (.t 30))]), none⟩,
 ⟨some 8, (.allocL (.agg [(.int .u8 (0)), .nils])), none⟩,
 ⟨none, (.store 2 (.t 8) (.t 31)), none⟩]
 [] [7, 24, 27, 28, 29, 30, 31])
 (.seq
 (.seq
 (.ops [⟨some 32, (.mv (.c (.int .i64 (0)))), none⟩]
 [] [])
 (.block 0
 (.loop
 (.seq
 (.ops [⟨some 33, (.bin .lss (.t 32) (.c (.int .i64 (5)))), none⟩]
 [] [])
 (.seq
 (.cond (.t 33)
 .skip
 (.exit 0))
 (.seq
 (.block 1
 (.seq
 (.ops [⟨some 34, (.mv (.t 32)), none⟩,
 ⟨some 9, (.mv (.t 34)), none⟩]
 [] [33, 34])
 (.seq
 (.ops [⟨some 36, (.mv (.t 6)), none⟩,
 ⟨some 37, (.mv (.t 9)), none⟩,
 ⟨some 38, (.bin .shl (.c (.int .u8 (1))) (.t 37)), none⟩,
 ⟨some 39, (.call (.f 58) [(.t 36), (.t 38)]), none⟩,
 ⟨some 35, (.mv (.t 39)), none⟩,
 ⟨some 40, (.ext (.t 35) 0), none⟩,
 ⟨some 41, (.ext (.t 35) 1), none⟩,
 ⟨some 42, (.ext (.t 35) 2), none⟩,
 ⟨some 10, (.mv (.t 40)), none⟩,
 ⟨some 11, (.mv (.t 41)), none⟩,
 ⟨some 12, (.mv (.t 42)), none⟩]
 [] [10, 11, 35, 36, 37, 38, 39, 40, 41, 42])
 (.seq
 (.ops [⟨some 43, (.mv (.t 12)), none⟩,
 ⟨some 44, (.un .not (.t 43)), none⟩]
 [] [12, 43])
 (.cond (.t 44)
 (.ops [⟨some 45, (.fad 0 (.t 8)), none⟩,
 ⟨some 46, (.load false 1 (.t 45)), none⟩,
 ⟨some 47, (.mv (.t 9)), none⟩,
 ⟨some 48, (.bin .shl (.c (.int .u8 (1))) (.t 47)), none⟩,
 ⟨some 49, (.bin .or (.t 46) (.t 48)), none⟩,
 ⟨some 50, (.fad 0 (.t 8)), none⟩,
 ⟨none, (.store 1 (.t 50) (.t 49)), none⟩]
 [(0, 2), (1, 2), (0, 3), (1, 3)] [9, 44, 45, 46, 47, 48, 49, 50])
 .skip)))))
 (.ops [⟨some 51, (.bin .add (.t 32) (.c (.int .i64 (1)))), none⟩,
 ⟨some 32, (.mv (.t 51)), none⟩]
 [] [9, 44, 51])))))))
 (.seq
 (.ops [⟨some 52, (.load true 2 (.t 8)), none⟩,
 ⟨none, (.store 2 (.t 4) (.t 52)), none⟩,
 ⟨some 5, (.mv (.c (.int .i64 (0)))), none⟩]
 [] [6, 8, 32, 33, 52])
 .ret)))))))⟩
def loc20 : List Nat := [3, 4, 8, 1000003, 1000004, 1000008]
def fg20 : List (Nat × List Nat) := [(14, [6, 8, 32, 33, 52]), (13, [9, 44, 51]), (12, [9, 44, 45, 46, 47, 48, 49, 50]), (11, [12, 43]), (10, [10, 11, 35, 36, 37, 38, 39, 40, 41, 42]), (9, [33, 34]), (6, [7, 24, 27, 28, 29, 30, 31]), (5, [6, 7, 24, 25, 26]), (4, [20, 23]), (3, [20, 21, 22]), (2, [19]), (1, [0, 3, 13, 14, 15, 16, 17, 18]), (0, [1, 5])]
theorem comp20 : compFn Try.prog loc20 (fun i => (fg20.lookup i).getD []) Try.f20 = some lit20 := by kernel_rfl

-- parcener/proof.Accept
def lit21 : AFn := ⟨3, [.tmp 6, .tmp 7],
 (.seq
 (.ops [⟨some 4, (.boxL (.t 1)), none⟩,
 ⟨some 5, (.boxL (.t 2)), none⟩,
 ⟨some 6, (.mv (.c (.bool false))), none⟩,
 ⟨some 7, (.mv (.c (.int .i64 (0)))), none⟩]
 [] [1, 2, 6, 7])
 (.seq
 (.ops [⟨some 16, (.mv (.t 0)), none⟩,
 ⟨some 17, (.load true 1 (.t 4)), none⟩,
 ⟨some 18, (.call (.f 56) [(.t 16), (.t 17)]), none⟩,
 ⟨some 15, (.mv (.t 18)), none⟩,
 ⟨some 19, (.ext (.t 15) 0), none⟩,
 ⟨some 20, (.ext (.t 15) 1), none⟩,
 ⟨some 8, (.mv (.t 19)), none⟩,
 ⟨some 9, (.mv (.t 20)), none⟩]
 [] [0, 4, 15, 16, 17, 18, 19, 20])
 (.seq
 (.seq
 (.ops [⟨some 21, (.mv (.t 9)), none⟩,
 ⟨some 22, (.bin .neq (.t 21) (.c (.int .i64 (0)))), none⟩]
 [] [21])
 (.cond (.t 22)
 (.seq
 (.ops [⟨some 23, (.mv (.t 9)), none⟩,
 ⟨some 6, (.mv (.c (.bool false))), none⟩,
 ⟨some 7, (.mv (.t 23)), none⟩]
 [] [5, 8, 9, 22, 23])
 .ret)
 .skip))
 (.seq
 (.seq
 (.ops [⟨some 24, (.fad 0 (.t 5)), none⟩,
 ⟨some 25, (.load false 1 (.t 24)), none⟩,
 ⟨some 26, (.bin .geq (.t 25) (.c (.int .u8 (32)))), none⟩,
 ⟨some 27, (.mv (.t 26)), none⟩,
 ⟨some 28, (.mv (.t 8)), some (27, false)⟩,
 ⟨some 29, (.nilchk (.t 28)), some (27, false)⟩,
 ⟨some 30, (.fad 2 (.t 29)), some (27, false)⟩,
 ⟨some 31, (.load false 1 (.t 30)), some (27, false)⟩,
 ⟨some 32, (.fad 1 (.t 5)), some (27, false)⟩,
 ⟨some 33, (.load false 1 (.t 32)), some (27, false)⟩,
 ⟨some 34, (.call (.f 59) [(.t 31), (.t 33), (.f 60)]), some (27, false)⟩,
 ⟨some 35, (.un .not (.t 34)), some (27, false)⟩,
 ⟨some 36, (.pick (.t 27) (.c (.bool true)) (.t 35)), none⟩]
 [(4, 8), (5, 8), (6, 8), (7, 8), (4, 9), (5, 9), (6, 9), (7, 9)] [9, 22, 24, 25, 26, 27, 28, 29, 30, 31, 32, 33, 34, 35])
 (.cond (.t 36)
 (.seq
 (.ops [⟨some 6, (.mv (.c (.bool false))), none⟩,
 ⟨some 7, (.mv (.c (.int .i64 (0)))), none⟩]
 [] [5, 8, 36])
 .ret)
 .skip))
 (.seq
 (.seq
 (.ops [⟨some 37, (.fad 0 (.t 5)), none⟩,
 ⟨some 38, (.load false 1 (.t 37)), none⟩,
 ⟨some 39, (.bin .and (.t 38) (.c (.int .u8 (8)))), none⟩,
 ⟨some 40, (.bin .neq (.t 39) (.c (.int .u8 (0)))), none⟩]
 [] [36, 37, 38, 39])
 (.cond (.t 40)
 (.seq
 (.ops [⟨some 41, (.mv (.t 8)), none⟩,
 ⟨some 42, (.call (.f 57) [(.t 41)]), none⟩,
 ⟨some 10, (.mv (.t 42)), none⟩]
 [] [40, 41, 42])
 (.seq
 (.ops [⟨some 43, (.mv (.t 10)), none⟩,
 ⟨some 44, (.bin .neq (.t 43) (.c (.int .i64 (0)))), none⟩]
 [] [43])
 (.cond (.t 44)
 (.seq
 (.ops [⟨some 45, (.mv (.t 10)), none⟩,
 ⟨some 6, (.mv (.c (.bool false))), none⟩,
 ⟨some 7, (.mv (.t 45)), none⟩]
 [] [5, 8, 10, 44, 45])
 .ret)
 .skip)))
 .skip))
 (.seq
 (.seq
 (.ops [⟨some 46, (.mv (.c (.int .i64 (0)))), none⟩]
 [] [10, 40, 44])
 (.block 0
 (.loop
 (.seq
 (.ops [⟨some 47, (.bin .lss (.t 46) (.c (.int .i64 (5)))), none⟩]
 [] [])
 (.seq
 (.cond (.t 47)
 .skip
 (.exit 0))
 (.seq
 (.block 1
 (.seq
 (.ops [⟨some 48, (.mv (.t 46)), none⟩,
 ⟨some 11, (.mv (.t 48)), none⟩]
 [] [47, 48])
 (.seq
 (.seq
 (.ops [⟨some 49, (.fad 0 (.t 5)), none⟩,
 ⟨some 50, (.load false 1 (.t 49)), none⟩,
 ⟨some 51, (.mv (.t 11)), none⟩,
 ⟨some 52, (.bin .shr (.t 50) (.t 51)), none⟩,
 ⟨some 53, (.bin .and (.t 52) (.c (.int .u8 (1)))), none⟩,
 ⟨some 54, (.bin .eql (.t 53) (.c (.int .u8 (0)))), none⟩]
 [] [49, 50, 51, 52, 53])
 (.cond (.t 54)
 (.exit 1)
 .skip))
 (.seq
 (.ops [⟨some 56, (.mv (.t 8)), none⟩,
 ⟨some 57, (.mv (.t 11)), none⟩,
 ⟨some 58, (.bin .shl (.c (.int .u8 (1))) (.t 57)), none⟩,
 ⟨some 59, (.call (.f 58) [(.t 56), (.t 58)]), none⟩,
 ⟨some 55, (.mv (.t 59)), none⟩,
 ⟨some 60, (.ext (.t 55) 0), none⟩,
 ⟨some 61, (.ext (.t 55) 1), none⟩,
 ⟨some 62, (.ext (.t 55) 2), none⟩,
 ⟨some 12, (.mv (.t 60)), none⟩,
 ⟨some 13, (.mv (.t 61)), none⟩,
 ⟨some 14, (.mv (.t 62)), none⟩]
 [] [11, 12, 13, 54, 55, 56, 57, 58, 59, 60, 61, 62])
 (.seq
 (.ops [⟨some 63, (.mv (.t 14)), none⟩]
 [] [14])
 (.cond (.t 63)
 (.seq
 (.ops [⟨some 6, (.mv (.c (.bool false))), none⟩,
 ⟨some 7, (.mv (.c (.int .i64 (0)))), none⟩]
 [] [5, 8, 46, 63])
 .ret)
 .skip))))))
 (.ops [⟨some 64, (.bin .add (.t 46) (.c (.int .i64 (1)))), none⟩,
 ⟨some 46, (.mv (.t 64)), none⟩]
 [] [11, 54, 63, 64])))))))
 (.seq
 (.ops [⟨some 6, (.mv (.c (.bool true))), none⟩,
 ⟨some 7, (.mv (.c (.int .i64 (0)))), none⟩]
 [] [5, 8, 46, 47])
 .ret)))))))⟩
def loc21 : List Nat := [4, 5, 1000004, 1000005]
def fg21 : List (Nat × List Nat) := [(18, [5, 8, 46, 47]), (17, [11, 54, 63, 64]), (16, [5, 8, 46, 63]), (15, [14]), (14, [11, 12, 13, 54, 55, 56, 57, 58, 59, 60, 61, 62]), (13, [49, 50, 51, 52, 53]), (12, [47, 48]), (10, [10, 40, 44]), (9, [5, 8, 10, 44, 45]), (8, [43]), (7, [40, 41, 42]), (6, [36, 37, 38, 39]), (5, [5, 8, 36]), (4, [9, 22, 24, 25, 26, 27, 28, 29, 30, 31, 32, 33, 34, 35]), (3, [5, 8, 9, 22, 23]), (2, [21]), (1, [0, 4, 15, 16, 17, 18, 19, 20]), (0, [1, 2, 6, 7])]
theorem comp21 : compFn Try.prog loc21 (fun i => (fg21.lookup i).getD []) Try.f21 = some lit21 := by kernel_rfl

-- parcener/proof.Witness
def lit22 : AFn := ⟨3, [.tmp 6, .tmp 7, .tmp 8],
 (.seq
 (.ops [⟨some 4, (.boxL (.t 1)), none⟩,
 ⟨some 6, (.mv (.c (.int .i64 (0)))), none⟩,
 ⟨some 7, (.mv (.c (.int .i64 (0)))), none⟩,
 ⟨some 8, (.mv (.c (.int .i64 (0)))), none⟩]
 [] [1, 6, 7, 8])
 (.seq
 (.ops [⟨some 11, (.mv (.t 0)), none⟩,
 ⟨some 12, (.load true 1 (.t 4)), none⟩,
 ⟨some 13, (.mv (.t 2)), none⟩,
 ⟨some 14, (.call (.f 55) [(.t 11), (.t 12), (.t 13)]), none⟩,
 ⟨some 10, (.mv (.t 14)), none⟩,
 ⟨some 15, (.ext (.t 10) 0), none⟩,
 ⟨some 16, (.ext (.t 10) 1), none⟩,
 ⟨some 17, (.ext (.t 10) 2), none⟩,
 ⟨some 18, (.ext (.t 10) 3), none⟩,
 ⟨some 6, (.mv (.t 15)), none⟩,
 ⟨some 7, (.mv (.t 16)), none⟩,
 ⟨some 9, (.mv (.t 17)), none⟩,
 ⟨some 8, (.mv (.t 18)), none⟩]
 [] [0, 2, 4, 10, 11, 12, 13, 14, 15, 16, 17, 18])
 (.seq
 (.seq
 (.ops [⟨some 19, (.mv (.t 8)), none⟩,
 ⟨some 20, (.bin .eql (.t 19) (.c (.int .i64 (0)))), none⟩,
 ⟨some 21, (.mv (.t 20)), none⟩,
 ⟨some 22, (.mv (.t 9)), some (21, true)⟩,
 ⟨some 23, (.un .not (.t 22)), some (21, true)⟩,
 ⟨some 24, (.pick (.t 21) (.t 23) (.c (.bool false))), none⟩]
 [] [9, 19, 20, 21, 22, 23])
 (.cond (.t 24)
 (.seq
 (.ops [⟨some 6, (.mv (.c (.int .i64 (0)))), none⟩,
 ⟨some 7, (.mv (.c (.int .i64 (0)))), none⟩,
 ⟨some 8, (.mv (.c (.int .i64 (6)))), none⟩]
 [] [24])
 .ret)
 .skip))
 (.seq
 (.ops [⟨some 25, (.mv (.t 6)), none⟩,
 ⟨some 26, (.mv (.t 7)), none⟩,
 ⟨some 27, (.mv (.t 8)), none⟩,
 ⟨some 6, (.mv (.t 25)), none⟩,
 ⟨some 7, (.mv (.t 26)), none⟩,
 ⟨some 8, (.mv (.t 27)), none⟩]
 [] [24, 25, 26, 27])
 .ret))))⟩
def loc22 : List Nat := [4, 1000004]
def fg22 : List (Nat × List Nat) := [(4, [24, 25, 26, 27]), (3, [24]), (2, [9, 19, 20, 21, 22, 23]), (1, [0, 2, 4, 10, 11, 12, 13, 14, 15, 16, 17, 18]), (0, [1, 6, 7, 8])]
theorem comp22 : compFn Try.prog loc22 (fun i => (fg22.lookup i).getD []) Try.f22 = some lit22 := by kernel_rfl

-- parcener/proof.Worth
def lit23 : AFn := ⟨2, [.tmp 4, .tmp 5],
 (.seq
 (.ops [⟨some 3, (.boxL (.t 1)), none⟩,
 ⟨some 4, (.mv (.c .nils)), none⟩,
 ⟨some 5, (.mv (.c (.int .i64 (0)))), none⟩]
 [] [1, 4, 5])
 (.seq
 (.seq
 (.ops [⟨some 14, (.mv (.t 0)), none⟩,
 ⟨some 15, (.load true 1 (.t 3)), none⟩,
 ⟨some 16, (.call (.f 61) [(.t 14), (.t 15)]), none⟩,
 ⟨some 6, (.mv (.t 16)), none⟩]
 [] [14, 15, 16])
 (.seq
 (.ops [⟨some 17, (.mv (.t 6)), none⟩,
 ⟨some 18, (.bin .neq (.t 17) (.c (.int .i64 (0)))), none⟩]
 [] [17])
 (.cond (.t 18)
 (.seq
 (.ops [⟨some 19, (.mv (.t 6)), none⟩,
 ⟨some 4, (.mv (.c .nils)), none⟩,
 ⟨some 5, (.mv (.t 19)), none⟩]
 [] [0, 3, 6, 18, 19])
 .ret)
 .skip)))
 (.seq
 (.ops [⟨some 20, (.mv (.t 0)), none⟩,
 ⟨some 21, (.len (.t 20)), none⟩,
 ⟨some 22, (.mkSl false 1 24 .nils (.t 21) (.t 21)), none⟩,
 ⟨some 7, (.mv (.t 22)), none⟩]
 [] [6, 18, 20, 21, 22])
 (.seq
 (.seq
 (.ops [⟨some 23, (.mv (.t 0)), none⟩,
 ⟨some 24, (.len (.t 23)), none⟩,
 ⟨some 25, (.mv (.c (.int .i64 (0)))), none⟩]
 [] [0])
 (.block 0
 (.loop
 (.seq
 (.ops [⟨some 26, (.bin .lss (.t 25) (.t 24)), none⟩]
 [] [])
 (.seq
 (.cond (.t 26)
 .skip
 (.exit 0))
 (.seq
 (.block 1
 (.seq
 (.ops [⟨some 27, (.mv (.t 25)), none⟩,
 ⟨some 28, (.iad 3 (.t 23) (.t 25)), none⟩,
 ⟨some 29, (.load true 3 (.t 28)), none⟩,
 ⟨some 9, (.allocL (.agg [(.int .i64 (0)), .nils, .nils])), none⟩,
 ⟨some 8, (.mv (.t 27)), none⟩,
 ⟨none, (.store 3 (.t 9) (.t 29)), none⟩]
 [] [26, 27, 28, 29])
 (.seq
 (.ops [⟨some 30, (.fad 0 (.t 3)), none⟩,
 ⟨some 31, (.load false 1 (.t 30)), none⟩,
 ⟨some 32, (.len (.t 31)), none⟩,
 ⟨some 33, (.mv (.c (.int .i64 (0)))), none⟩]
 [] [30])
 (.block 2
 (.loop
 (.seq
 (.ops [⟨some 34, (.bin .lss (.t 33) (.t 32)), none⟩]
 [] [])
 (.seq
 (.cond (.t 34)
 .skip
 (.exit 2))
 (.seq
 (.block 3
 (.seq
 (.ops [⟨some 35, (.iad 1 (.t 31) (.t 33)), none⟩,
 ⟨some 36, (.load false 1 (.t 35)), none⟩,
 ⟨some 11, (.mv (.t 36)), none⟩]
 [] [34, 35, 36])
 (.seq
 (.ops [⟨some 38, (.load true 3 (.t 9)), none⟩,
 ⟨some 39, (.mv (.t 11)), none⟩,
 ⟨some 40, (.call (.f 62) [(.t 38), (.t 39)]), none⟩,
 ⟨some 37, (.mv (.t 40)), none⟩,
 ⟨some 41, (.ext (.t 37) 0), none⟩,
 ⟨some 42, (.ext (.t 37) 1), none⟩,
 ⟨some 12, (.allocL (.agg [(.int .i64 (0)), (.int .i64 (0))])), none⟩,
 ⟨none, (.store 2 (.t 12) (.t 41)), none⟩,
 ⟨some 13, (.mv (.t 42)), none⟩]
 [] [11, 37, 38, 39, 40, 41, 42])
 (.seq
 (.seq
 (.ops [⟨some 43, (.mv (.t 13)), none⟩,
 ⟨some 44, (.bin .neq (.t 43) (.c (.int .i64 (0)))), none⟩]
 [] [43])
 (.cond (.t 44)
 (.seq
 (.ops [⟨some 45, (.mv (.t 13)), none⟩,
 ⟨some 4, (.mv (.c .nils)), none⟩,
 ⟨some 5, (.mv (.t 45)), none⟩]
 [] [3, 7, 8, 9, 12, 13, 23, 24, 25, 31, 32, 33, 44, 45])
 .ret)
 .skip))
 (.ops [⟨some 46, (.mv (.t 7)), none⟩,
 ⟨some 47, (.mv (.t 8)), none⟩,
 ⟨some 48, (.mv (.t 7)), none⟩,
 ⟨some 49, (.mv (.t 8)), none⟩,
 ⟨some 50, (.iad 1 (.t 48) (.t 49)), none⟩,
 ⟨some 51, (.load false 1 (.t 50)), none⟩,
 ⟨some 52, (.load true 2 (.t 12)), none⟩,
 ⟨some 53, (.buildD 2 (.agg [(.int .i64 (0)), (.int .i64 (0))]) 1 [(0, (.t 52))]), none⟩,
 ⟨some 54, (.app true 2 16 (.t 51) (.t 53)), none⟩,
 ⟨some 55, (.iad 1 (.t 46) (.t 47)), none⟩,
 ⟨none, (.store 1 (.t 55) (.t 54)), none⟩]
 [(0, 1), (0, 2), (1, 2), (0, 3), (1, 3), (2, 3), (0, 4), (1, 4), (0, 5), (1, 5), (0, 6), (1, 6), (2, 6), (3, 6), (4, 6), (5, 6), (0, 7), (1, 7), (2, 7), (3, 7), (4, 7), (5, 7), (0, 8), (1, 8)] [12, 13, 44, 46, 47, 48, 49, 50, 51, 52, 53, 54, 55])))))
 (.ops [⟨some 56, (.bin .add (.t 33) (.c (.int .i64 (1)))), none⟩,
 ⟨some 33, (.mv (.t 56)), none⟩]
 [] [56])))))))))
 (.ops [⟨some 57, (.bin .add (.t 25) (.c (.int .i64 (1)))), none⟩,
 ⟨some 25, (.mv (.t 57)), none⟩]
 [] [8, 9, 31, 32, 33, 34, 57])))))))
 (.seq
 (.ops [⟨some 58, (.mv (.t 7)), none⟩,
 ⟨some 4, (.mv (.t 58)), none⟩,
 ⟨some 5, (.mv (.c (.int .i64 (0)))), none⟩]
 [] [3, 7, 23, 24, 25, 26, 58])
 .ret)))))⟩
def loc23 : List Nat := [53, 3, 9, 12, 1000003, 1000022, 1000009, 1000012]
def fg23 : List (Nat × List Nat) := [(17, [3, 7, 23, 24, 25, 26, 58]), (16, [8, 9, 31, 32, 33, 34, 57]), (15, [56]), (14, [12, 13, 44, 46, 47, 48, 49, 50, 51, 52, 53, 54, 55]), (13, [3, 7, 8, 9, 12, 13, 23, 24, 25, 31, 32, 33, 44, 45]), (12, [43]), (11, [11, 37, 38, 39, 40, 41, 42]), (10, [34, 35, 36]), (8, [30]), (7, [26, 27, 28, 29]), (5, [0]), (4, [6, 18, 20, 21, 22]), (3, [0, 3, 6, 18, 19]), (2, [17]), (1, [14, 15, 16]), (0, [1, 4, 5])]
theorem comp23 : compFn Try.prog loc23 (fun i => (fg23.lookup i).getD []) Try.f23 = some lit23 := by kernel_rfl

-- parcener/parcenerlaw06.alive
def lit24 : AFn := ⟨0, [.tmp 0],
 (.seq
 (.ops [⟨some 0, (.mv (.c (.bool false))), none⟩]
 [] [0])
 (.seq
 (.ops [⟨some 11, (.call (.f 15) [(.c (.int .i64 (0))), (.c (.int .i64 (1)))]), none⟩,
 ⟨some 12, (.call (.f 15) [(.c (.int .i64 (1))), (.c (.int .i64 (2)))]), none⟩,
 ⟨some 13, (.buildD 4 (.agg [(.int .i64 (0)), (.int .i64 (0)), (.int .i64 (0)), (.int .i64 (0))]) 2 [(0, (.t 11)), (1, (.t 12))]), none⟩,
 ⟨some 14, (.call (.f 14) [(.t 13)]), none⟩,
 ⟨some 15, (.call (.f 15) [(.c (.int .i64 (1))), (.c (.int .i64 (2)))]), none⟩,
 ⟨some 16, (.call (.f 15) [(.c (.int .i64 (0))), (.c (.int .i64 (1)))]), none⟩,
 ⟨some 17, (.buildD 4 (.agg [(.int .i64 (0)), (.int .i64 (0)), (.int .i64 (0)), (.int .i64 (0))]) 2 [(0, (.t 15)), (1, (.t 16))]), none⟩,
 ⟨some 18, (.call (.f 14) [(.t 17)]), none⟩,
 ⟨some 1, (.allocL (.agg [.nils])), none⟩,
 ⟨some 2, (.allocL (.agg [.nils])), none⟩,
 ⟨none, (.store 1 (.t 1) (.t 14)), none⟩,
 ⟨none, (.store 1 (.t 2) (.t 18)), none⟩]
 [] [11, 12, 13, 14, 15, 16, 17, 18])
 (.seq
 (.ops [⟨some 20, (.call (.f 18) []), none⟩,
 ⟨some 21, (.load true 1 (.t 1)), none⟩,
 ⟨some 22, (.call (.f 23) [(.t 20), (.t 21)]), none⟩,
 ⟨some 19, (.mv (.t 22)), none⟩,
 ⟨some 23, (.ext (.t 19) 0), none⟩,
 ⟨some 24, (.ext (.t 19) 1), none⟩,
 ⟨some 3, (.mv (.t 23)), none⟩,
 ⟨some 4, (.mv (.t 24)), none⟩]
 [(0, 1), (4, 5), (5, 6)] [19, 20, 21, 22, 23, 24])
 (.seq
 (.ops [⟨some 26, (.call (.f 18) []), none⟩,
 ⟨some 27, (.load true 1 (.t 1)), none⟩,
 ⟨some 28, (.call (.f 20) [(.t 26), (.t 27)]), none⟩,
 ⟨some 25, (.mv (.t 28)), none⟩,
 ⟨some 29, (.ext (.t 25) 0), none⟩,
 ⟨some 30, (.ext (.t 25) 1), none⟩,
 ⟨some 5, (.allocL (.agg [(.int .u8 (0)), .nils])), none⟩,
 ⟨none, (.store 2 (.t 5) (.t 29)), none⟩,
 ⟨some 6, (.mv (.t 30)), none⟩]
 [(0, 1), (4, 5), (0, 6), (1, 6), (2, 6), (3, 6), (4, 6), (5, 6), (5, 7)] [25, 26, 27, 28, 29, 30])
 (.seq
 (.ops [⟨some 32, (.call (.f 18) []), none⟩,
 ⟨some 33, (.load true 1 (.t 2)), none⟩,
 ⟨some 34, (.call (.f 20) [(.t 32), (.t 33)]), none⟩,
 ⟨some 31, (.mv (.t 34)), none⟩,
 ⟨some 35, (.ext (.t 31) 0), none⟩,
 ⟨some 36, (.ext (.t 31) 1), none⟩,
 ⟨some 7, (.allocL (.agg [(.int .u8 (0)), .nils])), none⟩,
 ⟨none, (.store 2 (.t 7) (.t 35)), none⟩,
 ⟨some 8, (.mv (.t 36)), none⟩]
 [(0, 1), (4, 5), (0, 6), (1, 6), (2, 6), (3, 6), (4, 6), (5, 6), (5, 7)] [2, 31, 32, 33, 34, 35, 36])
 (.seq
 (.ops [⟨some 37, (.call (.f 16) [(.c (.int .i64 (1)))]), none⟩,
 ⟨some 38, (.call (.f 16) [(.c (.int .i64 (3)))]), none⟩,
 ⟨some 9, (.allocL (.agg [(.int .i64 (0)), (.int .i64 (0))])), none⟩,
 ⟨some 10, (.allocL (.agg [(.int .i64 (0)), (.int .i64 (0))])), none⟩,
 ⟨none, (.store 2 (.t 9) (.t 37)), none⟩,
 ⟨none, (.store 2 (.t 10) (.t 38)), none⟩]
 [] [37, 38])
 (.seq
 (.ops [⟨some 39, (.mv (.t 4)), none⟩,
 ⟨some 40, (.bin .eql (.t 39) (.c (.int .i64 (0)))), none⟩,
 ⟨some 41, (.mv (.t 40)), none⟩,
 ⟨some 42, (.mv (.t 3)), some (41, true)⟩,
 ⟨some 43, (.load true 2 (.t 9)), some (41, true)⟩,
 ⟨some 44, (.load true 2 (.t 9)), some (41, true)⟩,
 ⟨some 45, (.buildD 2 (.agg [(.int .i64 (0)), (.int .i64 (0))]) 2 [(0, (.t 43)), (1, (.t 44))]), some (41, true)⟩,
 ⟨some 46, (.load true 2 (.t 10)), some (41, true)⟩,
 ⟨some 47, (.load true 2 (.t 9)), some (41, true)⟩,
 ⟨some 48, (.buildD 2 (.agg [(.int .i64 (0)), (.int .i64 (0))]) 2 [(0, (.t 46)), (1, (.t 47))]), some (41, true)⟩,
 ⟨some 49, (.buildD 1 (.data []) 2 [(0, (.t 45)), (1, (.t 48))]), some (41, true)⟩,
 ⟨some 50, (.call (.f 63) [(.t 42), (.t 49)]), some (41, true)⟩,
 ⟨some 51, (.pick (.t 41) (.t 50) (.c (.bool false))), none⟩,
 ⟨some 52, (.mv (.t 51)), none⟩,
 ⟨some 53, (.mv (.t 6)), some (52, true)⟩,
 ⟨some 54, (.bin .eql (.t 53) (.c (.int .i64 (0)))), some (52, true)⟩,
 ⟨some 55, (.pick (.t 52) (.t 54) (.c (.bool false))), none⟩,
 ⟨some 56, (.mv (.t 55)), none⟩,
 ⟨some 57, (.fad 0 (.t 5)), some (56, true)⟩,
 ⟨some 58, (.load false 1 (.t 57)), some (56, true)⟩,
 ⟨some 59, (.bin .eql (.t 58) (.c (.int .u8 (17)))), some (56, true)⟩,
 ⟨some 60, (.pick (.t 56) (.t 59) (.c (.bool false))), none⟩,
 ⟨some 61, (.mv (.t 60)), none⟩,
 ⟨some 62, (.mv (.t 8)), some (61, true)⟩,
 ⟨some 63, (.bin .eql (.t 62) (.c (.int .i64 (0)))), some (61, true)⟩,
 ⟨some 64, (.pick (.t 61) (.t 63) (.c (.bool false))), none⟩,
 ⟨some 65, (.mv (.t 64)), none⟩,
 ⟨some 66, (.fad 0 (.t 7)), some (65, true)⟩,
 ⟨some 67, (.load false 1 (.t 66)), some (65, true)⟩,
 ⟨some 68, (.bin .eql (.t 67) (.c (.int .u8 (23)))), some (65, true)⟩,
 ⟨some 69, (.pick (.t 65) (.t 68) (.c (.bool false))), none⟩,
 ⟨some 70, (.mv (.t 69)), none⟩,
 ⟨some 71, (.call (.f 18) []), some (70, true)⟩,
 ⟨some 72, (.load true 1 (.t 1)), some (70, true)⟩,
 ⟨some 73, (.call (.f 19) [(.t 71), (.t 72), (.c (.int .u8 (2))), (.c (.int .i64 (1))), (.c (.int .i64 (1)))]), some (70, true)⟩,
 ⟨some 74, (.pick (.t 70) (.t 73) (.c (.bool false))), none⟩,
 ⟨some 75, (.mv (.t 74)), none⟩,
 ⟨some 76, (.call (.f 18) []), some (75, true)⟩,
 ⟨some 77, (.load true 1 (.t 1)), some (75, true)⟩,
 ⟨some 78, (.call (.f 19) [(.t 76), (.t 77), (.c (.int .u8 (4))), (.c (.int .i64 (1))), (.c (.int .i64 (0)))]), some (75, true)⟩,
 ⟨some 79, (.pick (.t 75) (.t 78) (.c (.bool false))), none⟩,
 ⟨some 80, (.mv (.t 79)), none⟩,
 ⟨some 81, (.call (.f 18) []), some (80, true)⟩,
 ⟨some 82, (.load true 1 (.t 1)), some (80, true)⟩,
 ⟨some 83, (.call (.f 19) [(.t 81), (.t 82), (.c (.int .u8 (8))), (.c (.int .i64 (1))), (.c (.int .i64 (0)))]), some (80, true)⟩,
 ⟨some 84, (.pick (.t 80) (.t 83) (.c (.bool false))), none⟩,
 ⟨some 0, (.mv (.t 84)), none⟩]
 [(3, 4), (3, 5), (4, 5), (3, 6), (3, 7), (4, 7), (5, 7), (6, 7), (3, 8), (4, 8), (5, 8), (6, 8), (7, 8), (3, 9), (4, 9), (5, 9), (6, 9), (3, 10), (32, 33), (37, 38), (42, 43)] [1, 3, 4, 5, 6, 7, 8, 9, 10, 39, 40, 41, 42, 43, 44, 45, 46, 47, 48, 49, 50, 51, 52, 53, 54, 55, 56, 57, 58, 59, 60, 61, 62, 63, 64, 65, 66, 67, 68, 69, 70, 71, 72, 73, 74, 75, 76, 77, 78, 79, 80, 81, 82, 83, 84])
 .ret)))))))⟩
def loc24 : List Nat := [13, 17, 45, 48, 49, 1, 2, 5, 7, 9, 10]
def fg24 : List (Nat × List Nat) := [(6, [1, 3, 4, 5, 6, 7, 8, 9, 10, 39, 40, 41, 42, 43, 44, 45, 46, 47, 48, 49, 50, 51, 52, 53, 54, 55, 56, 57, 58, 59, 60, 61, 62, 63, 64, 65, 66, 67, 68, 69, 70, 71, 72, 73, 74, 75, 76, 77, 78, 79, 80, 81, 82, 83, 84]), (5, [37, 38]), (4, [2, 31, 32, 33, 34, 35, 36]), (3, [25, 26, 27, 28, 29, 30]), (2, [19, 20, 21, 22, 23, 24]), (1, [11, 12, 13, 14, 15, 16, 17, 18]), (0, [0])]
theorem comp24 : compFn Try.prog loc24 (fun i => (fg24.lookup i).getD []) Try.f24 = some lit24 := by kernel_rfl

-- parcener/ask.Check
def lit33 : AFn := ⟨1, [.tmp 2],
 (.seq
 (.ops [⟨some 1, (.boxL (.t 0)), none⟩,
 ⟨some 2, (.mv (.c (.int .i64 (0)))), none⟩]
 [] [0, 2])
 (.seq
 (.seq
 (.ops [⟨some 8, (.fad 0 (.t 1)), none⟩,
 ⟨some 9, (.load false 1 (.t 8)), none⟩,
 ⟨some 10, (.len (.t 9)), none⟩,
 ⟨some 11, (.bin .gtr (.t 10) (.c (.int .i64 (6)))), none⟩,
 ⟨some 12, (.mv (.t 11)), none⟩,
 ⟨some 13, (.fad 1 (.t 1)), some (12, false)⟩,
 ⟨some 14, (.load false 1 (.t 13)), some (12, false)⟩,
 ⟨some 15, (.len (.t 14)), some (12, false)⟩,
 ⟨some 16, (.bin .gtr (.t 15) (.c (.int .i64 (2000)))), some (12, false)⟩,
 ⟨some 17, (.pick (.t 12) (.c (.bool true)) (.t 16)), none⟩]
 [] [8, 9, 10, 11, 12, 13, 14, 15, 16])
 (.cond (.t 17)
 (.seq
 (.ops [⟨some 2, (.mv (.c (.int .i64 (4)))), none⟩]
 [] [1, 17])
 .ret)
 .skip))
 (.seq
 (.seq
 (.ops [⟨some 18, (.fad 0 (.t 1)), none⟩,
 ⟨some 19, (.load false 1 (.t 18)), none⟩,
 ⟨some 20, (.len (.t 19)), none⟩,
 ⟨some 21, (.bin .eql (.t 20) (.c (.int .i64 (0)))), none⟩]
 [] [17, 18, 19, 20])
 (.cond (.t 21)
 (.seq
 (.ops [⟨some 2, (.mv (.c (.int .i64 (8)))), none⟩]
 [] [1, 21])
 .ret)
 .skip))
 (.seq
 (.seq
 (.ops [⟨some 22, (.fad 0 (.t 1)), none⟩,
 ⟨some 23, (.load false 1 (.t 22)), none⟩,
 ⟨some 24, (.len (.t 23)), none⟩,
 ⟨some 25, (.mv (.c (.int .i64 (0)))), none⟩]
 [] [21, 22])
 (.block 0
 (.loop
 (.seq
 (.ops [⟨some 26, (.bin .lss (.t 25) (.t 24)), none⟩]
 [] [])
 (.seq
 (.cond (.t 26)
 .skip
 (.exit 0))
 (.seq
 (.block 1
 (.seq
 (.ops [⟨some 27, (.iad 3 (.t 23) (.t 25)), none⟩,
 ⟨some 28, (.load true 3 (.t 27)), none⟩,
 ⟨some 4, (.allocL (.agg [(.int .i64 (0)), .nils, .nils])), none⟩,
 ⟨none, (.store 3 (.t 4) (.t 28)), none⟩]
 [] [26, 27, 28])
 (.seq
 (.ops [⟨some 29, (.load true 3 (.t 4)), none⟩,
 ⟨some 30, (.call (.f 43) [(.t 29)]), none⟩,
 ⟨some 5, (.mv (.t 30)), none⟩]
 [] [4, 29, 30])
 (.seq
 (.ops [⟨some 31, (.mv (.t 5)), none⟩,
 ⟨some 32, (.bin .neq (.t 31) (.c (.int .i64 (0)))), none⟩]
 [] [31])
 (.cond (.t 32)
 (.seq
 (.ops [⟨some 33, (.mv (.t 5)), none⟩,
 ⟨some 2, (.mv (.t 33)), none⟩]
 [] [1, 5, 23, 24, 25, 32, 33])
 .ret)
 .skip)))))
 (.ops [⟨some 34, (.bin .add (.t 25) (.c (.int .i64 (1)))), none⟩,
 ⟨some 25, (.mv (.t 34)), none⟩]
 [] [5, 32, 34])))))))
 (.seq
 (.seq
 (.ops [⟨some 35, (.fad 0 (.t 1)), none⟩,
 ⟨some 36, (.load false 1 (.t 35)), none⟩,
 ⟨some 37, (.len (.t 36)), none⟩,
 ⟨some 38, (.mv (.c (.int .i64 (0)))), none⟩]
 [] [23, 24, 25, 26, 35])
 (.block 2
 (.loop
 (.seq
 (.ops [⟨some 39, (.bin .lss (.t 38) (.t 37)), none⟩]
 [] [])
 (.seq
 (.cond (.t 39)
 .skip
 (.exit 2))
 (.seq
 (.block 3
 (.seq
 (.ops [⟨some 40, (.iad 3 (.t 36) (.t 38)), none⟩,
 ⟨some 41, (.load true 3 (.t 40)), none⟩,
 ⟨some 7, (.allocL (.agg [(.int .i64 (0)), .nils, .nils])), none⟩,
 ⟨none, (.store 3 (.t 7) (.t 41)), none⟩]
 [] [39, 40, 41])
 (.seq
 (.ops [⟨some 42, (.fad 0 (.t 7)), none⟩,
 ⟨some 43, (.load false 1 (.t 42)), none⟩,
 ⟨some 44, (.fad 0 (.t 1)), none⟩,
 ⟨some 45, (.load false 1 (.t 44)), none⟩,
 ⟨some 46, (.iad 3 (.t 45) (.c (.int .i64 (0)))), none⟩,
 ⟨some 47, (.fad 0 (.t 46)), none⟩,
 ⟨some 48, (.load false 1 (.t 47)), none⟩,
 ⟨some 49, (.bin .neq (.t 43) (.t 48)), none⟩]
 [(0, 2), (1, 2), (0, 3), (1, 3), (0, 4), (1, 4), (0, 5), (1, 5), (0, 6), (1, 6)] [7, 42, 43, 44, 45, 46, 47, 48])
 (.cond (.t 49)
 (.seq
 (.ops [⟨some 2, (.mv (.c (.int .i64 (8)))), none⟩]
 [] [1, 36, 37, 38, 49])
 .ret)
 .skip))))
 (.ops [⟨some 50, (.bin .add (.t 38) (.c (.int .i64 (1)))), none⟩,
 ⟨some 38, (.mv (.t 50)), none⟩]
 [] [49, 50])))))))
 (.seq
 (.ops [⟨some 2, (.mv (.c (.int .i64 (0)))), none⟩]
 [] [1, 36, 37, 38, 39])
 .ret))))))⟩
def loc33 : List Nat := [1, 4, 7]
def fg33 : List (Nat × List Nat) := [(18, [1, 36, 37, 38, 39]), (17, [49, 50]), (16, [1, 36, 37, 38, 49]), (15, [7, 42, 43, 44, 45, 46, 47, 48]), (14, [39, 40, 41]), (12, [23, 24, 25, 26, 35]), (11, [5, 32, 34]), (10, [1, 5, 23, 24, 25, 32, 33]), (9, [31]), (8, [4, 29, 30]), (7, [26, 27, 28]), (5, [21, 22]), (4, [1, 21]), (3, [17, 18, 19, 20]), (2, [1, 17]), (1, [8, 9, 10, 11, 12, 13, 14, 15, 16]), (0, [0, 2])]
theorem comp33 : compFn Try.prog loc33 (fun i => (fg33.lookup i).getD []) Try.f33 = some lit33 := by kernel_rfl

-- parcener/ratio.Sub
def lit38 : AFn := ⟨2, [.cell 4 true 2, .tmp 5],
 (.seq
 (.ops [⟨some 2, (.boxL (.t 0)), none⟩,
 ⟨some 3, (.boxL (.t 1)), none⟩,
 ⟨some 4, (.allocL (.agg [(.int .i64 (0)), (.int .i64 (0))])), none⟩,
 ⟨some 5, (.mv (.c (.int .i64 (0)))), none⟩]
 [] [0, 1, 5])
 (.seq
 (.seq
 (.ops [⟨some 7, (.load true 2 (.t 2)), none⟩,
 ⟨some 8, (.load true 2 (.t 3)), none⟩,
 ⟨some 9, (.call (.f 70) [(.t 7), (.t 8)]), none⟩,
 ⟨some 6, (.mv (.t 9)), none⟩]
 [] [7, 8, 9])
 (.seq
 (.ops [⟨some 10, (.mv (.t 6)), none⟩,
 ⟨some 11, (.bin .neq (.t 10) (.c (.int .i64 (0)))), none⟩]
 [] [10])
 (.cond (.t 11)
 (.seq
 (.ops [⟨some 12, (.build [(.int .i64 (0)), (.int .i64 (0))] []), none⟩,
 ⟨some 13, (.mv (.t 6)), none⟩,
 ⟨none, (.store 2 (.t 4) (.t 12)), none⟩,
 ⟨some 5, (.mv (.t 13)), none⟩]
 [] [2, 3, 6, 11, 12, 13])
 .ret)
 .skip)))
 (.seq
 (.ops [⟨some 14, (.fad 0 (.t 3)), none⟩,
 ⟨some 15, (.load false 1 (.t 14)), none⟩,
 ⟨some 16, (.un .neg (.t 15)), none⟩,
 ⟨some 17, (.fad 0 (.t 3)), none⟩,
 ⟨none, (.store 1 (.t 17) (.t 16)), none⟩]
 [] [6, 11, 14, 15, 16, 17])
 (.seq
 (.ops [⟨some 18, (.load true 2 (.t 2)), none⟩,
 ⟨some 19, (.load true 2 (.t 3)), none⟩,
 ⟨some 20, (.call (.f 41) [(.t 18), (.t 19)]), none⟩,
 ⟨some 21, (.ext (.t 20) 0), none⟩,
 ⟨some 22, (.ext (.t 20) 1), none⟩,
 ⟨none, (.store 2 (.t 4) (.t 21)), none⟩,
 ⟨some 5, (.mv (.t 22)), none⟩]
 [] [2, 3, 18, 19, 20, 21, 22])
 .ret))))⟩
def loc38 : List Nat := [2, 3, 4]
def fg38 : List (Nat × List Nat) := [(5, [2, 3, 18, 19, 20, 21, 22]), (4, [6, 11, 14, 15, 16, 17]), (3, [2, 3, 6, 11, 12, 13]), (2, [10]), (1, [7, 8, 9]), (0, [0, 1, 5])]
theorem comp38 : compFn Try.prog loc38 (fun i => (fg38.lookup i).getD []) Try.f38 = some lit38 := by kernel_rfl

-- parcener/ratio.Div
def lit39 : AFn := ⟨2, [.cell 4 true 2, .tmp 5],
 (.seq
 (.ops [⟨some 2, (.boxL (.t 0)), none⟩,
 ⟨some 3, (.boxL (.t 1)), none⟩,
 ⟨some 4, (.allocL (.agg [(.int .i64 (0)), (.int .i64 (0))])), none⟩,
 ⟨some 5, (.mv (.c (.int .i64 (0)))), none⟩]
 [] [0, 1, 5])
 (.seq
 (.seq
 (.ops [⟨some 7, (.load true 2 (.t 2)), none⟩,
 ⟨some 8, (.load true 2 (.t 3)), none⟩,
 ⟨some 9, (.call (.f 70) [(.t 7), (.t 8)]), none⟩,
 ⟨some 6, (.mv (.t 9)), none⟩]
 [] [7, 8, 9])
 (.seq
 (.ops [⟨some 10, (.mv (.t 6)), none⟩,
 ⟨some 11, (.bin .neq (.t 10) (.c (.int .i64 (0)))), none⟩]
 [] [10])
 (.cond (.t 11)
 (.seq
 (.ops [⟨some 12, (.build [(.int .i64 (0)), (.int .i64 (0))] []), none⟩,
 ⟨some 13, (.mv (.t 6)), none⟩,
 ⟨none, (.store 2 (.t 4) (.t 12)), none⟩,
 ⟨some 5, (.mv (.t 13)), none⟩]
 [] [2, 3, 6, 11, 12, 13])
 .ret)
 .skip)))
 (.seq
 (.block 0
 (.seq
 (.ops [⟨some 15, (.fad 0 (.t 3)), none⟩,
 ⟨some 16, (.load false 1 (.t 15)), none⟩,
 ⟨some 17, (.bin .eql (.t 16) (.c (.int .i64 (0)))), none⟩,
 ⟨some 14, (.mv (.t 17)), none⟩]
 [] [6, 11, 15, 16, 17])
 (.cond (.t 14)
 (.seq
 (.ops [⟨some 18, (.build [(.int .i64 (0)), (.int .i64 (0))] []), none⟩,
 ⟨none, (.store 2 (.t 4) (.t 18)), none⟩,
 ⟨some 5, (.mv (.c (.int .i64 (18)))), none⟩]
 [] [2, 3, 14, 18])
 .ret)
 (.seq
 (.ops [⟨some 20, (.fad 0 (.t 3)), none⟩,
 ⟨some 21, (.load false 1 (.t 20)), none⟩,
 ⟨some 22, (.bin .lss (.t 21) (.c (.int .i64 (0)))), none⟩,
 ⟨some 19, (.mv (.t 22)), none⟩]
 [] [14, 20, 21, 22])
 (.cond (.t 19)
 (.seq
 (.ops [⟨some 23, (.load true 2 (.t 2)), none⟩,
 ⟨some 24, (.fad 1 (.t 3)), none⟩,
 ⟨some 25, (.load false 1 (.t 24)), none⟩,
 ⟨some 26, (.un .neg (.t 25)), none⟩,
 ⟨some 27, (.fad 0 (.t 3)), none⟩,
 ⟨some 28, (.load false 1 (.t 27)), none⟩,
 ⟨some 29, (.un .neg (.t 28)), none⟩,
 ⟨some 30, (.build [(.int .i64 (0)), (.int .i64 (0))] [(0, 1, (.t 26)), (1, 1, (.t 29))]), none⟩,
 ⟨some 31, (.call (.f 40) [(.t 23), (.t 30)]), none⟩,
 ⟨some 32, (.ext (.t 31) 0), none⟩,
 ⟨some 33, (.ext (.t 31) 1), none⟩,
 ⟨none, (.store 2 (.t 4) (.t 32)), none⟩,
 ⟨some 5, (.mv (.t 33)), none⟩]
 [] [2, 3, 19, 23, 24, 25, 26, 27, 28, 29, 30, 31, 32, 33])
 .ret)
 .skip)))))
 (.seq
 (.ops [⟨some 34, (.load true 2 (.t 2)), none⟩,
 ⟨some 35, (.fad 1 (.t 3)), none⟩,
 ⟨some 36, (.load false 1 (.t 35)), none⟩,
 ⟨some 37, (.fad 0 (.t 3)), none⟩,
 ⟨some 38, (.load false 1 (.t 37)), none⟩,
 ⟨some 39, (.build [(.int .i64 (0)), (.int .i64 (0))] [(0, 1, (.t 36)), (1, 1, (.t 38))]), none⟩,
 ⟨some 40, (.call (.f 40) [(.t 34), (.t 39)]), none⟩,
 ⟨some 41, (.ext (.t 40) 0), none⟩,
 ⟨some 42, (.ext (.t 40) 1), none⟩,
 ⟨none, (.store 2 (.t 4) (.t 41)), none⟩,
 ⟨some 5, (.mv (.t 42)), none⟩]
 [] [2, 3, 19, 34, 35, 36, 37, 38, 39, 40, 41, 42])
 .ret))))⟩
def loc39 : List Nat := [2, 3, 4]
def fg39 : List (Nat × List Nat) := [(8, [2, 3, 19, 34, 35, 36, 37, 38, 39, 40, 41, 42]), (7, [2, 3, 19, 23, 24, 25, 26, 27, 28, 29, 30, 31, 32, 33]), (6, [14, 20, 21, 22]), (5, [2, 3, 14, 18]), (4, [6, 11, 15, 16, 17]), (3, [2, 3, 6, 11, 12, 13]), (2, [10]), (1, [7, 8, 9]), (0, [0, 1, 5])]
theorem comp39 : compFn Try.prog loc39 (fun i => (fg39.lookup i).getD []) Try.f39 = some lit39 := by kernel_rfl

-- parcener/ratio.Mul
def lit40 : AFn := ⟨2, [.cell 4 true 2, .tmp 5],
 (.seq
 (.ops [⟨some 2, (.boxL (.t 0)), none⟩,
 ⟨some 3, (.boxL (.t 1)), none⟩,
 ⟨some 4, (.allocL (.agg [(.int .i64 (0)), (.int .i64 (0))])), none⟩,
 ⟨some 5, (.mv (.c (.int .i64 (0)))), none⟩]
 [] [0, 1, 5])
 (.seq
 (.seq
 (.ops [⟨some 17, (.load true 2 (.t 2)), none⟩,
 ⟨some 18, (.load true 2 (.t 3)), none⟩,
 ⟨some 19, (.call (.f 70) [(.t 17), (.t 18)]), none⟩,
 ⟨some 6, (.mv (.t 19)), none⟩]
 [] [17, 18, 19])
 (.seq
 (.ops [⟨some 20, (.mv (.t 6)), none⟩,
 ⟨some 21, (.bin .neq (.t 20) (.c (.int .i64 (0)))), none⟩]
 [] [20])
 (.cond (.t 21)
 (.seq
 (.ops [⟨some 22, (.build [(.int .i64 (0)), (.int .i64 (0))] []), none⟩,
 ⟨some 23, (.mv (.t 6)), none⟩,
 ⟨none, (.store 2 (.t 4) (.t 22)), none⟩,
 ⟨some 5, (.mv (.t 23)), none⟩]
 [] [2, 3, 6, 21, 22, 23])
 .ret)
 .skip)))
 (.seq
 (.ops [⟨some 24, (.fad 0 (.t 2)), none⟩,
 ⟨some 25, (.load false 1 (.t 24)), none⟩,
 ⟨some 26, (.call (.f 71) [(.t 25)]), none⟩,
 ⟨some 27, (.fad 1 (.t 2)), none⟩,
 ⟨some 28, (.load false 1 (.t 27)), none⟩,
 ⟨some 29, (.conv .u64 (.t 28)), none⟩,
 ⟨some 30, (.fad 0 (.t 3)), none⟩,
 ⟨some 31, (.load false 1 (.t 30)), none⟩,
 ⟨some 32, (.call (.f 71) [(.t 31)]), none⟩,
 ⟨some 33, (.fad 1 (.t 3)), none⟩,
 ⟨some 34, (.load false 1 (.t 33)), none⟩,
 ⟨some 35, (.conv .u64 (.t 34)), none⟩,
 ⟨some 7, (.mv (.t 26)), none⟩,
 ⟨some 8, (.mv (.t 29)), none⟩,
 ⟨some 9, (.mv (.t 32)), none⟩,
 ⟨some 10, (.mv (.t 35)), none⟩]
 [(0, 3), (1, 3), (2, 3), (0, 4), (1, 4), (2, 4), (0, 5), (1, 5), (2, 5), (0, 6), (1, 6), (2, 6), (3, 6), (4, 6), (5, 6), (0, 7), (1, 7), (2, 7), (3, 7), (4, 7), (5, 7), (3, 8), (4, 8), (5, 8), (0, 9), (1, 9), (2, 9), (3, 9), (4, 9), (5, 9), (6, 9), (7, 9), (8, 9), (0, 10), (1, 10), (2, 10), (3, 10), (4, 10), (5, 10), (6, 10), (7, 10), (8, 10), (0, 11), (1, 11), (2, 11), (3, 11), (4, 11), (5, 11), (6, 11), (7, 11), (8, 11), (3, 12), (4, 12), (5, 12), (9, 12), (10, 12), (11, 12), (9, 13), (10, 13), (11, 13), (9, 14), (10, 14), (11, 14)] [6, 21, 24, 25, 26, 27, 28, 29, 30, 31, 32, 33, 34, 35])
 (.seq
 (.ops [⟨some 36, (.mv (.t 7)), none⟩,
 ⟨some 37, (.mv (.t 10)), none⟩,
 ⟨some 38, (.call (.f 72) [(.t 36), (.t 37)]), none⟩,
 ⟨some 39, (.mv (.t 9)), none⟩,
 ⟨some 40, (.mv (.t 8)), none⟩,
 ⟨some 41, (.call (.f 72) [(.t 39), (.t 40)]), none⟩,
 ⟨some 11, (.mv (.t 38)), none⟩,
 ⟨some 12, (.mv (.t 41)), none⟩]
 [] [36, 37, 38, 39, 40, 41])
 (.seq
 (.ops [⟨some 43, (.mv (.t 7)), none⟩,
 ⟨some 44, (.mv (.t 11)), none⟩,
 ⟨some 45, (.bin .quo (.t 43) (.t 44)), none⟩,
 ⟨some 46, (.mv (.t 9)), none⟩,
 ⟨some 47, (.mv (.t 12)), none⟩,
 ⟨some 48, (.bin .quo (.t 46) (.t 47)), none⟩,
 ⟨some 49, (.call (.f 73) [(.t 45), (.t 48)]), none⟩,
 ⟨some 42, (.mv (.t 49)), none⟩,
 ⟨some 50, (.ext (.t 42) 0), none⟩,
 ⟨some 51, (.ext (.t 42) 1), none⟩,
 ⟨some 13, (.mv (.t 50)), none⟩,
 ⟨some 14, (.mv (.t 51)), none⟩]
 [(0, 1), (0, 3), (1, 3), (2, 3), (0, 4), (1, 4), (2, 4), (3, 4), (0, 5), (1, 5), (2, 5), (8, 9), (9, 10)] [7, 9, 42, 43, 44, 45, 46, 47, 48, 49, 50, 51])
 (.seq
 (.ops [⟨some 53, (.mv (.t 8)), none⟩,
 ⟨some 54, (.mv (.t 12)), none⟩,
 ⟨some 55, (.bin .quo (.t 53) (.t 54)), none⟩,
 ⟨some 56, (.mv (.t 10)), none⟩,
 ⟨some 57, (.mv (.t 11)), none⟩,
 ⟨some 58, (.bin .quo (.t 56) (.t 57)), none⟩,
 ⟨some 59, (.call (.f 73) [(.t 55), (.t 58)]), none⟩,
 ⟨some 52, (.mv (.t 59)), none⟩,
 ⟨some 60, (.ext (.t 52) 0), none⟩,
 ⟨some 61, (.ext (.t 52) 1), none⟩,
 ⟨some 15, (.mv (.t 60)), none⟩,
 ⟨some 16, (.mv (.t 61)), none⟩]
 [(0, 1), (0, 3), (1, 3), (2, 3), (0, 4), (1, 4), (2, 4), (3, 4), (0, 5), (1, 5), (2, 5), (8, 9), (9, 10)] [8, 10, 11, 12, 52, 53, 54, 55, 56, 57, 58, 59, 60, 61])
 (.seq
 (.seq
 (.ops [⟨some 62, (.mv (.t 13)), none⟩,
 ⟨some 63, (.mv (.t 15)), none⟩,
 ⟨some 64, (.bin .add (.t 62) (.t 63)), none⟩,
 ⟨some 65, (.bin .gtr (.t 64) (.c (.int .u64 (0)))), none⟩]
 [] [13, 15, 62, 63, 64])
 (.cond (.t 65)
 (.seq
 (.ops [⟨some 66, (.build [(.int .i64 (0)), (.int .i64 (0))] []), none⟩,
 ⟨none, (.store 2 (.t 4) (.t 66)), none⟩,
 ⟨some 5, (.mv (.c (.int .i64 (16)))), none⟩]
 [] [2, 3, 14, 16, 65, 66])
 .ret)
 .skip))
 (.seq
 (.ops [⟨some 67, (.mv (.t 14)), none⟩,
 ⟨some 68, (.bin .gtr (.t 67) (.c (.int .u64 (0)))), none⟩,
 ⟨some 69, (.mv (.t 68)), none⟩,
 ⟨some 70, (.fad 0 (.t 2)), some (69, true)⟩,
 ⟨some 71, (.load false 1 (.t 70)), some (69, true)⟩,
 ⟨some 72, (.bin .lss (.t 71) (.c (.int .i64 (0)))), some (69, true)⟩,
 ⟨some 73, (.fad 0 (.t 3)), some (69, true)⟩,
 ⟨some 74, (.load false 1 (.t 73)), some (69, true)⟩,
 ⟨some 75, (.bin .lss (.t 74) (.c (.int .i64 (0)))), some (69, true)⟩,
 ⟨some 76, (.eqB true (.t 72) (.t 75)), some (69, true)⟩,
 ⟨some 77, (.pick (.t 69) (.t 76) (.c (.bool false))), none⟩,
 ⟨some 78, (.mv (.t 14)), none⟩,
 ⟨some 79, (.mv (.t 16)), none⟩,
 ⟨some 80, (.call (.f 74) [(.t 77), (.t 78), (.t 79)]), none⟩,
 ⟨some 81, (.ext (.t 80) 0), none⟩,
 ⟨some 82, (.ext (.t 80) 1), none⟩,
 ⟨none, (.store 2 (.t 4) (.t 81)), none⟩,
 ⟨some 5, (.mv (.t 82)), none⟩]
 [] [2, 3, 14, 16, 65, 67, 68, 69, 70, 71, 72, 73, 74, 75, 76, 77, 78, 79, 80, 81, 82])
 .ret))))))))⟩
def loc40 : List Nat := [2, 3, 4]
def fg40 : List (Nat × List Nat) := [(10, [2, 3, 14, 16, 65, 67, 68, 69, 70, 71, 72, 73, 74, 75, 76, 77, 78, 79, 80, 81, 82]), (9, [2, 3, 14, 16, 65, 66]), (8, [13, 15, 62, 63, 64]), (7, [8, 10, 11, 12, 52, 53, 54, 55, 56, 57, 58, 59, 60, 61]), (6, [7, 9, 42, 43, 44, 45, 46, 47, 48, 49, 50, 51]), (5, [36, 37, 38, 39, 40, 41]), (4, [6, 21, 24, 25, 26, 27, 28, 29, 30, 31, 32, 33, 34, 35]), (3, [2, 3, 6, 21, 22, 23]), (2, [20]), (1, [17, 18, 19]), (0, [0, 1, 5])]
theorem comp40 : compFn Try.prog loc40 (fun i => (fg40.lookup i).getD []) Try.f40 = some lit40 := by kernel_rfl

-- parcener/ratio.Add
def lit41 : AFn := ⟨2, [.cell 4 true 2, .tmp 5],
 (.seq
 (.ops [⟨some 2, (.boxL (.t 0)), none⟩,
 ⟨some 3, (.boxL (.t 1)), none⟩,
 ⟨some 4, (.allocL (.agg [(.int .i64 (0)), (.int .i64 (0))])), none⟩,
 ⟨some 5, (.mv (.c (.int .i64 (0)))), none⟩]
 [] [0, 1, 5])
 (.seq
 (.seq
 (.ops [⟨some 21, (.load true 2 (.t 2)), none⟩,
 ⟨some 22, (.load true 2 (.t 3)), none⟩,
 ⟨some 23, (.call (.f 70) [(.t 21), (.t 22)]), none⟩,
 ⟨some 6, (.mv (.t 23)), none⟩]
 [] [21, 22, 23])
 (.seq
 (.ops [⟨some 24, (.mv (.t 6)), none⟩,
 ⟨some 25, (.bin .neq (.t 24) (.c (.int .i64 (0)))), none⟩]
 [] [24])
 (.cond (.t 25)
 (.seq
 (.ops [⟨some 26, (.build [(.int .i64 (0)), (.int .i64 (0))] []), none⟩,
 ⟨some 27, (.mv (.t 6)), none⟩,
 ⟨none, (.store 2 (.t 4) (.t 26)), none⟩,
 ⟨some 5, (.mv (.t 27)), none⟩]
 [] [2, 3, 6, 25, 26, 27])
 .ret)
 .skip)))
 (.seq
 (.ops [⟨some 28, (.fad 1 (.t 2)), none⟩,
 ⟨some 29, (.load false 1 (.t 28)), none⟩,
 ⟨some 30, (.conv .u64 (.t 29)), none⟩,
 ⟨some 31, (.fad 1 (.t 3)), none⟩,
 ⟨some 32, (.load false 1 (.t 31)), none⟩,
 ⟨some 33, (.conv .u64 (.t 32)), none⟩,
 ⟨some 34, (.call (.f 72) [(.t 30), (.t 33)]), none⟩,
 ⟨some 7, (.mv (.t 34)), none⟩]
 [] [6, 25, 28, 29, 30, 31, 32, 33, 34])
 (.seq
 (.ops [⟨some 36, (.fad 0 (.t 2)), none⟩,
 ⟨some 37, (.load false 1 (.t 36)), none⟩,
 ⟨some 38, (.call (.f 71) [(.t 37)]), none⟩,
 ⟨some 39, (.fad 1 (.t 3)), none⟩,
 ⟨some 40, (.load false 1 (.t 39)), none⟩,
 ⟨some 41, (.conv .u64 (.t 40)), none⟩,
 ⟨some 42, (.mv (.t 7)), none⟩,
 ⟨some 43, (.bin .quo (.t 41) (.t 42)), none⟩,
 ⟨some 44, (.call (.f 73) [(.t 38), (.t 43)]), none⟩,
 ⟨some 35, (.mv (.t 44)), none⟩,
 ⟨some 45, (.ext (.t 35) 0), none⟩,
 ⟨some 46, (.ext (.t 35) 1), none⟩,
 ⟨some 8, (.mv (.t 45)), none⟩,
 ⟨some 9, (.mv (.t 46)), none⟩]
 [(0, 3), (1, 3), (2, 3), (0, 4), (1, 4), (2, 4), (0, 5), (1, 5), (2, 5), (0, 6), (1, 6), (2, 6), (3, 6), (4, 6), (5, 6), (0, 7), (1, 7), (2, 7), (10, 11), (11, 12)] [35, 36, 37, 38, 39, 40, 41, 42, 43, 44, 45, 46])
 (.seq
 (.ops [⟨some 48, (.fad 0 (.t 3)), none⟩,
 ⟨some 49, (.load false 1 (.t 48)), none⟩,
 ⟨some 50, (.call (.f 71) [(.t 49)]), none⟩,
 ⟨some 51, (.fad 1 (.t 2)), none⟩,
 ⟨some 52, (.load false 1 (.t 51)), none⟩,
 ⟨some 53, (.conv .u64 (.t 52)), none⟩,
 ⟨some 54, (.mv (.t 7)), none⟩,
 ⟨some 55, (.bin .quo (.t 53) (.t 54)), none⟩,
 ⟨some 56, (.call (.f 73) [(.t 50), (.t 55)]), none⟩,
 ⟨some 47, (.mv (.t 56)), none⟩,
 ⟨some 57, (.ext (.t 47) 0), none⟩,
 ⟨some 58, (.ext (.t 47) 1), none⟩,
 ⟨some 10, (.mv (.t 57)), none⟩,
 ⟨some 11, (.mv (.t 58)), none⟩]
 [(0, 3), (1, 3), (2, 3), (0, 4), (1, 4), (2, 4), (0, 5), (1, 5), (2, 5), (0, 6), (1, 6), (2, 6), (3, 6), (4, 6), (5, 6), (0, 7), (1, 7), (2, 7), (10, 11), (11, 12)] [47, 48, 49, 50, 51, 52, 53, 54, 55, 56, 57, 58])
 (.seq
 (.ops [⟨some 59, (.fad 0 (.t 2)), none⟩,
 ⟨some 60, (.load false 1 (.t 59)), none⟩,
 ⟨some 61, (.bin .lss (.t 60) (.c (.int .i64 (0)))), none⟩,
 ⟨some 12, (.mv (.t 61)), none⟩]
 [] [59, 60, 61])
 (.seq
 (.ops [⟨some 13, (.mv (.c (.int .u64 (0)))), none⟩,
 ⟨some 14, (.mv (.c (.int .u64 (0)))), none⟩,
 ⟨some 15, (.mv (.c (.int .u64 (0)))), none⟩]
 [] [13, 14, 15])
 (.seq
 (.seq
 (.ops [⟨some 62, (.fad 0 (.t 2)), none⟩,
 ⟨some 63, (.load false 1 (.t 62)), none⟩,
 ⟨some 64, (.bin .lss (.t 63) (.c (.int .i64 (0)))), none⟩,
 ⟨some 65, (.fad 0 (.t 3)), none⟩,
 ⟨some 66, (.load false 1 (.t 65)), none⟩,
 ⟨some 67, (.bin .lss (.t 66) (.c (.int .i64 (0)))), none⟩,
 ⟨some 68, (.eqB false (.t 64) (.t 67)), none⟩]
 [] [62, 63, 64, 65, 66, 67])
 (.cond (.t 68)
 (.seq
 (.ops [⟨some 70, (.mv (.t 9)), none⟩,
 ⟨some 71, (.mv (.t 11)), none⟩,
 ⟨some 72, (.call (.f 75) [(.t 70), (.t 71), (.c (.int .u64 (0)))]), none⟩,
 ⟨some 69, (.mv (.t 72)), none⟩,
 ⟨some 73, (.ext (.t 69) 0), none⟩,
 ⟨some 74, (.ext (.t 69) 1), none⟩,
 ⟨some 14, (.mv (.t 73)), none⟩,
 ⟨some 15, (.mv (.t 74)), none⟩]
 [] [9, 11, 68, 69, 70, 71, 72, 73, 74])
 (.ops [⟨some 76, (.mv (.t 8)), none⟩,
 ⟨some 77, (.mv (.t 10)), none⟩,
 ⟨some 78, (.mv (.t 15)), none⟩,
 ⟨some 79, (.call (.f 75) [(.t 76), (.t 77), (.t 78)]), none⟩,
 ⟨some 75, (.mv (.t 79)), none⟩,
 ⟨some 80, (.ext (.t 75) 0), none⟩,
 ⟨some 81, (.ext (.t 75) 1), none⟩,
 ⟨some 13, (.mv (.t 80)), none⟩]
 [] [8, 10, 15, 75, 76, 77, 78, 79, 80, 81]))
 (.seq
 (.seq
 (.ops [⟨some 82, (.mv (.t 8)), none⟩,
 ⟨some 83, (.mv (.t 10)), none⟩,
 ⟨some 84, (.bin .lss (.t 82) (.t 83)), none⟩,
 ⟨some 85, (.mv (.t 84)), none⟩,
 ⟨some 86, (.mv (.t 8)), some (85, false)⟩,
 ⟨some 87, (.mv (.t 10)), some (85, false)⟩,
 ⟨some 88, (.bin .eql (.t 86) (.t 87)), some (85, false)⟩,
 ⟨some 89, (.mv (.t 88)), some (85, false)⟩,
 ⟨some 90, (.mv (.t 9)), some (89, true)⟩,
 ⟨some 91, (.mv (.t 11)), some (89, true)⟩,
 ⟨some 92, (.bin .lss (.t 90) (.t 91)), some (89, true)⟩,
 ⟨some 93, (.pick (.t 89) (.t 92) (.c (.bool false))), some (85, false)⟩,
 ⟨some 94, (.pick (.t 85) (.c (.bool true)) (.t 93)), none⟩]
 [] [68, 82, 83, 84, 85, 86, 87, 88, 89, 90, 91, 92, 93])
 (.cond (.t 94)
 (.seq
 (.ops [⟨some 95, (.mv (.t 10)), none⟩,
 ⟨some 96, (.mv (.t 11)), none⟩,
 ⟨some 97, (.mv (.t 8)), none⟩,
 ⟨some 98, (.mv (.t 9)), none⟩,
 ⟨some 8, (.mv (.t 95)), none⟩,
 ⟨some 9, (.mv (.t 96)), none⟩,
 ⟨some 10, (.mv (.t 97)), none⟩,
 ⟨some 11, (.mv (.t 98)), none⟩]
 [] [94, 95, 96, 97, 98])
 (.ops [⟨some 99, (.mv (.t 12)), none⟩,
 ⟨some 100, (.un .not (.t 99)), none⟩,
 ⟨some 12, (.mv (.t 100)), none⟩]
 [] [99, 100]))
 .skip))
 (.seq
 (.ops [⟨some 102, (.mv (.t 9)), none⟩,
 ⟨some 103, (.mv (.t 11)), none⟩,
 ⟨some 104, (.call (.f 76) [(.t 102), (.t 103), (.c (.int .u64 (0)))]), none⟩,
 ⟨some 101, (.mv (.t 104)), none⟩,
 ⟨some 105, (.ext (.t 101) 0), none⟩,
 ⟨some 106, (.ext (.t 101) 1), none⟩,
 ⟨some 14, (.mv (.t 105)), none⟩,
 ⟨some 15, (.mv (.t 106)), none⟩]
 [] [9, 11, 94, 101, 102, 103, 104, 105, 106])
 (.ops [⟨some 108, (.mv (.t 8)), none⟩,
 ⟨some 109, (.mv (.t 10)), none⟩,
 ⟨some 110, (.mv (.t 15)), none⟩,
 ⟨some 111, (.call (.f 76) [(.t 108), (.t 109), (.t 110)]), none⟩,
 ⟨some 107, (.mv (.t 111)), none⟩,
 ⟨some 112, (.ext (.t 107) 0), none⟩,
 ⟨some 113, (.ext (.t 107) 1), none⟩,
 ⟨some 13, (.mv (.t 112)), none⟩]
 [] [8, 10, 15, 107, 108, 109, 110, 111, 112, 113])))))
 (.seq
 (.seq
 (.ops [⟨some 114, (.mv (.t 13)), none⟩,
 ⟨some 115, (.bin .eql (.t 114) (.c (.int .u64 (0)))), none⟩,
 ⟨some 116, (.mv (.t 115)), none⟩,
 ⟨some 117, (.mv (.t 14)), some (116, true)⟩,
 ⟨some 118, (.bin .eql (.t 117) (.c (.int .u64 (0)))), some (116, true)⟩,
 ⟨some 119, (.pick (.t 116) (.t 118) (.c (.bool false))), none⟩]
 [] [114, 115, 116, 117, 118])
 (.cond (.t 119)
 (.seq
 (.ops [⟨some 120, (.build [(.int .i64 (0)), (.int .i64 (0))] [(1, 1, (.c (.int .i64 (1))))]), none⟩,
 ⟨none, (.store 2 (.t 4) (.t 120)), none⟩,
 ⟨some 5, (.mv (.c (.int .i64 (0)))), none⟩]
 [] [2, 3, 7, 12, 13, 14, 119, 120])
 .ret)
 .skip))
 (.seq
 (.ops [⟨some 121, (.mv (.t 13)), none⟩,
 ⟨some 122, (.mv (.t 14)), none⟩,
 ⟨some 123, (.mv (.t 7)), none⟩,
 ⟨some 124, (.call (.f 77) [(.t 121), (.t 122), (.t 123)]), none⟩,
 ⟨some 125, (.mv (.t 7)), none⟩,
 ⟨some 126, (.call (.f 72) [(.t 124), (.t 125)]), none⟩,
 ⟨some 16, (.mv (.t 126)), none⟩]
 [] [119, 121, 122, 123, 124, 125, 126])
 (.seq
 (.seq
 (.ops [⟨some 127, (.mv (.t 13)), none⟩,
 ⟨some 128, (.mv (.t 16)), none⟩,
 ⟨some 129, (.bin .geq (.t 127) (.t 128)), none⟩]
 [] [127, 128])
 (.cond (.t 129)
 (.seq
 (.ops [⟨some 130, (.build [(.int .i64 (0)), (.int .i64 (0))] []), none⟩,
 ⟨none, (.store 2 (.t 4) (.t 130)), none⟩,
 ⟨some 5, (.mv (.c (.int .i64 (16)))), none⟩]
 [] [2, 3, 7, 12, 13, 14, 16, 129, 130])
 .ret)
 .skip))
 (.seq
 (.ops [⟨some 132, (.mv (.t 13)), none⟩,
 ⟨some 133, (.mv (.t 14)), none⟩,
 ⟨some 134, (.mv (.t 16)), none⟩,
 ⟨some 135, (.call (.f 78) [(.t 132), (.t 133), (.t 134)]), none⟩,
 ⟨some 131, (.mv (.t 135)), none⟩,
 ⟨some 136, (.ext (.t 131) 0), none⟩,
 ⟨some 137, (.ext (.t 131) 1), none⟩,
 ⟨some 17, (.mv (.t 136)), none⟩,
 ⟨some 18, (.mv (.t 137)), none⟩]
 [] [13, 14, 18, 129, 131, 132, 133, 134, 135, 136, 137])
 (.seq
 (.ops [⟨some 139, (.fad 1 (.t 2)), none⟩,
 ⟨some 140, (.load false 1 (.t 139)), none⟩,
 ⟨some 141, (.conv .u64 (.t 140)), none⟩,
 ⟨some 142, (.mv (.t 7)), none⟩,
 ⟨some 143, (.bin .quo (.t 141) (.t 142)), none⟩,
 ⟨some 144, (.fad 1 (.t 3)), none⟩,
 ⟨some 145, (.load false 1 (.t 144)), none⟩,
 ⟨some 146, (.conv .u64 (.t 145)), none⟩,
 ⟨some 147, (.mv (.t 16)), none⟩,
 ⟨some 148, (.bin .quo (.t 146) (.t 147)), none⟩,
 ⟨some 149, (.call (.f 73) [(.t 143), (.t 148)]), none⟩,
 ⟨some 138, (.mv (.t 149)), none⟩,
 ⟨some 150, (.ext (.t 138) 0), none⟩,
 ⟨some 151, (.ext (.t 138) 1), none⟩,
 ⟨some 19, (.mv (.t 150)), none⟩,
 ⟨some 20, (.mv (.t 151)), none⟩]
 [(0, 3), (1, 3), (2, 3), (0, 5), (1, 5), (2, 5), (3, 5), (4, 5), (0, 6), (1, 6), (2, 6), (3, 6), (4, 6), (0, 7), (1, 7), (2, 7), (3, 7), (4, 7), (0, 8), (1, 8), (2, 8), (3, 8), (4, 8), (5, 8), (6, 8), (7, 8), (0, 9), (1, 9), (2, 9), (3, 9), (4, 9), (12, 13), (13, 14)] [2, 3, 7, 16, 138, 139, 140, 141, 142, 143, 144, 145, 146, 147, 148, 149, 150, 151])
 (.seq
 (.seq
 (.ops [⟨some 152, (.mv (.t 19)), none⟩,
 ⟨some 153, (.bin .gtr (.t 152) (.c (.int .u64 (0)))), none⟩]
 [] [19, 152])
 (.cond (.t 153)
 (.seq
 (.ops [⟨some 154, (.build [(.int .i64 (0)), (.int .i64 (0))] []), none⟩,
 ⟨none, (.store 2 (.t 4) (.t 154)), none⟩,
 ⟨some 5, (.mv (.c (.int .i64 (16)))), none⟩]
 [] [12, 17, 20, 153, 154])
 .ret)
 .skip))
 (.seq
 (.ops [⟨some 155, (.mv (.t 12)), none⟩,
 ⟨some 156, (.mv (.t 17)), none⟩,
 ⟨some 157, (.mv (.t 20)), none⟩,
 ⟨some 158, (.call (.f 74) [(.t 155), (.t 156), (.t 157)]), none⟩,
 ⟨some 159, (.ext (.t 158) 0), none⟩,
 ⟨some 160, (.ext (.t 158) 1), none⟩,
 ⟨none, (.store 2 (.t 4) (.t 159)), none⟩,
 ⟨some 5, (.mv (.t 160)), none⟩]
 [] [12, 17, 20, 153, 155, 156, 157, 158, 159, 160])
 .ret)))))))))))))))⟩
def loc41 : List Nat := [2, 3, 4]
def fg41 : List (Nat × List Nat) := [(26, [12, 17, 20, 153, 155, 156, 157, 158, 159, 160]), (25, [12, 17, 20, 153, 154]), (24, [19, 152]), (23, [2, 3, 7, 16, 138, 139, 140, 141, 142, 143, 144, 145, 146, 147, 148, 149, 150, 151]), (22, [13, 14, 18, 129, 131, 132, 133, 134, 135, 136, 137]), (21, [2, 3, 7, 12, 13, 14, 16, 129, 130]), (20, [127, 128]), (19, [119, 121, 122, 123, 124, 125, 126]), (18, [2, 3, 7, 12, 13, 14, 119, 120]), (17, [114, 115, 116, 117, 118]), (16, [8, 10, 15, 107, 108, 109, 110, 111, 112, 113]), (15, [9, 11, 94, 101, 102, 103, 104, 105, 106]), (14, [99, 100]), (13, [94, 95, 96, 97, 98]), (12, [68, 82, 83, 84, 85, 86, 87, 88, 89, 90, 91, 92, 93]), (11, [8, 10, 15, 75, 76, 77, 78, 79, 80, 81]), (10, [9, 11, 68, 69, 70, 71, 72, 73, 74]), (9, [62, 63, 64, 65, 66, 67]), (8, [13, 14, 15]), (7, [59, 60, 61]), (6, [47, 48, 49, 50, 51, 52, 53, 54, 55, 56, 57, 58]), (5, [35, 36, 37, 38, 39, 40, 41, 42, 43, 44, 45, 46]), (4, [6, 25, 28, 29, 30, 31, 32, 33, 34]), (3, [2, 3, 6, 25, 26, 27]), (2, [24]), (1, [21, 22, 23]), (0, [0, 1, 5])]
theorem comp41 : compFn Try.prog loc41 (fun i => (fg41.lookup i).getD []) Try.f41 = some lit41 := by kernel_rfl

-- parcener/cake.Check
def lit43 : AFn := ⟨1, [.tmp 2],
 (.seq
 (.ops [⟨some 1, (.boxL (.t 0)), none⟩,
 ⟨some 2, (.mv (.c (.int .i64 (0)))), none⟩]
 [] [0, 2])
 (.seq
 (.ops [⟨some 5, (.fad 1 (.t 1)), none⟩,
 ⟨some 6, (.load false 1 (.t 5)), none⟩,
 ⟨some 7, (.len (.t 6)), none⟩,
 ⟨some 3, (.mv (.t 7)), none⟩]
 [] [5, 6, 7])
 (.seq
 (.seq
 (.ops [⟨some 8, (.fad 0 (.t 1)), none⟩,
 ⟨some 9, (.load false 1 (.t 8)), none⟩,
 ⟨some 10, (.bin .gtr (.t 9) (.c (.int .i64 (1000)))), none⟩,
 ⟨some 11, (.mv (.t 10)), none⟩,
 ⟨some 12, (.mv (.t 3)), some (11, false)⟩,
 ⟨some 13, (.bin .gtr (.t 12) (.c (.int .i64 (40)))), some (11, false)⟩,
 ⟨some 14, (.pick (.t 11) (.c (.bool true)) (.t 13)), none⟩]
 [] [8, 9, 10, 11, 12, 13])
 (.cond (.t 14)
 (.seq
 (.ops [⟨some 2, (.mv (.c (.int .i64 (4)))), none⟩]
 [] [1, 3, 14])
 .ret)
 .skip))
 (.seq
 (.seq
 (.ops [⟨some 15, (.fad 0 (.t 1)), none⟩,
 ⟨some 16, (.load false 1 (.t 15)), none⟩,
 ⟨some 17, (.bin .lss (.t 16) (.c (.int .i64 (1)))), none⟩,
 ⟨some 18, (.mv (.t 17)), none⟩,
 ⟨some 19, (.mv (.t 3)), some (18, false)⟩,
 ⟨some 20, (.bin .lss (.t 19) (.c (.int .i64 (2)))), some (18, false)⟩,
 ⟨some 21, (.pick (.t 18) (.c (.bool true)) (.t 20)), none⟩,
 ⟨some 22, (.mv (.t 21)), none⟩,
 ⟨some 23, (.fad 2 (.t 1)), some (22, false)⟩,
 ⟨some 24, (.load false 1 (.t 23)), some (22, false)⟩,
 ⟨some 25, (.len (.t 24)), some (22, false)⟩,
 ⟨some 26, (.mv (.t 3)), some (22, false)⟩,
 ⟨some 27, (.bin .sub (.t 26) (.c (.int .i64 (1)))), some (22, false)⟩,
 ⟨some 28, (.bin .neq (.t 25) (.t 27)), some (22, false)⟩,
 ⟨some 29, (.pick (.t 22) (.c (.bool true)) (.t 28)), none⟩,
 ⟨some 30, (.mv (.t 29)), none⟩,
 ⟨some 31, (.fad 1 (.t 1)), some (30, false)⟩,
 ⟨some 32, (.load false 1 (.t 31)), some (30, false)⟩,
 ⟨some 33, (.iad 1 (.t 32) (.c (.int .i64 (0)))), some (30, false)⟩,
 ⟨some 34, (.load false 1 (.t 33)), some (30, false)⟩,
 ⟨some 35, (.bin .neq (.t 34) (.c (.int .i64 (0)))), some (30, false)⟩,
 ⟨some 36, (.pick (.t 30) (.c (.bool true)) (.t 35)), none⟩,
 ⟨some 37, (.mv (.t 36)), none⟩,
 ⟨some 38, (.fad 1 (.t 1)), some (37, false)⟩,
 ⟨some 39, (.load false 1 (.t 38)), some (37, false)⟩,
 ⟨some 40, (.mv (.t 3)), some (37, false)⟩,
 ⟨some 41, (.bin .sub (.t 40) (.c (.int .i64 (1)))), some (37, false)⟩,
 ⟨some 42, (.iad 1 (.t 39) (.t 41)), some (37, false)⟩,
 ⟨some 43, (.load false 1 (.t 42)), some (37, false)⟩,
 ⟨some 44, (.fad 0 (.t 1)), some (37, false)⟩,
 ⟨some 45, (.load false 1 (.t 44)), some (37, false)⟩,
 ⟨some 46, (.bin .neq (.t 43) (.t 45)), some (37, false)⟩,
 ⟨some 47, (.pick (.t 37) (.c (.bool true)) (.t 46)), none⟩]
 [(8, 11), (9, 11), (10, 11), (8, 12), (9, 12), (10, 12), (23, 25), (24, 25), (23, 26), (24, 26), (23, 29), (24, 29), (25, 29), (26, 29), (27, 29), (28, 29), (23, 30), (24, 30), (25, 30), (26, 30), (27, 30), (28, 30)] [14, 15, 16, 17, 18, 19, 20, 21, 22, 23, 24, 25, 26, 27, 28, 29, 30, 31, 32, 33, 34, 35, 36, 37, 38, 39, 40, 41, 42, 43, 44, 45, 46])
 (.cond (.t 47)
 (.seq
 (.ops [⟨some 2, (.mv (.c (.int .i64 (8)))), none⟩]
 [] [1, 3, 47])
 .ret)
 .skip))
 (.seq
 (.seq
 (.ops [⟨some 48, (.mv (.t 3)), none⟩,
 ⟨some 49, (.bin .sub (.t 48) (.c (.int .i64 (1)))), none⟩,
 ⟨some 50, (.mv (.c (.int .i64 (0)))), none⟩]
 [] [3, 47, 48])
 (.block 0
 (.loop
 (.seq
 (.ops [⟨some 51, (.bin .lss (.t 50) (.t 49)), none⟩]
 [] [])
 (.seq
 (.cond (.t 51)
 .skip
 (.exit 0))
 (.seq
 (.block 1
 (.seq
 (.ops [⟨some 52, (.mv (.t 50)), none⟩,
 ⟨some 4, (.mv (.t 52)), none⟩]
 [] [51, 52])
 (.seq
 (.ops [⟨some 53, (.fad 1 (.t 1)), none⟩,
 ⟨some 54, (.load false 1 (.t 53)), none⟩,
 ⟨some 55, (.mv (.t 4)), none⟩,
 ⟨some 56, (.iad 1 (.t 54) (.t 55)), none⟩,
 ⟨some 57, (.load false 1 (.t 56)), none⟩,
 ⟨some 58, (.fad 1 (.t 1)), none⟩,
 ⟨some 59, (.load false 1 (.t 58)), none⟩,
 ⟨some 60, (.mv (.t 4)), none⟩,
 ⟨some 61, (.bin .add (.t 60) (.c (.int .i64 (1)))), none⟩,
 ⟨some 62, (.iad 1 (.t 59) (.t 61)), none⟩,
 ⟨some 63, (.load false 1 (.t 62)), none⟩,
 ⟨some 64, (.bin .geq (.t 57) (.t 63)), none⟩]
 [(0, 2), (1, 2), (0, 5), (1, 5), (2, 5), (3, 5), (4, 5), (0, 6), (1, 6), (2, 6), (3, 6), (4, 6), (0, 7), (1, 7), (2, 7), (3, 7), (4, 7), (5, 7), (6, 7), (0, 8), (1, 8), (2, 8), (3, 8), (4, 8), (5, 8), (6, 8), (0, 9), (1, 9), (2, 9), (3, 9), (4, 9), (0, 10), (1, 10), (2, 10), (3, 10), (4, 10)] [4, 53, 54, 55, 56, 57, 58, 59, 60, 61, 62, 63])
 (.cond (.t 64)
 (.seq
 (.ops [⟨some 2, (.mv (.c (.int .i64 (8)))), none⟩]
 [] [1, 49, 50, 64])
 .ret)
 .skip))))
 (.ops [⟨some 65, (.bin .add (.t 50) (.c (.int .i64 (1)))), none⟩,
 ⟨some 50, (.mv (.t 65)), none⟩]
 [] [64, 65])))))))
 (.seq
 (.seq
 (.ops [⟨some 66, (.fad 2 (.t 1)), none⟩,
 ⟨some 67, (.load false 1 (.t 66)), none⟩,
 ⟨some 68, (.call (.f 80) [(.t 67)]), none⟩,
 ⟨some 69, (.bin .lss (.t 68) (.c (.int .i64 (0)))), none⟩,
 ⟨some 70, (.mv (.t 69)), none⟩,
 ⟨some 71, (.fad 2 (.t 1)), some (70, false)⟩,
 ⟨some 72, (.load false 1 (.t 71)), some (70, false)⟩,
 ⟨some 73, (.call (.f 81) [(.t 72)]), some (70, false)⟩,
 ⟨some 74, (.bin .gtr (.t 73) (.c (.int .i64 (12)))), some (70, false)⟩,
 ⟨some 75, (.pick (.t 70) (.c (.bool true)) (.t 74)), none⟩,
 ⟨some 76, (.mv (.t 75)), none⟩,
 ⟨some 77, (.fad 2 (.t 1)), some (76, false)⟩,
 ⟨some 78, (.load false 1 (.t 77)), some (76, false)⟩,
 ⟨some 79, (.call (.f 81) [(.t 78)]), some (76, false)⟩,
 ⟨some 80, (.bin .eql (.t 79) (.c (.int .i64 (0)))), some (76, false)⟩,
 ⟨some 81, (.pick (.t 76) (.c (.bool true)) (.t 80)), none⟩]
 [] [1, 49, 50, 51, 66, 67, 68, 69, 70, 71, 72, 73, 74, 75, 76, 77, 78, 79, 80])
 (.cond (.t 81)
 (.seq
 (.ops [⟨some 2, (.mv (.c (.int .i64 (8)))), none⟩]
 [] [81])
 .ret)
 .skip))
 (.seq
 (.ops [⟨some 2, (.mv (.c (.int .i64 (0)))), none⟩]
 [] [81])
 .ret)))))))⟩
def loc43 : List Nat := [1]
def fg43 : List (Nat × List Nat) := [(14, [81]), (13, [81]), (12, [1, 49, 50, 51, 66, 67, 68, 69, 70, 71, 72, 73, 74, 75, 76, 77, 78, 79, 80]), (11, [64, 65]), (10, [1, 49, 50, 64]), (9, [4, 53, 54, 55, 56, 57, 58, 59, 60, 61, 62, 63]), (8, [51, 52]), (6, [3, 47, 48]), (5, [1, 3, 47]), (4, [14, 15, 16, 17, 18, 19, 20, 21, 22, 23, 24, 25, 26, 27, 28, 29, 30, 31, 32, 33, 34, 35, 36, 37, 38, 39, 40, 41, 42, 43, 44, 45, 46]), (3, [1, 3, 14]), (2, [8, 9, 10, 11, 12, 13]), (1, [5, 6, 7]), (0, [0, 2])]
theorem comp43 : compFn Try.prog loc43 (fun i => (fg43.lookup i).getD []) Try.f43 = some lit43 := by kernel_rfl

-- parcener/cake.Value
def lit54 : AFn := ⟨3, [.cell 6 true 2, .tmp 7],
 (.seq
 (.ops [⟨some 3, (.boxL (.t 0)), none⟩,
 ⟨some 4, (.boxL (.t 1)), none⟩,
 ⟨some 5, (.boxL (.t 2)), none⟩,
 ⟨some 6, (.allocL (.agg [(.int .i64 (0)), (.int .i64 (0))])), none⟩,
 ⟨some 7, (.mv (.c (.int .i64 (0)))), none⟩]
 [] [0, 1, 2, 7])
 (.seq
 (.seq
 (.ops [⟨some 17, (.load true 3 (.t 3)), none⟩,
 ⟨some 18, (.call (.f 43) [(.t 17)]), none⟩,
 ⟨some 8, (.mv (.t 18)), none⟩]
 [] [17, 18])
 (.seq
 (.ops [⟨some 19, (.mv (.t 8)), none⟩,
 ⟨some 20, (.bin .neq (.t 19) (.c (.int .i64 (0)))), none⟩]
 [] [19])
 (.cond (.t 20)
 (.seq
 (.ops [⟨some 21, (.build [(.int .i64 (0)), (.int .i64 (0))] []), none⟩,
 ⟨some 22, (.mv (.t 8)), none⟩,
 ⟨none, (.store 2 (.t 6) (.t 21)), none⟩,
 ⟨some 7, (.mv (.t 22)), none⟩]
 [] [3, 4, 5, 8, 20, 21, 22])
 .ret)
 .skip)))
 (.seq
 (.seq
 (.ops [⟨some 23, (.load true 3 (.t 3)), none⟩,
 ⟨some 24, (.load true 2 (.t 4)), none⟩,
 ⟨some 25, (.call (.f 82) [(.t 23), (.t 24)]), none⟩,
 ⟨some 26, (.un .not (.t 25)), none⟩,
 ⟨some 27, (.mv (.t 26)), none⟩,
 ⟨some 28, (.load true 3 (.t 3)), some (27, false)⟩,
 ⟨some 29, (.load true 2 (.t 5)), some (27, false)⟩,
 ⟨some 30, (.call (.f 82) [(.t 28), (.t 29)]), some (27, false)⟩,
 ⟨some 31, (.un .not (.t 30)), some (27, false)⟩,
 ⟨some 32, (.pick (.t 27) (.c (.bool true)) (.t 31)), none⟩,
 ⟨some 33, (.mv (.t 32)), none⟩,
 ⟨some 34, (.load true 2 (.t 5)), some (33, false)⟩,
 ⟨some 35, (.load true 2 (.t 4)), some (33, false)⟩,
 ⟨some 36, (.call (.f 86) [(.t 34), (.t 35)]), some (33, false)⟩,
 ⟨some 37, (.pick (.t 33) (.c (.bool true)) (.t 36)), none⟩]
 [] [8, 20, 23, 24, 25, 26, 27, 28, 29, 30, 31, 32, 33, 34, 35, 36])
 (.cond (.t 37)
 (.seq
 (.ops [⟨some 38, (.build [(.int .i64 (0)), (.int .i64 (0))] []), none⟩,
 ⟨none, (.store 2 (.t 6) (.t 38)), none⟩,
 ⟨some 7, (.mv (.c (.int .i64 (2)))), none⟩]
 [] [3, 4, 5, 37, 38])
 .ret)
 .skip))
 (.seq
 (.ops [⟨some 39, (.call (.f 87) [(.c (.int .i64 (0)))]), none⟩,
 ⟨some 9, (.allocL (.agg [(.int .i64 (0)), (.int .i64 (0))])), none⟩,
 ⟨none, (.store 2 (.t 9) (.t 39)), none⟩]
 [] [37, 39])
 (.seq
 (.ops [⟨some 40, (.load true 2 (.t 4)), none⟩,
 ⟨some 10, (.allocL (.agg [(.int .i64 (0)), (.int .i64 (0))])), none⟩,
 ⟨none, (.store 2 (.t 10) (.t 40)), none⟩]
 [] [4, 40])
 (.seq
 (.seq
 (.ops [⟨some 41, (.fad 2 (.t 3)), none⟩,
 ⟨some 42, (.load false 1 (.t 41)), none⟩,
 ⟨some 43, (.len (.t 42)), none⟩,
 ⟨some 44, (.mv (.c (.int .i64 (0)))), none⟩]
 [] [41])
 (.block 0
 (.loop
 (.seq
 (.ops [⟨some 45, (.bin .lss (.t 44) (.t 43)), none⟩]
 [] [])
 (.seq
 (.cond (.t 45)
 .skip
 (.exit 0))
 (.seq
 (.block 1
 (.seq
 (.ops [⟨some 46, (.mv (.t 44)), none⟩,
 ⟨some 47, (.iad 1 (.t 42) (.t 44)), none⟩,
 ⟨some 48, (.load false 1 (.t 47)), none⟩,
 ⟨some 11, (.mv (.t 46)), none⟩,
 ⟨some 12, (.mv (.t 48)), none⟩]
 [] [45, 46, 47, 48])
 (.seq
 (.ops [⟨some 49, (.fad 1 (.t 3)), none⟩,
 ⟨some 50, (.load false 1 (.t 49)), none⟩,
 ⟨some 51, (.mv (.t 11)), none⟩,
 ⟨some 52, (.bin .add (.t 51) (.c (.int .i64 (1)))), none⟩,
 ⟨some 53, (.iad 1 (.t 50) (.t 52)), none⟩,
 ⟨some 54, (.load false 1 (.t 53)), none⟩,
 ⟨some 55, (.call (.f 87) [(.t 54)]), none⟩,
 ⟨some 13, (.allocL (.agg [(.int .i64 (0)), (.int .i64 (0))])), none⟩,
 ⟨none, (.store 2 (.t 13) (.t 55)), none⟩]
 [] [11, 49, 50, 51, 52, 53, 54, 55])
 (.seq
 (.seq
 (.ops [⟨some 56, (.load true 2 (.t 5)), none⟩,
 ⟨some 57, (.load true 2 (.t 13)), none⟩,
 ⟨some 58, (.call (.f 86) [(.t 56), (.t 57)]), none⟩]
 [] [56, 57])
 (.cond (.t 58)
 (.ops [⟨some 59, (.load true 2 (.t 5)), none⟩,
 ⟨none, (.store 2 (.t 13) (.t 59)), none⟩]
 [] [58, 59])
 .skip))
 (.seq
 (.seq
 (.ops [⟨some 60, (.mv (.t 12)), none⟩,
 ⟨some 61, (.bin .eql (.t 60) (.c (.int .i64 (0)))), none⟩,
 ⟨some 62, (.mv (.t 61)), none⟩,
 ⟨some 63, (.load true 2 (.t 10)), some (62, false)⟩,
 ⟨some 64, (.load true 2 (.t 13)), some (62, false)⟩,
 ⟨some 65, (.call (.f 86) [(.t 63), (.t 64)]), some (62, false)⟩,
 ⟨some 66, (.un .not (.t 65)), some (62, false)⟩,
 ⟨some 67, (.pick (.t 62) (.c (.bool true)) (.t 66)), none⟩]
 [] [58, 60, 61, 62, 63, 64, 65, 66])
 (.cond (.t 67)
 (.seq
 (.seq
 (.ops [⟨some 68, (.load true 2 (.t 10)), none⟩,
 ⟨some 69, (.load true 2 (.t 13)), none⟩,
 ⟨some 70, (.call (.f 86) [(.t 68), (.t 69)]), none⟩]
 [] [12, 67, 68, 69])
 (.cond (.t 70)
 (.ops [⟨some 71, (.load true 2 (.t 13)), none⟩,
 ⟨none, (.store 2 (.t 10) (.t 71)), none⟩]
 [] [13, 70, 71])
 .skip))
 (.exit 1))
 .skip))
 (.seq
 (.ops [⟨some 73, (.load true 2 (.t 13)), none⟩,
 ⟨some 74, (.load true 2 (.t 10)), none⟩,
 ⟨some 75, (.call (.f 38) [(.t 73), (.t 74)]), none⟩,
 ⟨some 72, (.mv (.t 75)), none⟩,
 ⟨some 76, (.ext (.t 72) 0), none⟩,
 ⟨some 77, (.ext (.t 72) 1), none⟩,
 ⟨some 14, (.allocL (.agg [(.int .i64 (0)), (.int .i64 (0))])), none⟩,
 ⟨none, (.store 2 (.t 14) (.t 76)), none⟩,
 ⟨some 15, (.mv (.t 77)), none⟩]
 [] [67, 72, 73, 74, 75, 76, 77])
 (.seq
 (.seq
 (.ops [⟨some 78, (.mv (.t 15)), none⟩,
 ⟨some 79, (.bin .neq (.t 78) (.c (.int .i64 (0)))), none⟩]
 [] [78])
 (.cond (.t 79)
 (.seq
 (.ops [⟨some 80, (.build [(.int .i64 (0)), (.int .i64 (0))] []), none⟩,
 ⟨some 81, (.mv (.t 15)), none⟩,
 ⟨none, (.store 2 (.t 6) (.t 80)), none⟩,
 ⟨some 7, (.mv (.t 81)), none⟩]
 [] [3, 5, 9, 10, 12, 13, 14, 15, 42, 43, 44, 79, 80, 81])
 .ret)
 .skip))
 (.seq
 (.ops [⟨some 83, (.load true 2 (.t 14)), none⟩,
 ⟨some 84, (.mv (.t 12)), none⟩,
 ⟨some 85, (.call (.f 87) [(.t 84)]), none⟩,
 ⟨some 86, (.call (.f 40) [(.t 83), (.t 85)]), none⟩,
 ⟨some 82, (.mv (.t 86)), none⟩,
 ⟨some 87, (.ext (.t 82) 0), none⟩,
 ⟨some 88, (.ext (.t 82) 1), none⟩,
 ⟨some 16, (.allocL (.agg [(.int .i64 (0)), (.int .i64 (0))])), none⟩,
 ⟨none, (.store 2 (.t 16) (.t 87)), none⟩,
 ⟨some 15, (.mv (.t 88)), none⟩]
 [(0, 1), (0, 2), (5, 6), (0, 7), (1, 7), (2, 7), (3, 7), (4, 7), (5, 7), (6, 7), (6, 8)] [12, 14, 79, 82, 83, 84, 85, 86, 87, 88])
 (.seq
 (.seq
 (.ops [⟨some 89, (.mv (.t 15)), none⟩,
 ⟨some 90, (.bin .neq (.t 89) (.c (.int .i64 (0)))), none⟩]
 [] [89])
 (.cond (.t 90)
 (.seq
 (.ops [⟨some 91, (.build [(.int .i64 (0)), (.int .i64 (0))] []), none⟩,
 ⟨some 92, (.mv (.t 15)), none⟩,
 ⟨none, (.store 2 (.t 6) (.t 91)), none⟩,
 ⟨some 7, (.mv (.t 92)), none⟩]
 [] [3, 5, 9, 10, 13, 15, 16, 42, 43, 44, 90, 91, 92])
 .ret)
 .skip))
 (.seq
 (.seq
 (.ops [⟨some 94, (.load true 2 (.t 9)), none⟩,
 ⟨some 95, (.load true 2 (.t 16)), none⟩,
 ⟨some 96, (.call (.f 41) [(.t 94), (.t 95)]), none⟩,
 ⟨some 93, (.mv (.t 96)), none⟩,
 ⟨some 97, (.ext (.t 93) 0), none⟩,
 ⟨some 98, (.ext (.t 93) 1), none⟩,
 ⟨none, (.store 2 (.t 9) (.t 97)), none⟩,
 ⟨some 15, (.mv (.t 98)), none⟩]
 [] [16, 90, 93, 94, 95, 96, 97, 98])
 (.seq
 (.ops [⟨some 99, (.mv (.t 15)), none⟩,
 ⟨some 100, (.bin .neq (.t 99) (.c (.int .i64 (0)))), none⟩]
 [] [99])
 (.cond (.t 100)
 (.seq
 (.ops [⟨some 101, (.build [(.int .i64 (0)), (.int .i64 (0))] []), none⟩,
 ⟨some 102, (.mv (.t 15)), none⟩,
 ⟨none, (.store 2 (.t 6) (.t 101)), none⟩,
 ⟨some 7, (.mv (.t 102)), none⟩]
 [] [3, 5, 9, 10, 13, 15, 42, 43, 44, 100, 101, 102])
 .ret)
 .skip)))
 (.ops [⟨some 103, (.load true 2 (.t 13)), none⟩,
 ⟨none, (.store 2 (.t 10) (.t 103)), none⟩]
 [] [13, 15, 100, 103])))))))))))
 (.ops [⟨some 104, (.bin .add (.t 44) (.c (.int .i64 (1)))), none⟩,
 ⟨some 44, (.mv (.t 104)), none⟩]
 [] [13, 70, 104])))))))
 (.seq
 (.ops [⟨some 105, (.load true 2 (.t 9)), none⟩,
 ⟨none, (.store 2 (.t 6) (.t 105)), none⟩,
 ⟨some 7, (.mv (.c (.int .i64 (0)))), none⟩]
 [] [3, 5, 9, 10, 42, 43, 44, 45, 105])
 .ret)))))))⟩
def loc54 : List Nat := [3, 4, 5, 6, 9, 10, 13, 14, 16]
def fg54 : List (Nat × List Nat) := [(28, [3, 5, 9, 10, 42, 43, 44, 45, 105]), (27, [13, 70, 104]), (26, [13, 15, 100, 103]), (25, [3, 5, 9, 10, 13, 15, 42, 43, 44, 100, 101, 102]), (24, [99]), (23, [16, 90, 93, 94, 95, 96, 97, 98]), (22, [3, 5, 9, 10, 13, 15, 16, 42, 43, 44, 90, 91, 92]), (21, [89]), (20, [12, 14, 79, 82, 83, 84, 85, 86, 87, 88]), (19, [3, 5, 9, 10, 12, 13, 14, 15, 42, 43, 44, 79, 80, 81]), (18, [78]), (17, [67, 72, 73, 74, 75, 76, 77]), (16, [13, 70, 71]), (15, [12, 67, 68, 69]), (14, [58, 60, 61, 62, 63, 64, 65, 66]), (13, [58, 59]), (12, [56, 57]), (11, [11, 49, 50, 51, 52, 53, 54, 55]), (10, [45, 46, 47, 48]), (8, [41]), (7, [4, 40]), (6, [37, 39]), (5, [3, 4, 5, 37, 38]), (4, [8, 20, 23, 24, 25, 26, 27, 28, 29, 30, 31, 32, 33, 34, 35, 36]), (3, [3, 4, 5, 8, 20, 21, 22]), (2, [19]), (1, [17, 18]), (0, [0, 1, 2, 7])]
theorem comp54 : compFn Try.prog loc54 (fun i => (fg54.lookup i).getD []) Try.f54 = some lit54 := by kernel_rfl

-- parcener/proof.asked
def lit55 : AFn := ⟨3, [.tmp 6, .tmp 7, .tmp 8, .tmp 9],
 (.seq
 (.ops [⟨some 4, (.boxL (.t 1)), none⟩,
 ⟨some 6, (.mv (.c (.int .i64 (0)))), none⟩,
 ⟨some 7, (.mv (.c (.int .i64 (0)))), none⟩,
 ⟨some 8, (.mv (.c (.bool false))), none⟩,
 ⟨some 9, (.mv (.c (.int .i64 (0)))), none⟩]
 [] [1, 6, 7, 8, 9])
 (.seq
 (.seq
 (.ops [⟨some 13, (.mv (.t 0)), none⟩,
 ⟨some 14, (.load true 1 (.t 4)), none⟩,
 ⟨some 15, (.call (.f 61) [(.t 13), (.t 14)]), none⟩,
 ⟨some 10, (.mv (.t 15)), none⟩]
 [] [13, 14, 15])
 (.seq
 (.ops [⟨some 16, (.mv (.t 10)), none⟩,
 ⟨some 17, (.bin .neq (.t 16) (.c (.int .i64 (0)))), none⟩]
 [] [16])
 (.cond (.t 17)
 (.seq
 (.ops [⟨some 18, (.mv (.t 10)), none⟩,
 ⟨some 6, (.mv (.c (.int .i64 (0)))), none⟩,
 ⟨some 7, (.mv (.c (.int .i64 (0)))), none⟩,
 ⟨some 8, (.mv (.c (.bool false))), none⟩,
 ⟨some 9, (.mv (.t 18)), none⟩]
 [] [0, 2, 4, 10, 17, 18])
 .ret)
 .skip)))
 (.seq
 (.ops [⟨some 11, (.mv (.c (.bool false))), none⟩]
 [] [10, 17])
 (.seq
 (.seq
 (.ops [⟨some 19, (.mv (.t 2)), none⟩]
 [] [])
 (.block 0
 (.seq
 (.block 3
 (.seq
 (.block 2
 (.seq
 (.block 1
 (.seq
 (.seq
 (.seq
 (.ops [⟨some 21, (.bin .eql (.t 19) (.c (.int .u8 (8)))), none⟩,
 ⟨some 20, (.mv (.t 21)), none⟩]
 [] [21])
 (.cond (.t 20)
 (.exit 1)
 .skip))
 (.seq
 (.seq
 (.ops [⟨some 23, (.bin .eql (.t 19) (.c (.int .u8 (1)))), none⟩,
 ⟨some 22, (.mv (.t 23)), none⟩]
 [] [20, 23])
 (.cond (.t 22)
 .skip
 (.seq
 (.ops [⟨some 24, (.bin .eql (.t 19) (.c (.int .u8 (2)))), none⟩,
 ⟨some 22, (.mv (.t 24)), none⟩]
 [] [24])
 (.cond (.t 22)
 .skip
 (.seq
 (.ops [⟨some 25, (.bin .eql (.t 19) (.c (.int .u8 (4)))), none⟩,
 ⟨some 22, (.mv (.t 25)), none⟩]
 [] [25])
 (.cond (.t 22)
 .skip
 (.ops [⟨some 26, (.bin .eql (.t 19) (.c (.int .u8 (16)))), none⟩,
 ⟨some 22, (.mv (.t 26)), none⟩]
 [] [19, 26])))))))
 (.cond (.t 22)
 (.exit 2)
 .skip)))
 (.exit 3)))
 (.ops [⟨some 11, (.mv (.c (.bool true))), none⟩]
 [] [19, 20])))
 (.exit 0)))
 (.seq
 (.seq
 (.ops [⟨some 6, (.mv (.c (.int .i64 (0)))), none⟩,
 ⟨some 7, (.mv (.c (.int .i64 (0)))), none⟩,
 ⟨some 8, (.mv (.c (.bool false))), none⟩,
 ⟨some 9, (.mv (.c (.int .i64 (2)))), none⟩]
 [] [0, 2, 4, 11, 19, 22])
 .ret)
 (.exit 0)))))
 (.seq
 (.ops [⟨some 28, (.mv (.t 0)), none⟩,
 ⟨some 29, (.load true 1 (.t 4)), none⟩,
 ⟨some 30, (.call (.f 56) [(.t 28), (.t 29)]), none⟩,
 ⟨some 27, (.mv (.t 30)), none⟩,
 ⟨some 31, (.ext (.t 27) 0), none⟩,
 ⟨some 32, (.ext (.t 27) 1), none⟩,
 ⟨some 12, (.mv (.t 31)), none⟩,
 ⟨some 9, (.mv (.t 32)), none⟩]
 [] [0, 4, 19, 22, 27, 28, 29, 30, 31, 32])
 (.seq
 (.seq
 (.ops [⟨some 33, (.mv (.t 9)), none⟩,
 ⟨some 34, (.bin .eql (.t 33) (.c (.int .i64 (0)))), none⟩,
 ⟨some 35, (.mv (.t 34)), none⟩,
 ⟨some 36, (.mv (.t 11)), some (35, true)⟩,
 ⟨some 37, (.pick (.t 35) (.t 36) (.c (.bool false))), none⟩]
 [] [11, 33, 34, 35, 36])
 (.cond (.t 37)
 (.ops [⟨some 38, (.mv (.t 12)), none⟩,
 ⟨some 39, (.call (.f 57) [(.t 38)]), none⟩,
 ⟨some 9, (.mv (.t 39)), none⟩]
 [] [37, 38, 39])
 .skip))
 (.seq
 (.seq
 (.ops [⟨some 40, (.mv (.t 9)), none⟩,
 ⟨some 41, (.bin .neq (.t 40) (.c (.int .i64 (0)))), none⟩]
 [] [37, 40])
 (.cond (.t 41)
 (.seq
 (.ops [⟨some 42, (.mv (.t 9)), none⟩,
 ⟨some 6, (.mv (.c (.int .i64 (0)))), none⟩,
 ⟨some 7, (.mv (.c (.int .i64 (0)))), none⟩,
 ⟨some 8, (.mv (.c (.bool false))), none⟩,
 ⟨some 9, (.mv (.t 42)), none⟩]
 [] [2, 12, 41, 42])
 .ret)
 .skip))
 (.seq
 (.ops [⟨some 44, (.mv (.t 12)), none⟩,
 ⟨some 45, (.mv (.t 2)), none⟩,
 ⟨some 46, (.call (.f 58) [(.t 44), (.t 45)]), none⟩,
 ⟨some 43, (.mv (.t 46)), none⟩,
 ⟨some 47, (.ext (.t 43) 0), none⟩,
 ⟨some 48, (.ext (.t 43) 1), none⟩,
 ⟨some 49, (.ext (.t 43) 2), none⟩,
 ⟨some 6, (.mv (.t 47)), none⟩,
 ⟨some 7, (.mv (.t 48)), none⟩,
 ⟨some 8, (.mv (.t 49)), none⟩]
 [] [2, 9, 12, 41, 43, 44, 45, 46, 47, 48, 49])
 (.seq
 (.ops [⟨some 50, (.mv (.t 6)), none⟩,
 ⟨some 51, (.mv (.t 7)), none⟩,
 ⟨some 52, (.mv (.t 8)), none⟩,
 ⟨some 6, (.mv (.t 50)), none⟩,
 ⟨some 7, (.mv (.t 51)), none⟩,
 ⟨some 8, (.mv (.t 52)), none⟩,
 ⟨some 9, (.mv (.c (.int .i64 (0)))), none⟩]
 [] [50, 51, 52])
 .ret)))))))))⟩
def loc55 : List Nat := [4, 1000004]
def fg55 : List (Nat × List Nat) := [(19, [50, 51, 52]), (18, [2, 9, 12, 41, 43, 44, 45, 46, 47, 48, 49]), (17, [2, 12, 41, 42]), (16, [37, 40]), (15, [37, 38, 39]), (14, [11, 33, 34, 35, 36]), (13, [0, 4, 19, 22, 27, 28, 29, 30, 31, 32]), (12, [0, 2, 4, 11, 19, 22]), (11, [19, 20]), (10, [19, 26]), (9, [25]), (8, [24]), (7, [20, 23]), (6, [21]), (4, [10, 17]), (3, [0, 2, 4, 10, 17, 18]), (2, [16]), (1, [13, 14, 15]), (0, [1, 6, 7, 8, 9])]
theorem comp55 : compFn Try.prog loc55 (fun i => (fg55.lookup i).getD []) Try.f55 = some lit55 := by kernel_rfl

-- parcener/proof.newJudge
def lit56 : AFn := ⟨2, [.tmp 4, .tmp 5],
 (.seq
 (.ops [⟨some 3, (.boxL (.t 1)), none⟩,
 ⟨some 4, (.mv (.c .nilp)), none⟩,
 ⟨some 5, (.mv (.c (.int .i64 (0)))), none⟩]
 [] [1, 4, 5])
 (.seq
 (.ops [⟨some 9, (.mv (.t 0)), none⟩,
 ⟨some 10, (.load true 1 (.t 3)), none⟩,
 ⟨some 11, (.call (.f 23) [(.t 9), (.t 10)]), none⟩,
 ⟨some 8, (.mv (.t 11)), none⟩,
 ⟨some 12, (.ext (.t 8) 0), none⟩,
 ⟨some 13, (.ext (.t 8) 1), none⟩,
 ⟨some 6, (.mv (.t 12)), none⟩,
 ⟨some 7, (.mv (.t 13)), none⟩]
 [] [8, 9, 10, 11, 12, 13])
 (.seq
 (.seq
 (.ops [⟨some 14, (.mv (.t 7)), none⟩,
 ⟨some 15, (.bin .neq (.t 14) (.c (.int .i64 (0)))), none⟩]
 [] [14])
 (.cond (.t 15)
 (.seq
 (.ops [⟨some 16, (.mv (.t 7)), none⟩,
 ⟨some 4, (.mv (.c .nilp)), none⟩,
 ⟨some 5, (.mv (.t 16)), none⟩]
 [] [0, 3, 6, 7, 15, 16])
 .ret)
 .skip))
 (.seq
 (.ops [⟨some 17, (.mv (.t 0)), none⟩,
 ⟨some 18, (.fad 0 (.t 3)), none⟩,
 ⟨some 19, (.load false 1 (.t 18)), none⟩,
 ⟨some 20, (.mv (.t 6)), none⟩,
 ⟨some 21, (.build [.nils, .nils, .nils, .nils] [(0, 1, (.t 17)), (1, 1, (.t 19)), (2, 1, (.t 20))]), none⟩,
 ⟨some 22, (.boxH false 4 (.t 21)), none⟩,
 ⟨some 4, (.mv (.t 22)), none⟩,
 ⟨some 5, (.mv (.c (.int .i64 (0)))), none⟩]
 [] [0, 3, 6, 7, 15, 17, 18, 19, 20, 21, 22])
 .ret))))⟩
def loc56 : List Nat := [3, 1000003, 1000022]
def fg56 : List (Nat × List Nat) := [(4, [0, 3, 6, 7, 15, 17, 18, 19, 20, 21, 22]), (3, [0, 3, 6, 7, 15, 16]), (2, [14]), (1, [8, 9, 10, 11, 12, 13]), (0, [1, 4, 5])]
theorem comp56 : compFn Try.prog loc56 (fun i => (fg56.lookup i).getD []) Try.f56 = some lit56 := by kernel_rfl

-- (*parcener/proof.judge).part
def lit57 : AFn := ⟨1, [.tmp 2],
 (.seq
 (.ops [⟨some 2, (.mv (.c (.int .i64 (0)))), none⟩]
 [] [2])
 (.seq
 (.seq
 (.ops [⟨some 8, (.mv (.t 0)), none⟩,
 ⟨some 9, (.nilchk (.t 8)), none⟩,
 ⟨some 10, (.fad 0 (.t 9)), none⟩,
 ⟨some 11, (.load false 1 (.t 10)), none⟩,
 ⟨some 12, (.len (.t 11)), none⟩,
 ⟨some 13, (.mv (.c (.int .i64 (0)))), none⟩]
 [] [8, 9, 10, 11])
 (.block 0
 (.loop
 (.seq
 (.ops [⟨some 14, (.bin .lss (.t 13) (.t 12)), none⟩]
 [] [])
 (.seq
 (.cond (.t 14)
 .skip
 (.exit 0))
 (.seq
 (.block 1
 (.seq
 (.ops [⟨some 15, (.mv (.t 13)), none⟩,
 ⟨some 3, (.mv (.t 15)), none⟩]
 [] [14, 15])
 (.seq
 (.ops [⟨some 17, (.mv (.t 0)), none⟩,
 ⟨some 18, (.nilchk (.t 17)), none⟩,
 ⟨some 19, (.fad 0 (.t 18)), none⟩,
 ⟨some 20, (.load false 1 (.t 19)), none⟩,
 ⟨some 21, (.mv (.t 3)), none⟩,
 ⟨some 22, (.iad 3 (.t 20) (.t 21)), none⟩,
 ⟨some 23, (.load true 3 (.t 22)), none⟩,
 ⟨some 24, (.call (.f 88) [(.t 23)]), none⟩,
 ⟨some 16, (.mv (.t 24)), none⟩,
 ⟨some 25, (.ext (.t 16) 0), none⟩,
 ⟨some 26, (.ext (.t 16) 1), none⟩,
 ⟨some 4, (.mv (.t 25)), none⟩,
 ⟨some 5, (.mv (.t 26)), none⟩]
 [] [5, 16, 17, 18, 19, 20, 21, 22, 23, 24, 25, 26])
 (.seq
 (.ops [⟨some 28, (.mv (.t 0)), none⟩,
 ⟨some 29, (.nilchk (.t 28)), none⟩,
 ⟨some 30, (.fad 2 (.t 29)), none⟩,
 ⟨some 31, (.load false 1 (.t 30)), none⟩,
 ⟨some 32, (.mv (.t 3)), none⟩,
 ⟨some 33, (.iad 1 (.t 31) (.t 32)), none⟩,
 ⟨some 34, (.load false 1 (.t 33)), none⟩,
 ⟨some 35, (.mv (.t 3)), none⟩,
 ⟨some 36, (.iad 2 (.t 34) (.t 35)), none⟩,
 ⟨some 37, (.load true 2 (.t 36)), none⟩,
 ⟨some 38, (.mv (.t 4)), none⟩,
 ⟨some 39, (.call (.f 99) [(.t 38)]), none⟩,
 ⟨some 40, (.call (.f 39) [(.t 37), (.t 39)]), none⟩,
 ⟨some 27, (.mv (.t 40)), none⟩,
 ⟨some 41, (.ext (.t 27) 0), none⟩,
 ⟨some 42, (.ext (.t 27) 1), none⟩,
 ⟨some 6, (.allocL (.agg [(.int .i64 (0)), (.int .i64 (0))])), none⟩,
 ⟨none, (.store 2 (.t 6) (.t 41)), none⟩,
 ⟨some 7, (.mv (.t 42)), none⟩]
 [(0, 4), (1, 4), (2, 4), (3, 4), (0, 7), (1, 7), (2, 7), (3, 7), (4, 7), (5, 7), (6, 7), (0, 10), (1, 10), (2, 10), (3, 10), (4, 10), (5, 10), (6, 10), (7, 10), (8, 10), (9, 10), (0, 11), (1, 11), (2, 11), (3, 11), (4, 11), (5, 11), (6, 11), (7, 11), (8, 11), (9, 11), (14, 15), (0, 16), (1, 16), (2, 16), (3, 16), (4, 16), (5, 16), (6, 16), (7, 16), (8, 16), (9, 16), (10, 16), (11, 16), (12, 16), (13, 16), (14, 16), (15, 16), (15, 17)] [3, 4, 27, 28, 29, 30, 31, 32, 33, 34, 35, 36, 37, 38, 39, 40, 41, 42])
 (.seq
 (.seq
 (.ops [⟨some 43, (.mv (.t 7)), none⟩,
 ⟨some 44, (.bin .neq (.t 43) (.c (.int .i64 (0)))), none⟩]
 [] [43])
 (.cond (.t 44)
 (.seq
 (.ops [⟨some 45, (.mv (.t 7)), none⟩,
 ⟨some 2, (.mv (.t 45)), none⟩]
 [] [0, 6, 7, 12, 13, 44, 45])
 .ret)
 .skip))
 (.ops [⟨some 46, (.mv (.t 0)), none⟩,
 ⟨some 47, (.mv (.t 0)), none⟩,
 ⟨some 48, (.nilchk (.t 47)), none⟩,
 ⟨some 49, (.fad 3 (.t 48)), none⟩,
 ⟨some 50, (.load false 1 (.t 49)), none⟩,
 ⟨some 51, (.load true 2 (.t 6)), none⟩,
 ⟨some 52, (.buildD 2 (.agg [(.int .i64 (0)), (.int .i64 (0))]) 1 [(0, (.t 51))]), none⟩,
 ⟨some 53, (.app true 2 16 (.t 50) (.t 52)), none⟩,
 ⟨some 54, (.nilchk (.t 46)), none⟩,
 ⟨some 55, (.fad 3 (.t 54)), none⟩,
 ⟨none, (.store 1 (.t 55) (.t 53)), none⟩]
 [(0, 1), (0, 2), (0, 3), (0, 4), (0, 5), (1, 5), (2, 5), (3, 5), (4, 5), (0, 6), (1, 6), (2, 6), (3, 6), (4, 6), (0, 7)] [6, 7, 44, 46, 47, 48, 49, 50, 51, 52, 53, 54, 55]))))))
 (.ops [⟨some 56, (.bin .add (.t 13) (.c (.int .i64 (1)))), none⟩,
 ⟨some 13, (.mv (.t 56)), none⟩]
 [] [56])))))))
 (.seq
 (.ops [⟨some 2, (.mv (.c (.int .i64 (0)))), none⟩]
 [] [0, 12, 13, 14])
 .ret)))⟩
def loc57 : List Nat := [52, 6]
def fg57 : List (Nat × List Nat) := [(10, [0, 12, 13, 14]), (9, [56]), (8, [6, 7, 44, 46, 47, 48, 49, 50, 51, 52, 53, 54, 55]), (7, [0, 6, 7, 12, 13, 44, 45]), (6, [43]), (5, [3, 4, 27, 28, 29, 30, 31, 32, 33, 34, 35, 36, 37, 38, 39, 40, 41, 42]), (4, [5, 16, 17, 18, 19, 20, 21, 22, 23, 24, 25, 26]), (3, [14, 15]), (1, [8, 9, 10, 11]), (0, [2])]
theorem comp57 : compFn Try.prog loc57 (fun i => (fg57.lookup i).getD []) Try.f57 = some lit57 := by kernel_rfl

-- (*parcener/proof.judge).broken
def lit58 : AFn := ⟨2, [.tmp 4, .tmp 5, .tmp 6],
 (.seq
 (.ops [⟨some 2, (.boxH false 1 (.t 0)), none⟩,
 ⟨some 4, (.mv (.c (.int .i64 (0)))), none⟩,
 ⟨some 5, (.mv (.c (.int .i64 (0)))), none⟩,
 ⟨some 6, (.mv (.c (.bool false))), none⟩]
 [] [0, 4, 5, 6])
 (.seq
 (.seq
 (.ops [⟨some 10, (.mv (.t 1)), none⟩]
 [] [1])
 (.block 0
 (.seq
 (.ops [⟨some 12, (.bin .eql (.t 10) (.c (.int .u8 (1)))), none⟩,
 ⟨some 11, (.mv (.t 12)), none⟩]
 [] [12])
 (.cond (.t 11)
 (.seq
 (.ops [⟨some 14, (.load false 1 (.t 2)), none⟩,
 ⟨some 15, (.mkFn (.func 101) [] [(.t 2)]), none⟩,
 ⟨some 16, (.call (.f 100) [(.t 14), (.t 15)]), none⟩,
 ⟨some 13, (.mv (.t 16)), none⟩,
 ⟨some 17, (.ext (.t 13) 0), none⟩,
 ⟨some 18, (.ext (.t 13) 1), none⟩,
 ⟨some 19, (.ext (.t 13) 2), none⟩,
 ⟨some 7, (.mv (.t 17)), none⟩,
 ⟨some 8, (.mv (.t 18)), none⟩,
 ⟨some 9, (.mv (.t 19)), none⟩]
 [] [10, 11, 13, 14, 15, 16, 17, 18, 19])
 (.seq
 (.seq
 (.ops [⟨some 20, (.mv (.t 9)), none⟩,
 ⟨some 21, (.un .not (.t 20)), none⟩,
 ⟨some 22, (.mv (.t 21)), none⟩,
 ⟨some 23, (.load false 1 (.t 2)), some (22, true)⟩,
 ⟨some 24, (.call (.f 103) [(.t 23)]), some (22, true)⟩,
 ⟨some 25, (.pick (.t 22) (.t 24) (.c (.bool false))), none⟩]
 [] [2, 20, 21, 22, 23, 24])
 (.cond (.t 25)
 (.seq
 (.ops [⟨some 4, (.mv (.c (.int .i64 (-1)))), none⟩,
 ⟨some 5, (.mv (.c (.int .i64 (-1)))), none⟩,
 ⟨some 6, (.mv (.c (.bool true))), none⟩]
 [] [7, 8, 9, 25])
 .ret)
 .skip))
 (.seq
 (.ops [⟨some 26, (.mv (.t 7)), none⟩,
 ⟨some 27, (.mv (.t 8)), none⟩,
 ⟨some 28, (.mv (.t 9)), none⟩,
 ⟨some 4, (.mv (.t 26)), none⟩,
 ⟨some 5, (.mv (.t 27)), none⟩,
 ⟨some 6, (.mv (.t 28)), none⟩]
 [] [7, 8, 9, 25, 26, 27, 28])
 .ret)))
 (.seq
 (.ops [⟨some 30, (.bin .eql (.t 10) (.c (.int .u8 (2)))), none⟩,
 ⟨some 29, (.mv (.t 30)), none⟩]
 [] [11, 30])
 (.cond (.t 29)
 (.seq
 (.ops [⟨some 31, (.load false 1 (.t 2)), none⟩,
 ⟨some 32, (.mkFn (.func 104) [] [(.t 2)]), none⟩,
 ⟨some 33, (.call (.f 100) [(.t 31), (.t 32)]), none⟩,
 ⟨some 34, (.ext (.t 33) 0), none⟩,
 ⟨some 35, (.ext (.t 33) 1), none⟩,
 ⟨some 36, (.ext (.t 33) 2), none⟩,
 ⟨some 4, (.mv (.t 34)), none⟩,
 ⟨some 5, (.mv (.t 35)), none⟩,
 ⟨some 6, (.mv (.t 36)), none⟩]
 [] [2, 10, 29, 31, 32, 33, 34, 35, 36])
 .ret)
 (.seq
 (.ops [⟨some 38, (.bin .eql (.t 10) (.c (.int .u8 (4)))), none⟩,
 ⟨some 37, (.mv (.t 38)), none⟩]
 [] [29, 38])
 (.cond (.t 37)
 (.seq
 (.ops [⟨some 39, (.load false 1 (.t 2)), none⟩,
 ⟨some 40, (.mkFn (.func 106) [] [(.t 2)]), none⟩,
 ⟨some 41, (.call (.f 100) [(.t 39), (.t 40)]), none⟩,
 ⟨some 42, (.ext (.t 41) 0), none⟩,
 ⟨some 43, (.ext (.t 41) 1), none⟩,
 ⟨some 44, (.ext (.t 41) 2), none⟩,
 ⟨some 4, (.mv (.t 42)), none⟩,
 ⟨some 5, (.mv (.t 43)), none⟩,
 ⟨some 6, (.mv (.t 44)), none⟩]
 [] [2, 10, 37, 39, 40, 41, 42, 43, 44])
 .ret)
 (.seq
 (.ops [⟨some 46, (.bin .eql (.t 10) (.c (.int .u8 (8)))), none⟩,
 ⟨some 45, (.mv (.t 46)), none⟩]
 [] [10, 37, 46])
 (.cond (.t 45)
 (.seq
 (.ops [⟨some 47, (.load false 1 (.t 2)), none⟩,
 ⟨some 48, (.mkFn (.func 107) [] [(.t 2)]), none⟩,
 ⟨some 49, (.call (.f 100) [(.t 47), (.t 48)]), none⟩,
 ⟨some 50, (.ext (.t 49) 0), none⟩,
 ⟨some 51, (.ext (.t 49) 1), none⟩,
 ⟨some 52, (.ext (.t 49) 2), none⟩,
 ⟨some 4, (.mv (.t 50)), none⟩,
 ⟨some 5, (.mv (.t 51)), none⟩,
 ⟨some 6, (.mv (.t 52)), none⟩]
 [] [2, 45, 47, 48, 49, 50, 51, 52])
 .ret)
 .skip))))))))))
 (.seq
 (.ops [⟨some 53, (.load false 1 (.t 2)), none⟩,
 ⟨some 54, (.mkFn (.func 108) [] [(.t 2)]), none⟩,
 ⟨some 55, (.call (.f 100) [(.t 53), (.t 54)]), none⟩,
 ⟨some 56, (.ext (.t 55) 0), none⟩,
 ⟨some 57, (.ext (.t 55) 1), none⟩,
 ⟨some 58, (.ext (.t 55) 2), none⟩,
 ⟨some 4, (.mv (.t 56)), none⟩,
 ⟨some 5, (.mv (.t 57)), none⟩,
 ⟨some 6, (.mv (.t 58)), none⟩]
 [] [2, 45, 53, 54, 55, 56, 57, 58])
 .ret)))⟩
def loc58 : List Nat := []
def fg58 : List (Nat × List Nat) := [(13, [2, 45, 53, 54, 55, 56, 57, 58]), (12, [2, 45, 47, 48, 49, 50, 51, 52]), (11, [10, 37, 46]), (10, [2, 10, 37, 39, 40, 41, 42, 43, 44]), (9, [29, 38]), (8, [2, 10, 29, 31, 32, 33, 34, 35, 36]), (7, [11, 30]), (6, [7, 8, 9, 25, 26, 27, 28]), (5, [7, 8, 9, 25]), (4, [2, 20, 21, 22, 23, 24]), (3, [10, 11, 13, 14, 15, 16, 17, 18, 19]), (2, [12]), (1, [1]), (0, [0, 4, 5, 6])]
theorem comp58 : compFn Try.prog loc58 (fun i => (fg58.lookup i).getD []) Try.f58 = some lit58 := by kernel_rfl

-- slices.EqualFunc[[][]parcener/api.Ratio,[][]parcener/api.Ratio,[]parcener/api.Ratio,[]parcener/api.Ratio]
def lit59 : AFn := ⟨3, [.tmp 6],
 (.seq
 (.ops [⟨some 6, (.mv (.c (.bool false))), none⟩]
 [] [6])
 (.seq
 (.seq
 (.ops [⟨some 10, (.mv (.t 0)), none⟩,
 ⟨some 11, (.len (.t 10)), none⟩,
 ⟨some 12, (.mv (.t 1)), none⟩,
 ⟨some 13, (.len (.t 12)), none⟩,
 ⟨some 14, (.bin .neq (.t 11) (.t 13)), none⟩]
 [] [10, 11, 12, 13])
 (.cond (.t 14)
 (.seq
 (.ops [⟨some 6, (.mv (.c (.bool false))), none⟩]
 [] [0, 1, 2, 14])
 .ret)
 .skip))
 (.seq
 (.seq
 (.ops [⟨some 15, (.mv (.t 0)), none⟩,
 ⟨some 16, (.len (.t 15)), none⟩,
 ⟨some 17, (.mv (.c (.int .i64 (0)))), none⟩]
 [] [0, 14])
 (.block 0
 (.loop
 (.seq
 (.ops [⟨some 18, (.bin .lss (.t 17) (.t 16)), none⟩]
 [] [])
 (.seq
 (.cond (.t 18)
 .skip
 (.exit 0))
 (.seq
 (.block 1
 (.seq
 (.ops [⟨some 19, (.mv (.t 17)), none⟩,
 ⟨some 20, (.iad 1 (.t 15) (.t 17)), none⟩,
 ⟨some 21, (.load false 1 (.t 20)), none⟩,
 ⟨some 7, (.mv (.t 19)), none⟩,
 ⟨some 8, (.mv (.t 21)), none⟩]
 [] [18, 19, 20, 21])
 (.seq
 (.ops [⟨some 22, (.mv (.t 1)), none⟩,
 ⟨some 23, (.mv (.t 7)), none⟩,
 ⟨some 24, (.iad 1 (.t 22) (.t 23)), none⟩,
 ⟨some 25, (.load false 1 (.t 24)), none⟩,
 ⟨some 9, (.mv (.t 25)), none⟩]
 [] [7, 22, 23, 24, 25])
 (.seq
 (.ops [⟨some 26, (.mv (.t 2)), none⟩,
 ⟨some 27, (.mv (.t 8)), none⟩,
 ⟨some 28, (.mv (.t 9)), none⟩,
 ⟨some 29, (.call (.t 26) [(.t 27), (.t 28)]), none⟩,
 ⟨some 30, (.un .not (.t 29)), none⟩]
 [] [8, 9, 26, 27, 28, 29])
 (.cond (.t 30)
 (.seq
 (.ops [⟨some 6, (.mv (.c (.bool false))), none⟩]
 [] [1, 2, 15, 16, 17, 30])
 .ret)
 .skip)))))
 (.ops [⟨some 31, (.bin .add (.t 17) (.c (.int .i64 (1)))), none⟩,
 ⟨some 17, (.mv (.t 31)), none⟩]
 [] [30, 31])))))))
 (.seq
 (.ops [⟨some 6, (.mv (.c (.bool true))), none⟩]
 [] [1, 2, 15, 16, 17, 18])
 .ret))))⟩
def loc59 : List Nat := []
def fg59 : List (Nat × List Nat) := [(10, [1, 2, 15, 16, 17, 18]), (9, [30, 31]), (8, [1, 2, 15, 16, 17, 30]), (7, [8, 9, 26, 27, 28, 29]), (6, [7, 22, 23, 24, 25]), (5, [18, 19, 20, 21]), (3, [0, 14]), (2, [0, 1, 2, 14]), (1, [10, 11, 12, 13]), (0, [6])]
theorem comp59 : compFn Try.prog loc59 (fun i => (fg59.lookup i).getD []) Try.f59 = some lit59 := by kernel_rfl

-- slices.Equal[[]parcener/api.Ratio,parcener/api.Ratio]
def lit60 : AFn := ⟨2, [.tmp 4],
 (.seq
 (.ops [⟨some 4, (.mv (.c (.bool false))), none⟩]
 [] [4])
 (.seq
 (.seq
 (.ops [⟨some 6, (.mv (.t 0)), none⟩,
 ⟨some 7, (.len (.t 6)), none⟩,
 ⟨some 8, (.mv (.t 1)), none⟩,
 ⟨some 9, (.len (.t 8)), none⟩,
 ⟨some 10, (.bin .neq (.t 7) (.t 9)), none⟩]
 [] [6, 7, 8, 9])
 (.cond (.t 10)
 (.seq
 (.ops [⟨some 4, (.mv (.c (.bool false))), none⟩]
 [] [0, 1, 10])
 .ret)
 .skip))
 (.seq
 (.seq
 (.ops [⟨some 11, (.mv (.t 0)), none⟩,
 ⟨some 12, (.len (.t 11)), none⟩,
 ⟨some 13, (.mv (.c (.int .i64 (0)))), none⟩]
 [] [10, 11])
 (.block 0
 (.loop
 (.seq
 (.ops [⟨some 14, (.bin .lss (.t 13) (.t 12)), none⟩]
 [] [])
 (.seq
 (.cond (.t 14)
 .skip
 (.exit 0))
 (.seq
 (.block 1
 (.seq
 (.ops [⟨some 15, (.mv (.t 13)), none⟩,
 ⟨some 5, (.mv (.t 15)), none⟩]
 [] [14, 15])
 (.seq
 (.ops [⟨some 16, (.mv (.t 0)), none⟩,
 ⟨some 17, (.mv (.t 5)), none⟩,
 ⟨some 18, (.iad 2 (.t 16) (.t 17)), none⟩,
 ⟨some 19, (.load true 2 (.t 18)), none⟩,
 ⟨some 20, (.mv (.t 1)), none⟩,
 ⟨some 21, (.mv (.t 5)), none⟩,
 ⟨some 22, (.iad 2 (.t 20) (.t 21)), none⟩,
 ⟨some 23, (.load true 2 (.t 22)), none⟩,
 ⟨some 24, (.eqA true 2 [(0, (some .i64)), (1, (some .i64))] (.t 19) (.t 23)), none⟩]
 [(0, 1), (0, 4), (1, 4), (2, 4), (3, 4), (0, 5), (1, 5), (2, 5), (3, 5), (4, 5), (0, 6), (1, 6), (2, 6), (3, 6), (0, 7), (1, 7), (2, 7), (3, 7)] [5, 16, 17, 18, 19, 20, 21, 22, 23])
 (.cond (.t 24)
 (.seq
 (.ops [⟨some 4, (.mv (.c (.bool false))), none⟩]
 [] [0, 1, 12, 13, 24])
 .ret)
 .skip))))
 (.ops [⟨some 25, (.bin .add (.t 13) (.c (.int .i64 (1)))), none⟩,
 ⟨some 13, (.mv (.t 25)), none⟩]
 [] [24, 25])))))))
 (.seq
 (.ops [⟨some 4, (.mv (.c (.bool true))), none⟩]
 [] [0, 1, 12, 13, 14])
 .ret))))⟩
def loc60 : List Nat := []
def fg60 : List (Nat × List Nat) := [(9, [0, 1, 12, 13, 14]), (8, [24, 25]), (7, [0, 1, 12, 13, 24]), (6, [5, 16, 17, 18, 19, 20, 21, 22, 23]), (5, [14, 15]), (3, [10, 11]), (2, [0, 1, 10]), (1, [6, 7, 8, 9]), (0, [4])]
theorem comp60 : compFn Try.prog loc60 (fun i => (fg60.lookup i).getD []) Try.f60 = some lit60 := by kernel_rfl

-- parcener/proof.Check
def lit61 : AFn := ⟨2, [.tmp 4],
 (.seq
 (.ops [⟨some 3, (.boxL (.t 1)), none⟩,
 ⟨some 4, (.mv (.c (.int .i64 (0)))), none⟩]
 [] [1, 4])
 (.seq
 (.seq
 (.ops [⟨some 12, (.mv (.t 0)), none⟩,
 ⟨some 13, (.build [.nils, .nils] [(0, 1, (.t 12))]), none⟩,
 ⟨some 14, (.call (.f 33) [(.t 13)]), none⟩,
 ⟨some 5, (.mv (.t 14)), none⟩]
 [] [12, 13, 14])
 (.seq
 (.ops [⟨some 15, (.mv (.t 5)), none⟩,
 ⟨some 16, (.bin .neq (.t 15) (.c (.int .i64 (0)))), none⟩]
 [] [15])
 (.cond (.t 16)
 (.seq
 (.ops [⟨some 17, (.mv (.t 5)), none⟩,
 ⟨some 4, (.mv (.t 17)), none⟩]
 [] [0, 3, 5, 16, 17])
 .ret)
 .skip)))
 (.seq
 (.seq
 (.ops [⟨some 18, (.fad 0 (.t 3)), none⟩,
 ⟨some 19, (.load false 1 (.t 18)), none⟩,
 ⟨some 20, (.len (.t 19)), none⟩,
 ⟨some 21, (.mv (.t 0)), none⟩,
 ⟨some 22, (.len (.t 21)), none⟩,
 ⟨some 23, (.bin .neq (.t 20) (.t 22)), none⟩]
 [] [5, 16, 18, 19, 20, 21, 22])
 (.cond (.t 23)
 (.seq
 (.ops [⟨some 4, (.mv (.c (.int .i64 (2)))), none⟩]
 [] [0, 3, 23])
 .ret)
 .skip))
 (.seq
 (.seq
 (.ops [⟨some 24, (.fad 0 (.t 3)), none⟩,
 ⟨some 25, (.load false 1 (.t 24)), none⟩,
 ⟨some 26, (.len (.t 25)), none⟩,
 ⟨some 27, (.mv (.c (.int .i64 (0)))), none⟩]
 [] [23, 24])
 (.block 0
 (.loop
 (.seq
 (.ops [⟨some 28, (.bin .lss (.t 27) (.t 26)), none⟩]
 [] [])
 (.seq
 (.cond (.t 28)
 .skip
 (.exit 0))
 (.seq
 (.block 1
 (.seq
 (.ops [⟨some 29, (.iad 1 (.t 25) (.t 27)), none⟩,
 ⟨some 30, (.load false 1 (.t 29)), none⟩,
 ⟨some 7, (.mv (.t 30)), none⟩]
 [] [28, 29, 30])
 (.seq
 (.ops [⟨some 31, (.mv (.t 7)), none⟩,
 ⟨some 32, (.call (.f 109) [(.t 31)]), none⟩,
 ⟨some 8, (.mv (.t 32)), none⟩]
 [] [7, 31, 32])
 (.seq
 (.ops [⟨some 33, (.mv (.t 8)), none⟩,
 ⟨some 34, (.bin .neq (.t 33) (.c (.int .i64 (0)))), none⟩]
 [] [33])
 (.cond (.t 34)
 (.seq
 (.ops [⟨some 35, (.mv (.t 8)), none⟩,
 ⟨some 4, (.mv (.t 35)), none⟩]
 [] [0, 3, 8, 25, 26, 27, 34, 35])
 .ret)
 .skip)))))
 (.ops [⟨some 36, (.bin .add (.t 27) (.c (.int .i64 (1)))), none⟩,
 ⟨some 27, (.mv (.t 36)), none⟩]
 [] [8, 34, 36])))))))
 (.seq
 (.seq
 (.ops [⟨some 37, (.fad 0 (.t 3)), none⟩,
 ⟨some 38, (.load false 1 (.t 37)), none⟩,
 ⟨some 39, (.len (.t 38)), none⟩,
 ⟨some 40, (.mv (.c (.int .i64 (0)))), none⟩]
 [] [3, 25, 26, 27, 28, 37])
 (.block 2
 (.loop
 (.seq
 (.ops [⟨some 41, (.bin .lss (.t 40) (.t 39)), none⟩]
 [] [])
 (.seq
 (.cond (.t 41)
 .skip
 (.exit 2))
 (.seq
 (.block 3
 (.seq
 (.ops [⟨some 42, (.iad 1 (.t 38) (.t 40)), none⟩,
 ⟨some 43, (.load false 1 (.t 42)), none⟩,
 ⟨some 10, (.mv (.t 43)), none⟩]
 [] [41, 42, 43])
 (.seq
 (.ops [⟨some 44, (.mv (.t 10)), none⟩,
 ⟨some 45, (.len (.t 44)), none⟩,
 ⟨some 11, (.mv (.t 45)), none⟩]
 [] [44, 45])
 (.seq
 (.ops [⟨some 46, (.mv (.t 11)), none⟩,
 ⟨some 47, (.bin .gtr (.t 46) (.c (.int .i64 (0)))), none⟩,
 ⟨some 48, (.mv (.t 47)), none⟩,
 ⟨some 49, (.mv (.t 10)), some (48, true)⟩,
 ⟨some 50, (.iad 4 (.t 49) (.c (.int .i64 (0)))), some (48, true)⟩,
 ⟨some 51, (.fad 0 (.t 50)), some (48, true)⟩,
 ⟨some 52, (.fad 0 (.t 51)), some (48, true)⟩,
 ⟨some 53, (.load false 1 (.t 52)), some (48, true)⟩,
 ⟨some 54, (.bin .lss (.t 53) (.c (.int .i64 (0)))), some (48, true)⟩,
 ⟨some 55, (.mv (.t 54)), some (48, true)⟩,
 ⟨some 56, (.mv (.t 0)), some (55, false)⟩,
 ⟨some 57, (.iad 3 (.t 56) (.c (.int .i64 (0)))), some (55, false)⟩,
 ⟨some 58, (.fad 0 (.t 57)), some (55, false)⟩,
 ⟨some 59, (.load false 1 (.t 58)), some (55, false)⟩,
 ⟨some 60, (.call (.f 99) [(.t 59)]), some (55, false)⟩,
 ⟨some 61, (.mv (.t 10)), some (55, false)⟩,
 ⟨some 62, (.mv (.t 11)), some (55, false)⟩,
 ⟨some 63, (.bin .sub (.t 62) (.c (.int .i64 (1)))), some (55, false)⟩,
 ⟨some 64, (.iad 4 (.t 61) (.t 63)), some (55, false)⟩,
 ⟨some 65, (.fad 2 (.t 64)), some (55, false)⟩,
 ⟨some 66, (.load true 2 (.t 65)), some (55, false)⟩,
 ⟨some 67, (.call (.f 105) [(.t 60), (.t 66)]), some (55, false)⟩,
 ⟨some 68, (.pick (.t 55) (.c (.bool true)) (.t 67)), some (48, true)⟩,
 ⟨some 69, (.pick (.t 48) (.t 68) (.c (.bool false))), none⟩]
 [(10, 15), (11, 15), (12, 15), (13, 15), (14, 15), (10, 16), (11, 16), (12, 16), (13, 16), (14, 16), (15, 16), (10, 17), (11, 17), (12, 17), (13, 17), (14, 17), (15, 17), (10, 18), (11, 18), (12, 18), (13, 18), (14, 18), (10, 19), (11, 19), (12, 19), (13, 19), (14, 19), (10, 20), (11, 20), (12, 20), (13, 20), (14, 20)] [10, 11, 46, 47, 48, 49, 50, 51, 52, 53, 54, 55, 56, 57, 58, 59, 60, 61, 62, 63, 64, 65, 66, 67, 68])
 (.cond (.t 69)
 (.seq
 (.ops [⟨some 4, (.mv (.c (.int .i64 (2)))), none⟩]
 [] [0, 38, 39, 40, 69])
 .ret)
 .skip)))))
 (.ops [⟨some 70, (.bin .add (.t 40) (.c (.int .i64 (1)))), none⟩,
 ⟨some 40, (.mv (.t 70)), none⟩]
 [] [69, 70])))))))
 (.seq
 (.ops [⟨some 4, (.mv (.c (.int .i64 (0)))), none⟩]
 [] [0, 38, 39, 40, 41])
 .ret))))))⟩
def loc61 : List Nat := [3, 1000003]
def fg61 : List (Nat × List Nat) := [(20, [0, 38, 39, 40, 41]), (19, [69, 70]), (18, [0, 38, 39, 40, 69]), (17, [10, 11, 46, 47, 48, 49, 50, 51, 52, 53, 54, 55, 56, 57, 58, 59, 60, 61, 62, 63, 64, 65, 66, 67, 68]), (16, [44, 45]), (15, [41, 42, 43]), (13, [3, 25, 26, 27, 28, 37]), (12, [8, 34, 36]), (11, [0, 3, 8, 25, 26, 27, 34, 35]), (10, [33]), (9, [7, 31, 32]), (8, [28, 29, 30]), (6, [23, 24]), (5, [0, 3, 23]), (4, [5, 16, 18, 19, 20, 21, 22]), (3, [0, 3, 5, 16, 17]), (2, [15]), (1, [12, 13, 14]), (0, [1, 4])]
theorem comp61 : compFn Try.prog loc61 (fun i => (fg61.lookup i).getD []) Try.f61 = some lit61 := by kernel_rfl

-- parcener/piece.Worth
def lit62 : AFn := ⟨2, [.cell 4 true 2, .tmp 5],
 (.seq
 (.ops [⟨some 2, (.boxH true 3 (.t 0)), none⟩,
 ⟨some 4, (.allocL (.agg [(.int .i64 (0)), (.int .i64 (0))])), none⟩,
 ⟨some 5, (.mv (.c (.int .i64 (0)))), none⟩]
 [] [0, 5])
 (.seq
 (.seq
 (.ops [⟨some 9, (.load true 3 (.t 2)), none⟩,
 ⟨some 10, (.call (.f 43) [(.t 9)]), none⟩,
 ⟨some 6, (.mv (.t 10)), none⟩]
 [] [9, 10])
 (.seq
 (.ops [⟨some 11, (.mv (.t 6)), none⟩,
 ⟨some 12, (.bin .neq (.t 11) (.c (.int .i64 (0)))), none⟩]
 [] [11])
 (.cond (.t 12)
 (.seq
 (.ops [⟨some 13, (.build [(.int .i64 (0)), (.int .i64 (0))] []), none⟩,
 ⟨some 14, (.mv (.t 6)), none⟩,
 ⟨none, (.store 2 (.t 4) (.t 13)), none⟩,
 ⟨some 5, (.mv (.t 14)), none⟩]
 [] [1, 2, 6, 12, 13, 14])
 .ret)
 .skip)))
 (.seq
 (.seq
 (.ops [⟨some 15, (.mv (.t 1)), none⟩,
 ⟨some 16, (.call (.f 109) [(.t 15)]), none⟩,
 ⟨some 7, (.mv (.t 16)), none⟩]
 [] [6, 12, 15, 16])
 (.seq
 (.ops [⟨some 17, (.mv (.t 7)), none⟩,
 ⟨some 18, (.bin .neq (.t 17) (.c (.int .i64 (0)))), none⟩]
 [] [17])
 (.cond (.t 18)
 (.seq
 (.ops [⟨some 19, (.build [(.int .i64 (0)), (.int .i64 (0))] []), none⟩,
 ⟨some 20, (.mv (.t 7)), none⟩,
 ⟨none, (.store 2 (.t 4) (.t 19)), none⟩,
 ⟨some 5, (.mv (.t 20)), none⟩]
 [] [1, 2, 7, 18, 19, 20])
 .ret)
 .skip)))
 (.seq
 (.seq
 (.ops [⟨some 21, (.mv (.t 1)), none⟩,
 ⟨some 22, (.len (.t 21)), none⟩,
 ⟨some 8, (.mv (.t 22)), none⟩]
 [] [7, 18, 21, 22])
 (.seq
 (.ops [⟨some 23, (.mv (.t 8)), none⟩,
 ⟨some 24, (.bin .gtr (.t 23) (.c (.int .i64 (0)))), none⟩,
 ⟨some 25, (.mv (.t 24)), none⟩,
 ⟨some 26, (.mv (.t 1)), some (25, true)⟩,
 ⟨some 27, (.iad 4 (.t 26) (.c (.int .i64 (0)))), some (25, true)⟩,
 ⟨some 28, (.fad 0 (.t 27)), some (25, true)⟩,
 ⟨some 29, (.fad 0 (.t 28)), some (25, true)⟩,
 ⟨some 30, (.load false 1 (.t 29)), some (25, true)⟩,
 ⟨some 31, (.bin .lss (.t 30) (.c (.int .i64 (0)))), some (25, true)⟩,
 ⟨some 32, (.mv (.t 31)), some (25, true)⟩,
 ⟨some 33, (.mv (.t 1)), some (32, false)⟩,
 ⟨some 34, (.mv (.t 8)), some (32, false)⟩,
 ⟨some 35, (.bin .sub (.t 34) (.c (.int .i64 (1)))), some (32, false)⟩,
 ⟨some 36, (.iad 4 (.t 33) (.t 35)), some (32, false)⟩,
 ⟨some 37, (.fad 2 (.t 36)), some (32, false)⟩,
 ⟨some 38, (.load true 2 (.t 37)), some (32, false)⟩,
 ⟨some 39, (.fad 0 (.t 2)), some (32, false)⟩,
 ⟨some 40, (.load false 1 (.t 39)), some (32, false)⟩,
 ⟨some 41, (.build [(.int .i64 (0)), (.int .i64 (0))] [(0, 1, (.t 40)), (1, 1, (.c (.int .i64 (1))))]), some (32, false)⟩,
 ⟨some 42, (.call (.f 110) [(.t 38), (.t 41)]), some (32, false)⟩,
 ⟨some 43, (.bin .gtr (.t 42) (.c (.int .i64 (0)))), some (32, false)⟩,
 ⟨some 44, (.pick (.t 32) (.c (.bool true)) (.t 43)), some (25, true)⟩,
 ⟨some 45, (.pick (.t 25) (.t 44) (.c (.bool false))), none⟩]
 [(10, 11), (10, 12), (10, 16), (11, 16), (12, 16), (13, 16), (14, 16), (15, 16), (10, 17), (11, 17), (12, 17), (13, 17), (14, 17), (15, 17), (10, 18), (11, 18), (12, 18), (13, 18), (14, 18), (15, 18)] [8, 23, 24, 25, 26, 27, 28, 29, 30, 31, 32, 33, 34, 35, 36, 37, 38, 39, 40, 41, 42, 43, 44])
 (.cond (.t 45)
 (.seq
 (.ops [⟨some 46, (.build [(.int .i64 (0)), (.int .i64 (0))] []), none⟩,
 ⟨none, (.store 2 (.t 4) (.t 46)), none⟩,
 ⟨some 5, (.mv (.c (.int .i64 (2)))), none⟩]
 [] [1, 2, 45, 46])
 .ret)
 .skip)))
 (.seq
 (.ops [⟨some 47, (.mv (.t 1)), none⟩,
 ⟨some 48, (.mkFn (.func 112) [] [(.t 2)]), none⟩,
 ⟨some 49, (.call (.f 111) [(.t 47), (.t 48)]), none⟩,
 ⟨some 50, (.ext (.t 49) 0), none⟩,
 ⟨some 51, (.ext (.t 49) 1), none⟩,
 ⟨none, (.store 2 (.t 4) (.t 50)), none⟩,
 ⟨some 5, (.mv (.t 51)), none⟩]
 [] [1, 2, 45, 47, 48, 49, 50, 51])
 .ret)))))⟩
def loc62 : List Nat := [4]
def fg62 : List (Nat × List Nat) := [(10, [1, 2, 45, 47, 48, 49, 50, 51]), (9, [1, 2, 45, 46]), (8, [8, 23, 24, 25, 26, 27, 28, 29, 30, 31, 32, 33, 34, 35, 36, 37, 38, 39, 40, 41, 42, 43, 44]), (7, [7, 18, 21, 22]), (6, [1, 2, 7, 18, 19, 20]), (5, [17]), (4, [6, 12, 15, 16]), (3, [1, 2, 6, 12, 13, 14]), (2, [11]), (1, [9, 10]), (0, [0, 5])]
theorem comp62 : compFn Try.prog loc62 (fun i => (fg62.lookup i).getD []) Try.f62 = some lit62 := by kernel_rfl

-- parcener/parcenerref06.SameWorth
def lit63 : AFn := ⟨2, [.tmp 4],
 (.seq
 (.ops [⟨some 4, (.mv (.c (.bool false))), none⟩]
 [] [4])
 (.seq
 (.seq
 (.ops [⟨some 7, (.mv (.t 0)), none⟩,
 ⟨some 8, (.len (.t 7)), none⟩,
 ⟨some 9, (.mv (.t 1)), none⟩,
 ⟨some 10, (.len (.t 9)), none⟩,
 ⟨some 11, (.bin .neq (.t 8) (.t 10)), none⟩]
 [] [7, 8, 9, 10])
 (.cond (.t 11)
 (.seq
 (.ops [⟨some 4, (.mv (.c (.bool false))), none⟩]
 [] [0, 1, 11])
 .ret)
 .skip))
 (.seq
 (.seq
 (.ops [⟨some 5, (.mv (.c (.int .i64 (0)))), none⟩]
 [] [11])
 (.block 0
 (.loop
 (.seq
 (.seq
 (.ops [⟨some 12, (.mv (.t 5)), none⟩,
 ⟨some 13, (.mv (.t 0)), none⟩,
 ⟨some 14, (.len (.t 13)), none⟩,
 ⟨some 15, (.bin .lss (.t 12) (.t 14)), none⟩]
 [] [12, 13, 14])
 (.cond (.t 15)
 .skip
 (.exit 0)))
 (.seq
 (.block 1
 (.seq
 (.seq
 (.ops [⟨some 18, (.mv (.t 0)), none⟩,
 ⟨some 19, (.mv (.t 5)), none⟩,
 ⟨some 20, (.iad 1 (.t 18) (.t 19)), none⟩,
 ⟨some 21, (.load false 1 (.t 20)), none⟩,
 ⟨some 22, (.len (.t 21)), none⟩,
 ⟨some 23, (.mv (.t 1)), none⟩,
 ⟨some 24, (.mv (.t 5)), none⟩,
 ⟨some 25, (.iad 1 (.t 23) (.t 24)), none⟩,
 ⟨some 26, (.load false 1 (.t 25)), none⟩,
 ⟨some 27, (.len (.t 26)), none⟩,
 ⟨some 28, (.bin .neq (.t 22) (.t 27)), none⟩]
 [(0, 1), (0, 5), (1, 5), (2, 5), (3, 5), (4, 5), (0, 6), (1, 6), (2, 6), (3, 6), (4, 6), (5, 6), (0, 7), (1, 7), (2, 7), (3, 7), (4, 7), (0, 8), (1, 8), (2, 8), (3, 8), (4, 8), (0, 9), (1, 9), (2, 9), (3, 9), (4, 9)] [15, 18, 19, 20, 21, 22, 23, 24, 25, 26, 27])
 (.cond (.t 28)
 (.seq
 (.ops [⟨some 4, (.mv (.c (.bool false))), none⟩]
 [] [0, 1, 5, 28])
 .ret)
 .skip))
 (.seq
 (.ops [⟨some 6, (.mv (.c (.int .i64 (0)))), none⟩]
 [] [28])
 (.block 2
 (.loop
 (.seq
 (.seq
 (.ops [⟨some 29, (.mv (.t 6)), none⟩,
 ⟨some 30, (.mv (.t 0)), none⟩,
 ⟨some 31, (.mv (.t 5)), none⟩,
 ⟨some 32, (.iad 1 (.t 30) (.t 31)), none⟩,
 ⟨some 33, (.load false 1 (.t 32)), none⟩,
 ⟨some 34, (.len (.t 33)), none⟩,
 ⟨some 35, (.bin .lss (.t 29) (.t 34)), none⟩]
 [] [29, 30, 31, 32, 33, 34])
 (.cond (.t 35)
 .skip
 (.exit 2)))
 (.seq
 (.block 3
 (.seq
 (.ops [⟨some 38, (.mv (.t 0)), none⟩,
 ⟨some 39, (.mv (.t 5)), none⟩,
 ⟨some 40, (.iad 1 (.t 38) (.t 39)), none⟩,
 ⟨some 41, (.load false 1 (.t 40)), none⟩,
 ⟨some 42, (.mv (.t 6)), none⟩,
 ⟨some 43, (.iad 2 (.t 41) (.t 42)), none⟩,
 ⟨some 44, (.load true 2 (.t 43)), none⟩,
 ⟨some 45, (.mv (.t 1)), none⟩,
 ⟨some 46, (.mv (.t 5)), none⟩,
 ⟨some 47, (.iad 1 (.t 45) (.t 46)), none⟩,
 ⟨some 48, (.load false 1 (.t 47)), none⟩,
 ⟨some 49, (.mv (.t 6)), none⟩,
 ⟨some 50, (.iad 2 (.t 48) (.t 49)), none⟩,
 ⟨some 51, (.load true 2 (.t 50)), none⟩,
 ⟨some 52, (.eqA true 2 [(0, (some .i64)), (1, (some .i64))] (.t 44) (.t 51)), none⟩]
 [(0, 1), (0, 4), (1, 4), (2, 4), (3, 4), (0, 7), (1, 7), (2, 7), (3, 7), (4, 7), (5, 7), (6, 7), (0, 8), (1, 8), (2, 8), (3, 8), (4, 8), (5, 8), (6, 8), (7, 8), (0, 9), (1, 9), (2, 9), (3, 9), (4, 9), (5, 9), (6, 9), (0, 10), (1, 10), (2, 10), (3, 10), (4, 10), (5, 10), (6, 10), (0, 11), (1, 11), (2, 11), (3, 11), (4, 11), (5, 11), (6, 11), (7, 11), (8, 11), (9, 11), (10, 11), (0, 12), (1, 12), (2, 12), (3, 12), (4, 12), (5, 12), (6, 12), (0, 13), (1, 13), (2, 13), (3, 13), (4, 13), (5, 13), (6, 13)] [35, 38, 39, 40, 41, 42, 43, 44, 45, 46, 47, 48, 49, 50, 51])
 (.cond (.t 52)
 (.seq
 (.ops [⟨some 4, (.mv (.c (.bool false))), none⟩]
 [] [0, 1, 5, 6, 52])
 .ret)
 .skip)))
 (.ops [⟨some 36, (.mv (.t 6)), none⟩,
 ⟨some 37, (.bin .add (.t 36) (.c (.int .i64 (1)))), none⟩,
 ⟨some 6, (.mv (.t 37)), none⟩]
 [] [36, 37, 52]))))))))
 (.ops [⟨some 16, (.mv (.t 5)), none⟩,
 ⟨some 17, (.bin .add (.t 16) (.c (.int .i64 (1)))), none⟩,
 ⟨some 5, (.mv (.t 17)), none⟩]
 [] [6, 16, 17, 35]))))))
 (.seq
 (.ops [⟨some 4, (.mv (.c (.bool true))), none⟩]
 [] [0, 1, 5, 15])
 .ret))))⟩
def loc63 : List Nat := []
def fg63 : List (Nat × List Nat) := [(13, [0, 1, 5, 15]), (5, [6, 16, 17, 35]), (10, [36, 37, 52]), (12, [0, 1, 5, 6, 52]), (11, [35, 38, 39, 40, 41, 42, 43, 44, 45, 46, 47, 48, 49, 50, 51]), (9, [29, 30, 31, 32, 33, 34]), (8, [28]), (7, [0, 1, 5, 28]), (6, [15, 18, 19, 20, 21, 22, 23, 24, 25, 26, 27]), (4, [12, 13, 14]), (3, [11]), (2, [0, 1, 11]), (1, [7, 8, 9, 10]), (0, [4])]
theorem comp63 : compFn Try.prog loc63 (fun i => (fg63.lookup i).getD []) Try.f63 = some lit63 := by kernel_rfl

-- parcener/ratio.check
def lit70 : AFn := ⟨2, [.tmp 4],
 (.seq
 (.ops [⟨some 2, (.boxL (.t 0)), none⟩,
 ⟨some 3, (.boxL (.t 1)), none⟩,
 ⟨some 4, (.mv (.c (.int .i64 (0)))), none⟩]
 [] [0, 1, 4])
 (.seq
 (.ops [⟨some 5, (.load true 2 (.t 2)), none⟩,
 ⟨some 6, (.call (.f 83) [(.t 5)]), none⟩,
 ⟨some 7, (.load true 2 (.t 3)), none⟩,
 ⟨some 8, (.call (.f 83) [(.t 7)]), none⟩,
 ⟨some 9, (.buildD 1 (.int .i64 (0)) 2 [(0, (.t 6)), (1, (.t 8))]), none⟩,
 ⟨some 10, (.call (.f 118) [(.t 9)]), none⟩,
 ⟨some 4, (.mv (.t 10)), none⟩]
 [(0, 2), (1, 2)] [2, 3, 5, 6, 7, 8, 9, 10])
 .ret))⟩
def loc70 : List Nat := [9, 2, 3]
def fg70 : List (Nat × List Nat) := [(1, [2, 3, 5, 6, 7, 8, 9, 10]), (0, [0, 1, 4])]
theorem comp70 : compFn Try.prog loc70 (fun i => (fg70.lookup i).getD []) Try.f70 = some lit70 := by kernel_rfl

-- parcener/ratio.size
def lit71 : AFn := ⟨1, [.tmp 2],
 (.seq
 (.ops [⟨some 2, (.mv (.c (.int .u64 (0)))), none⟩]
 [] [2])
 (.seq
 (.seq
 (.ops [⟨some 3, (.mv (.t 0)), none⟩,
 ⟨some 4, (.bin .lss (.t 3) (.c (.int .i64 (0)))), none⟩]
 [] [3])
 (.cond (.t 4)
 (.seq
 (.ops [⟨some 5, (.mv (.t 0)), none⟩,
 ⟨some 6, (.conv .u64 (.t 5)), none⟩,
 ⟨some 7, (.un .neg (.t 6)), none⟩,
 ⟨some 2, (.mv (.t 7)), none⟩]
 [] [0, 4, 5, 6, 7])
 .ret)
 .skip))
 (.seq
 (.ops [⟨some 8, (.mv (.t 0)), none⟩,
 ⟨some 9, (.conv .u64 (.t 8)), none⟩,
 ⟨some 2, (.mv (.t 9)), none⟩]
 [] [0, 4, 8, 9])
 .ret)))⟩
def loc71 : List Nat := []
def fg71 : List (Nat × List Nat) := [(3, [0, 4, 8, 9]), (2, [0, 4, 5, 6, 7]), (1, [3]), (0, [2])]
theorem comp71 : compFn Try.prog loc71 (fun i => (fg71.lookup i).getD []) Try.f71 = some lit71 := by kernel_rfl

-- parcener/ratio.gcd
def lit72 : AFn := ⟨2, [.tmp 4],
 (.seq
 (.ops [⟨some 4, (.mv (.c (.int .u64 (0)))), none⟩]
 [] [4])
 (.seq
 (.block 0
 (.loop
 (.seq
 (.seq
 (.ops [⟨some 5, (.mv (.t 1)), none⟩,
 ⟨some 6, (.bin .gtr (.t 5) (.c (.int .u64 (0)))), none⟩]
 [] [5])
 (.cond (.t 6)
 .skip
 (.exit 0)))
 (.block 1
 (.ops [⟨some 7, (.mv (.t 1)), none⟩,
 ⟨some 8, (.mv (.t 0)), none⟩,
 ⟨some 9, (.mv (.t 1)), none⟩,
 ⟨some 10, (.bin .rem (.t 8) (.t 9)), none⟩,
 ⟨some 0, (.mv (.t 7)), none⟩,
 ⟨some 1, (.mv (.t 10)), none⟩]
 [(0, 1), (0, 2), (1, 2), (0, 3), (2, 4), (3, 4)] [6, 7, 8, 9, 10])))))
 (.seq
 (.ops [⟨some 11, (.mv (.t 0)), none⟩,
 ⟨some 4, (.mv (.t 11)), none⟩]
 [] [0, 1, 6, 11])
 .ret)))⟩
def loc72 : List Nat := []
def fg72 : List (Nat × List Nat) := [(3, [0, 1, 6, 11]), (2, [6, 7, 8, 9, 10]), (1, [5]), (0, [4])]
theorem comp72 : compFn Try.prog loc72 (fun i => (fg72.lookup i).getD []) Try.f72 = some lit72 := by kernel_rfl

-- math/bits.Mul64
def lit73 : AFn := ⟨2, [.tmp 4, .tmp 5],
 (.seq
 (.ops [⟨some 4, (.mv (.c (.int .u64 (0)))), none⟩,
 ⟨some 5, (.mv (.c (.int .u64 (0)))), none⟩]
 [] [4, 5])
 (.seq
 (.ops [⟨some 14, (.mv (.t 0)), none⟩,
 ⟨some 15, (.bin .and (.t 14) (.c (.int .u64 (4294967295)))), none⟩,
 ⟨some 6, (.mv (.t 15)), none⟩]
 [] [14, 15])
 (.seq
 (.ops [⟨some 16, (.mv (.t 0)), none⟩,
 ⟨some 17, (.bin .shr (.t 16) (.c (.int .u64 (32)))), none⟩,
 ⟨some 7, (.mv (.t 17)), none⟩]
 [] [16, 17])
 (.seq
 (.ops [⟨some 18, (.mv (.t 1)), none⟩,
 ⟨some 19, (.bin .and (.t 18) (.c (.int .u64 (4294967295)))), none⟩,
 ⟨some 8, (.mv (.t 19)), none⟩]
 [] [18, 19])
 (.seq
 (.ops [⟨some 20, (.mv (.t 1)), none⟩,
 ⟨some 21, (.bin .shr (.t 20) (.c (.int .u64 (32)))), none⟩,
 ⟨some 9, (.mv (.t 21)), none⟩]
 [] [20, 21])
 (.seq
 (.ops [⟨some 22, (.mv (.t 6)), none⟩,
 ⟨some 23, (.mv (.t 8)), none⟩,
 ⟨some 24, (.bin .mul (.t 22) (.t 23)), none⟩,
 ⟨some 10, (.mv (.t 24)), none⟩]
 [] [22, 23, 24])
 (.seq
 (.ops [⟨some 25, (.mv (.t 7)), none⟩,
 ⟨some 26, (.mv (.t 8)), none⟩,
 ⟨some 27, (.bin .mul (.t 25) (.t 26)), none⟩,
 ⟨some 28, (.mv (.t 10)), none⟩,
 ⟨some 29, (.bin .shr (.t 28) (.c (.int .u64 (32)))), none⟩,
 ⟨some 30, (.bin .add (.t 27) (.t 29)), none⟩,
 ⟨some 11, (.mv (.t 30)), none⟩]
 [] [8, 10, 25, 26, 27, 28, 29, 30])
 (.seq
 (.ops [⟨some 31, (.mv (.t 11)), none⟩,
 ⟨some 32, (.bin .and (.t 31) (.c (.int .u64 (4294967295)))), none⟩,
 ⟨some 12, (.mv (.t 32)), none⟩]
 [] [31, 32])
 (.seq
 (.ops [⟨some 33, (.mv (.t 11)), none⟩,
 ⟨some 34, (.bin .shr (.t 33) (.c (.int .u64 (32)))), none⟩,
 ⟨some 13, (.mv (.t 34)), none⟩]
 [] [11, 33, 34])
 (.seq
 (.ops [⟨some 35, (.mv (.t 12)), none⟩,
 ⟨some 36, (.mv (.t 6)), none⟩,
 ⟨some 37, (.mv (.t 9)), none⟩,
 ⟨some 38, (.bin .mul (.t 36) (.t 37)), none⟩,
 ⟨some 39, (.bin .add (.t 35) (.t 38)), none⟩,
 ⟨some 12, (.mv (.t 39)), none⟩]
 [] [6, 35, 36, 37, 38, 39])
 (.seq
 (.ops [⟨some 40, (.mv (.t 7)), none⟩,
 ⟨some 41, (.mv (.t 9)), none⟩,
 ⟨some 42, (.bin .mul (.t 40) (.t 41)), none⟩,
 ⟨some 43, (.mv (.t 13)), none⟩,
 ⟨some 44, (.bin .add (.t 42) (.t 43)), none⟩,
 ⟨some 45, (.mv (.t 12)), none⟩,
 ⟨some 46, (.bin .shr (.t 45) (.c (.int .u64 (32)))), none⟩,
 ⟨some 47, (.bin .add (.t 44) (.t 46)), none⟩,
 ⟨some 4, (.mv (.t 47)), none⟩]
 [] [7, 9, 12, 13, 40, 41, 42, 43, 44, 45, 46, 47])
 (.seq
 (.ops [⟨some 48, (.mv (.t 0)), none⟩,
 ⟨some 49, (.mv (.t 1)), none⟩,
 ⟨some 50, (.bin .mul (.t 48) (.t 49)), none⟩,
 ⟨some 5, (.mv (.t 50)), none⟩]
 [] [0, 1, 48, 49, 50])
 .ret))))))))))))⟩
def loc73 : List Nat := []
def fg73 : List (Nat × List Nat) := [(11, [0, 1, 48, 49, 50]), (10, [7, 9, 12, 13, 40, 41, 42, 43, 44, 45, 46, 47]), (9, [6, 35, 36, 37, 38, 39]), (8, [11, 33, 34]), (7, [31, 32]), (6, [8, 10, 25, 26, 27, 28, 29, 30]), (5, [22, 23, 24]), (4, [20, 21]), (3, [18, 19]), (2, [16, 17]), (1, [14, 15]), (0, [4, 5])]
theorem comp73 : compFn Try.prog loc73 (fun i => (fg73.lookup i).getD []) Try.f73 = some lit73 := by kernel_rfl

-- parcener/ratio.signed
def lit74 : AFn := ⟨3, [.cell 6 true 2, .tmp 7],
 (.seq
 (.ops [⟨some 6, (.allocL (.agg [(.int .i64 (0)), (.int .i64 (0))])), none⟩,
 ⟨some 7, (.mv (.c (.int .i64 (0)))), none⟩]
 [] [7])
 (.seq
 (.seq
 (.ops [⟨some 8, (.mv (.t 1)), none⟩,
 ⟨some 9, (.mv (.t 2)), none⟩,
 ⟨some 10, (.minmax true [(.t 8), (.t 9)]), none⟩,
 ⟨some 11, (.bin .gtr (.t 10) (.c (.int .u64 (1000000000000000000)))), none⟩]
 [] [8, 9, 10])
 (.cond (.t 11)
 (.seq
 (.ops [⟨some 12, (.build [(.int .i64 (0)), (.int .i64 (0))] []), none⟩,
 ⟨none, (.store 2 (.t 6) (.t 12)), none⟩,
 ⟨some 7, (.mv (.c (.int .i64 (16)))), none⟩]
 [] [0, 1, 2, 11, 12])
 .ret)
 .skip))
 (.seq
 (.seq
 (.ops [⟨some 13, (.mv (.t 0)), none⟩]
 [] [0, 11])
 (.cond (.t 13)
 (.seq
 (.ops [⟨some 14, (.mv (.t 1)), none⟩,
 ⟨some 15, (.conv .i64 (.t 14)), none⟩,
 ⟨some 16, (.un .neg (.t 15)), none⟩,
 ⟨some 17, (.mv (.t 2)), none⟩,
 ⟨some 18, (.conv .i64 (.t 17)), none⟩,
 ⟨some 19, (.build [(.int .i64 (0)), (.int .i64 (0))] [(0, 1, (.t 16)), (1, 1, (.t 18))]), none⟩,
 ⟨none, (.store 2 (.t 6) (.t 19)), none⟩,
 ⟨some 7, (.mv (.c (.int .i64 (0)))), none⟩]
 [] [1, 2, 13, 14, 15, 16, 17, 18, 19])
 .ret)
 .skip))
 (.seq
 (.ops [⟨some 20, (.mv (.t 1)), none⟩,
 ⟨some 21, (.conv .i64 (.t 20)), none⟩,
 ⟨some 22, (.mv (.t 2)), none⟩,
 ⟨some 23, (.conv .i64 (.t 22)), none⟩,
 ⟨some 24, (.build [(.int .i64 (0)), (.int .i64 (0))] [(0, 1, (.t 21)), (1, 1, (.t 23))]), none⟩,
 ⟨none, (.store 2 (.t 6) (.t 24)), none⟩,
 ⟨some 7, (.mv (.c (.int .i64 (0)))), none⟩]
 [] [1, 2, 13, 20, 21, 22, 23, 24])
 .ret))))⟩
def loc74 : List Nat := [6]
def fg74 : List (Nat × List Nat) := [(5, [1, 2, 13, 20, 21, 22, 23, 24]), (4, [1, 2, 13, 14, 15, 16, 17, 18, 19]), (3, [0, 11]), (2, [0, 1, 2, 11, 12]), (1, [8, 9, 10]), (0, [7])]
theorem comp74 : compFn Try.prog loc74 (fun i => (fg74.lookup i).getD []) Try.f74 = some lit74 := by kernel_rfl

-- math/bits.Rem64
def lit77 : AFn := ⟨3, [.tmp 6],
 (.seq
 (.ops [⟨some 6, (.mv (.c (.int .u64 (0)))), none⟩]
 [] [6])
 (.seq
 (.ops [⟨some 10, (.mv (.t 0)), none⟩,
 ⟨some 11, (.mv (.t 2)), none⟩,
 ⟨some 12, (.bin .rem (.t 10) (.t 11)), none⟩,
 ⟨some 13, (.mv (.t 1)), none⟩,
 ⟨some 14, (.mv (.t 2)), none⟩,
 ⟨some 15, (.call (.f 78) [(.t 12), (.t 13), (.t 14)]), none⟩,
 ⟨some 9, (.mv (.t 15)), none⟩,
 ⟨some 16, (.ext (.t 9) 0), none⟩,
 ⟨some 17, (.ext (.t 9) 1), none⟩,
 ⟨some 7, (.mv (.t 16)), none⟩,
 ⟨some 8, (.mv (.t 17)), none⟩]
 [] [0, 1, 2, 7, 9, 10, 11, 12, 13, 14, 15, 16, 17])
 (.seq
 (.ops [⟨some 18, (.mv (.t 8)), none⟩,
 ⟨some 6, (.mv (.t 18)), none⟩]
 [] [8, 18])
 .ret)))⟩
def loc77 : List Nat := []
def fg77 : List (Nat × List Nat) := [(2, [8, 18]), (1, [0, 1, 2, 7, 9, 10, 11, 12, 13, 14, 15, 16, 17]), (0, [6])]
theorem comp77 : compFn Try.prog loc77 (fun i => (fg77.lookup i).getD []) Try.f77 = some lit77 := by kernel_rfl

def tab0 : List (Nat × AFn) := [(4, lit4), (14, lit14), (15, lit15), (16, lit16), (17, lit17), (18, lit18), (19, lit19), (20, lit20), (21, lit21), (22, lit22), (23, lit23), (24, lit24), (33, lit33), (38, lit38), (39, lit39), (40, lit40), (41, lit41), (43, lit43), (54, lit54), (55, lit55), (56, lit56), (57, lit57), (58, lit58), (59, lit59), (60, lit60), (61, lit61), (62, lit62), (63, lit63), (70, lit70), (71, lit71), (72, lit72), (73, lit73), (74, lit74), (77, lit77)]
theorem tabOk0 : AllOk Try.prog tab0 := ⟨⟨_, _, _, Try.func4, comp4⟩, ⟨_, _, _, Try.func14, comp14⟩, ⟨_, _, _, Try.func15, comp15⟩, ⟨_, _, _, Try.func16, comp16⟩, ⟨_, _, _, Try.func17, comp17⟩, ⟨_, _, _, Try.func18, comp18⟩, ⟨_, _, _, Try.func19, comp19⟩, ⟨_, _, _, Try.func20, comp20⟩, ⟨_, _, _, Try.func21, comp21⟩, ⟨_, _, _, Try.func22, comp22⟩, ⟨_, _, _, Try.func23, comp23⟩, ⟨_, _, _, Try.func24, comp24⟩, ⟨_, _, _, Try.func33, comp33⟩, ⟨_, _, _, Try.func38, comp38⟩, ⟨_, _, _, Try.func39, comp39⟩, ⟨_, _, _, Try.func40, comp40⟩, ⟨_, _, _, Try.func41, comp41⟩, ⟨_, _, _, Try.func43, comp43⟩, ⟨_, _, _, Try.func54, comp54⟩, ⟨_, _, _, Try.func55, comp55⟩, ⟨_, _, _, Try.func56, comp56⟩, ⟨_, _, _, Try.func57, comp57⟩, ⟨_, _, _, Try.func58, comp58⟩, ⟨_, _, _, Try.func59, comp59⟩, ⟨_, _, _, Try.func60, comp60⟩, ⟨_, _, _, Try.func61, comp61⟩, ⟨_, _, _, Try.func62, comp62⟩, ⟨_, _, _, Try.func63, comp63⟩, ⟨_, _, _, Try.func70, comp70⟩, ⟨_, _, _, Try.func71, comp71⟩, ⟨_, _, _, Try.func72, comp72⟩, ⟨_, _, _, Try.func73, comp73⟩, ⟨_, _, _, Try.func74, comp74⟩, ⟨_, _, _, Try.func77, comp77⟩, trivial⟩
end Go.Proofs.Ytclfeoieffcoiaa.Pn
