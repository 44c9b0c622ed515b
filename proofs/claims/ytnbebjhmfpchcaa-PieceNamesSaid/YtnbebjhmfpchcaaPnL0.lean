/- The functions that the statement PieceNames runs, in the small code (part 0); each is what the framework makes of the program. -/
import Derived.Test.YtnbebjhmfpchcaaFw27
import Derived.Test.YtnbebjhmfpchcaaRows
namespace Go.Proofs.Ytnbebjhmfpchcaa.Pn
open Go Go.Pf
-- parcener/parcenerlaw03.PieceNames
def lit7 : AFn := ⟨0, [.tmp 0],
 (.seq
 (.ops [⟨some 0, (.mv (.c (.bool false))), none⟩]
 [] [0])
 (.seq
 (.ops [⟨some 44, (.call (.f 26) [(.c (.int .i64 (0))), (.c (.int .i64 (4)))]), none⟩,
 ⟨some 45, (.call (.f 26) [(.c (.int .i64 (6))), (.c (.int .i64 (8)))]), none⟩,
 ⟨some 46, (.buildSl true 4 (.agg [(.int .i64 (0)), (.int .i64 (0)), (.int .i64 (0)), (.int .i64 (0))]) 2 [(0, (.t 44)), (1, (.t 45))]), none⟩,
 ⟨some 47, (.call (.f 26) [(.c (.int .i64 (1))), (.c (.int .i64 (2)))]), none⟩,
 ⟨some 48, (.call (.f 26) [(.c (.int .i64 (4))), (.c (.int .i64 (7)))]), none⟩,
 ⟨some 49, (.buildSl true 4 (.agg [(.int .i64 (0)), (.int .i64 (0)), (.int .i64 (0)), (.int .i64 (0))]) 2 [(0, (.t 47)), (1, (.t 48))]), none⟩,
 ⟨some 1, (.mv (.t 46)), none⟩,
 ⟨some 2, (.mv (.t 49)), none⟩]
 [] [44, 45, 46, 47, 48, 49])
 (.seq
 (.ops [⟨some 51, (.mv (.t 1)), none⟩,
 ⟨some 52, (.mv (.t 2)), none⟩,
 ⟨some 53, (.call (.f 10) [(.t 51), (.t 52)]), none⟩,
 ⟨some 50, (.mv (.t 53)), none⟩,
 ⟨some 54, (.ext (.t 50) 0), none⟩,
 ⟨some 55, (.ext (.t 50) 1), none⟩,
 ⟨some 3, (.mv (.t 54)), none⟩,
 ⟨some 4, (.mv (.t 55)), none⟩]
 [] [50, 51, 52, 53, 54, 55])
 (.seq
 (.ops [⟨some 57, (.mv (.t 1)), none⟩,
 ⟨some 58, (.mv (.t 2)), none⟩,
 ⟨some 59, (.call (.f 12) [(.t 57), (.t 58)]), none⟩,
 ⟨some 56, (.mv (.t 59)), none⟩,
 ⟨some 60, (.ext (.t 56) 0), none⟩,
 ⟨some 61, (.ext (.t 56) 1), none⟩,
 ⟨some 5, (.mv (.t 60)), none⟩,
 ⟨some 6, (.mv (.t 61)), none⟩]
 [] [56, 57, 58, 59, 60, 61])
 (.seq
 (.ops [⟨some 63, (.mv (.t 1)), none⟩,
 ⟨some 64, (.mv (.t 2)), none⟩,
 ⟨some 65, (.call (.f 14) [(.t 63), (.t 64)]), none⟩,
 ⟨some 62, (.mv (.t 65)), none⟩,
 ⟨some 66, (.ext (.t 62) 0), none⟩,
 ⟨some 67, (.ext (.t 62) 1), none⟩,
 ⟨some 7, (.mv (.t 66)), none⟩,
 ⟨some 8, (.mv (.t 67)), none⟩]
 [] [62, 63, 64, 65, 66, 67])
 (.seq
 (.ops [⟨some 69, (.mv (.t 2)), none⟩,
 ⟨some 70, (.mv (.t 1)), none⟩,
 ⟨some 71, (.call (.f 14) [(.t 69), (.t 70)]), none⟩,
 ⟨some 68, (.mv (.t 71)), none⟩,
 ⟨some 72, (.ext (.t 68) 0), none⟩,
 ⟨some 73, (.ext (.t 68) 1), none⟩,
 ⟨some 9, (.mv (.t 72)), none⟩,
 ⟨some 10, (.mv (.t 73)), none⟩]
 [] [2, 68, 69, 70, 71, 72, 73])
 (.seq
 (.ops [⟨some 75, (.mv (.t 1)), none⟩,
 ⟨some 76, (.call (.f 12) [(.t 75), (.c .nils)]), none⟩,
 ⟨some 74, (.mv (.t 76)), none⟩,
 ⟨some 77, (.ext (.t 74) 0), none⟩,
 ⟨some 78, (.ext (.t 74) 1), none⟩,
 ⟨some 11, (.mv (.t 77)), none⟩,
 ⟨some 12, (.mv (.t 78)), none⟩]
 [] [74, 75, 76, 77, 78])
 (.seq
 (.ops [⟨some 79, (.buildD 1 (.int .i64 (0)) 3 [(0, (.c (.int .i64 (0)))), (1, (.c (.int .i64 (3)))), (2, (.c (.int .i64 (8))))]), none⟩,
 ⟨some 80, (.buildD 1 (.int .i64 (0)) 2 [(0, (.c (.int .i64 (2)))), (1, (.c (.int .i64 (1))))]), none⟩,
 ⟨some 81, (.build [(.int .i64 (0)), .nils, .nils] [(0, 1, (.c (.int .i64 (8)))), (1, 1, (.t 79)), (2, 1, (.t 80))]), none⟩,
 ⟨some 13, (.allocL (.agg [(.int .i64 (0)), .nils, .nils])), none⟩,
 ⟨none, (.store 3 (.t 13) (.t 81)), none⟩]
 [] [79, 80, 81])
 (.seq
 (.ops [⟨some 83, (.load true 3 (.t 13)), none⟩,
 ⟨some 84, (.mv (.t 1)), none⟩,
 ⟨some 85, (.call (.f 27) [(.t 83), (.t 84)]), none⟩,
 ⟨some 82, (.mv (.t 85)), none⟩,
 ⟨some 86, (.ext (.t 82) 0), none⟩,
 ⟨some 87, (.ext (.t 82) 1), none⟩,
 ⟨some 14, (.allocL (.agg [(.int .i64 (0)), (.int .i64 (0))])), none⟩,
 ⟨none, (.store 2 (.t 14) (.t 86)), none⟩,
 ⟨some 15, (.mv (.t 87)), none⟩]
 [] [1, 82, 83, 84, 85, 86, 87])
 (.seq
 (.ops [⟨some 89, (.load true 3 (.t 13)), none⟩,
 ⟨some 90, (.call (.f 27) [(.t 89), (.c .nils)]), none⟩,
 ⟨some 88, (.mv (.t 90)), none⟩,
 ⟨some 91, (.ext (.t 88) 0), none⟩,
 ⟨some 92, (.ext (.t 88) 1), none⟩,
 ⟨some 16, (.allocL (.agg [(.int .i64 (0)), (.int .i64 (0))])), none⟩,
 ⟨none, (.store 2 (.t 16) (.t 91)), none⟩,
 ⟨some 17, (.mv (.t 92)), none⟩]
 [] [88, 89, 90, 91, 92])
 (.seq
 (.ops [⟨some 93, (.mv (.t 3)), none⟩,
 ⟨some 94, (.mv (.t 4)), none⟩,
 ⟨some 95, (.call (.f 26) [(.c (.int .i64 (0))), (.c (.int .i64 (8)))]), none⟩,
 ⟨some 96, (.buildD 4 (.agg [(.int .i64 (0)), (.int .i64 (0)), (.int .i64 (0)), (.int .i64 (0))]) 1 [(0, (.t 95))]), none⟩,
 ⟨some 97, (.call (.f 28) [(.t 93), (.t 94), (.t 96)]), none⟩,
 ⟨some 98, (.mv (.t 97)), none⟩,
 ⟨some 99, (.mv (.t 5)), some (98, true)⟩,
 ⟨some 100, (.mv (.t 6)), some (98, true)⟩,
 ⟨some 101, (.call (.f 26) [(.c (.int .i64 (1))), (.c (.int .i64 (2)))]), some (98, true)⟩,
 ⟨some 102, (.call (.f 26) [(.c (.int .i64 (6))), (.c (.int .i64 (7)))]), some (98, true)⟩,
 ⟨some 103, (.buildD 4 (.agg [(.int .i64 (0)), (.int .i64 (0)), (.int .i64 (0)), (.int .i64 (0))]) 2 [(0, (.t 101)), (1, (.t 102))]), some (98, true)⟩,
 ⟨some 104, (.call (.f 28) [(.t 99), (.t 100), (.t 103)]), some (98, true)⟩,
 ⟨some 105, (.pick (.t 98) (.t 104) (.c (.bool false))), none⟩,
 ⟨some 106, (.mv (.t 105)), none⟩,
 ⟨some 107, (.mv (.t 7)), some (106, true)⟩,
 ⟨some 108, (.mv (.t 8)), some (106, true)⟩,
 ⟨some 109, (.call (.f 26) [(.c (.int .i64 (0))), (.c (.int .i64 (1)))]), some (106, true)⟩,
 ⟨some 110, (.call (.f 26) [(.c (.int .i64 (2))), (.c (.int .i64 (4)))]), some (106, true)⟩,
 ⟨some 111, (.call (.f 26) [(.c (.int .i64 (7))), (.c (.int .i64 (8)))]), some (106, true)⟩,
 ⟨some 112, (.buildD 4 (.agg [(.int .i64 (0)), (.int .i64 (0)), (.int .i64 (0)), (.int .i64 (0))]) 3 [(0, (.t 109)), (1, (.t 110)), (2, (.t 111))]), some (106, true)⟩,
 ⟨some 113, (.call (.f 28) [(.t 107), (.t 108), (.t 112)]), some (106, true)⟩,
 ⟨some 114, (.pick (.t 106) (.t 113) (.c (.bool false))), none⟩,
 ⟨some 115, (.mv (.t 114)), none⟩,
 ⟨some 116, (.mv (.t 9)), some (115, true)⟩,
 ⟨some 117, (.mv (.t 10)), some (115, true)⟩,
 ⟨some 118, (.call (.f 26) [(.c (.int .i64 (4))), (.c (.int .i64 (6)))]), some (115, true)⟩,
 ⟨some 119, (.buildD 4 (.agg [(.int .i64 (0)), (.int .i64 (0)), (.int .i64 (0)), (.int .i64 (0))]) 1 [(0, (.t 118))]), some (115, true)⟩,
 ⟨some 120, (.call (.f 28) [(.t 116), (.t 117), (.t 119)]), some (115, true)⟩,
 ⟨some 121, (.pick (.t 115) (.t 120) (.c (.bool false))), none⟩,
 ⟨some 122, (.mv (.t 121)), none⟩,
 ⟨some 123, (.mv (.t 11)), some (122, true)⟩,
 ⟨some 124, (.mv (.t 12)), some (122, true)⟩,
 ⟨some 125, (.call (.f 28) [(.t 123), (.t 124), (.c .nils)]), some (122, true)⟩,
 ⟨some 126, (.pick (.t 122) (.t 125) (.c (.bool false))), none⟩,
 ⟨some 127, (.mv (.t 126)), none⟩,
 ⟨some 128, (.mv (.t 15)), some (127, true)⟩,
 ⟨some 129, (.bin .eql (.t 128) (.c (.int .i64 (0)))), some (127, true)⟩,
 ⟨some 130, (.pick (.t 127) (.t 129) (.c (.bool false))), none⟩,
 ⟨some 131, (.mv (.t 130)), none⟩,
 ⟨some 132, (.load true 2 (.t 14)), some (131, true)⟩,
 ⟨some 133, (.build [(.int .i64 (0)), (.int .i64 (0))] [(0, 1, (.c (.int .i64 (9)))), (1, 1, (.c (.int .i64 (1))))]), some (131, true)⟩,
 ⟨some 134, (.eqA false 2 [(0, (some .i64)), (1, (some .i64))] (.t 132) (.t 133)), some (131, true)⟩,
 ⟨some 135, (.pick (.t 131) (.t 134) (.c (.bool false))), none⟩,
 ⟨some 136, (.mv (.t 135)), none⟩,
 ⟨some 137, (.mv (.t 17)), some (136, true)⟩,
 ⟨some 138, (.bin .eql (.t 137) (.c (.int .i64 (0)))), some (136, true)⟩,
 ⟨some 139, (.pick (.t 136) (.t 138) (.c (.bool false))), none⟩,
 ⟨some 140, (.mv (.t 139)), none⟩,
 ⟨some 141, (.load true 2 (.t 16)), some (140, true)⟩,
 ⟨some 142, (.build [(.int .i64 (0)), (.int .i64 (0))] [(1, 1, (.c (.int .i64 (1))))]), some (140, true)⟩,
 ⟨some 143, (.eqA false 2 [(0, (some .i64)), (1, (some .i64))] (.t 141) (.t 142)), some (140, true)⟩,
 ⟨some 144, (.pick (.t 140) (.t 143) (.c (.bool false))), none⟩,
 ⟨some 18, (.mv (.t 144)), none⟩]
 [] [3, 4, 5, 6, 7, 8, 9, 10, 11, 12, 14, 15, 16, 17, 93, 94, 95, 96, 97, 98, 99, 100, 101, 102, 103, 104, 105, 106, 107, 108, 109, 110, 111, 112, 113, 114, 115, 116, 117, 118, 119, 120, 121, 122, 123, 124, 125, 126, 127, 128, 129, 130, 131, 132, 133, 134, 135, 136, 137, 138, 139, 140, 141, 142, 143, 144])
 (.seq
 (.ops [⟨some 19, (.mv (.c .nils)), none⟩]
 [] [])
 (.seq
 (.seq
 (.ops [⟨some 20, (.mv (.c (.int .i64 (0)))), none⟩]
 [] [])
 (.block 0
 (.loop
 (.seq
 (.seq
 (.ops [⟨some 145, (.mv (.t 20)), none⟩,
 ⟨some 146, (.bin .lss (.t 145) (.c (.int .i64 (61)))), none⟩]
 [] [145])
 (.cond (.t 146)
 .skip
 (.exit 0)))
 (.seq
 (.block 1
 (.ops [⟨some 149, (.mv (.t 19)), none⟩,
 ⟨some 150, (.mv (.t 20)), none⟩,
 ⟨some 151, (.bin .mul (.c (.int .i64 (2))) (.t 150)), none⟩,
 ⟨some 152, (.mv (.t 20)), none⟩,
 ⟨some 153, (.bin .mul (.c (.int .i64 (2))) (.t 152)), none⟩,
 ⟨some 154, (.bin .add (.t 153) (.c (.int .i64 (1)))), none⟩,
 ⟨some 155, (.call (.f 26) [(.t 151), (.t 154)]), none⟩,
 ⟨some 156, (.buildD 4 (.agg [(.int .i64 (0)), (.int .i64 (0)), (.int .i64 (0)), (.int .i64 (0))]) 1 [(0, (.t 155))]), none⟩,
 ⟨some 157, (.app true 4 32 (.t 149) (.t 156)), none⟩,
 ⟨some 19, (.mv (.t 157)), none⟩]
 [] [146, 149, 150, 151, 152, 153, 154, 155, 156, 157]))
 (.ops [⟨some 147, (.mv (.t 20)), none⟩,
 ⟨some 148, (.bin .add (.t 147) (.c (.int .i64 (1)))), none⟩,
 ⟨some 20, (.mv (.t 148)), none⟩]
 [] [147, 148]))))))
 (.seq
 (.ops [⟨some 159, (.mv (.t 19)), none⟩,
 ⟨some 160, (.call (.f 19) [(.t 159)]), none⟩,
 ⟨some 158, (.mv (.t 160)), none⟩,
 ⟨some 161, (.ext (.t 158) 0), none⟩,
 ⟨some 162, (.ext (.t 158) 1), none⟩,
 ⟨some 21, (.mv (.t 161)), none⟩,
 ⟨some 22, (.mv (.t 162)), none⟩]
 [] [20, 21, 146, 158, 159, 160, 161, 162])
 (.seq
 (.ops [⟨some 164, (.mv (.t 19)), none⟩,
 ⟨some 165, (.slc 4 (.t 164) none (some (.c (.int .i64 (60)))) none), none⟩,
 ⟨some 166, (.call (.f 26) [(.c (.int .i64 (-2))), (.c (.int .i64 (-1)))]), none⟩,
 ⟨some 167, (.buildD 4 (.agg [(.int .i64 (0)), (.int .i64 (0)), (.int .i64 (0)), (.int .i64 (0))]) 1 [(0, (.t 166))]), none⟩,
 ⟨some 168, (.call (.f 10) [(.t 165), (.t 167)]), none⟩,
 ⟨some 163, (.mv (.t 168)), none⟩,
 ⟨some 169, (.ext (.t 163) 0), none⟩,
 ⟨some 170, (.ext (.t 163) 1), none⟩,
 ⟨some 23, (.mv (.t 169)), none⟩,
 ⟨some 24, (.mv (.t 170)), none⟩]
 [(0, 2), (1, 2), (0, 3), (1, 3), (6, 7), (7, 8)] [23, 163, 164, 165, 166, 167, 168, 169, 170])
 (.seq
 (.ops [⟨some 172, (.call (.f 26) [(.c (.int .i64 (1))), (.c (.int .i64 (1)))]), none⟩,
 ⟨some 173, (.buildD 4 (.agg [(.int .i64 (0)), (.int .i64 (0)), (.int .i64 (0)), (.int .i64 (0))]) 1 [(0, (.t 172))]), none⟩,
 ⟨some 174, (.call (.f 19) [(.t 173)]), none⟩,
 ⟨some 171, (.mv (.t 174)), none⟩,
 ⟨some 175, (.ext (.t 171) 0), none⟩,
 ⟨some 176, (.ext (.t 171) 1), none⟩,
 ⟨some 25, (.mv (.t 175)), none⟩,
 ⟨some 26, (.mv (.t 176)), none⟩]
 [] [25, 171, 172, 173, 174, 175, 176])
 (.seq
 (.ops [⟨some 178, (.call (.f 26) [(.c (.int .i64 (1))), (.c (.int .i64 (2)))]), none⟩,
 ⟨some 179, (.call (.f 26) [(.c (.int .i64 (2))), (.c (.int .i64 (3)))]), none⟩,
 ⟨some 180, (.buildD 4 (.agg [(.int .i64 (0)), (.int .i64 (0)), (.int .i64 (0)), (.int .i64 (0))]) 2 [(0, (.t 178)), (1, (.t 179))]), none⟩,
 ⟨some 181, (.call (.f 10) [(.t 180), (.c .nils)]), none⟩,
 ⟨some 177, (.mv (.t 181)), none⟩,
 ⟨some 182, (.ext (.t 177) 0), none⟩,
 ⟨some 183, (.ext (.t 177) 1), none⟩,
 ⟨some 27, (.mv (.t 182)), none⟩,
 ⟨some 28, (.mv (.t 183)), none⟩]
 [] [27, 177, 178, 179, 180, 181, 182, 183])
 (.seq
 (.ops [⟨some 185, (.build [(.int .i64 (0)), (.int .i64 (0))] []), none⟩,
 ⟨some 186, (.call (.f 22) [(.c .nils), (.t 185)]), none⟩,
 ⟨some 184, (.mv (.t 186)), none⟩,
 ⟨some 187, (.ext (.t 184) 0), none⟩,
 ⟨some 188, (.ext (.t 184) 1), none⟩,
 ⟨some 29, (.mv (.t 187)), none⟩,
 ⟨some 30, (.mv (.t 188)), none⟩]
 [] [29, 184, 185, 186, 187, 188])
 (.seq
 (.ops [⟨some 190, (.load true 3 (.t 13)), none⟩,
 ⟨some 191, (.call (.f 26) [(.c (.int .i64 (7))), (.c (.int .i64 (9)))]), none⟩,
 ⟨some 192, (.buildD 4 (.agg [(.int .i64 (0)), (.int .i64 (0)), (.int .i64 (0)), (.int .i64 (0))]) 1 [(0, (.t 191))]), none⟩,
 ⟨some 193, (.call (.f 27) [(.t 190), (.t 192)]), none⟩,
 ⟨some 189, (.mv (.t 193)), none⟩,
 ⟨some 194, (.ext (.t 189) 0), none⟩,
 ⟨some 195, (.ext (.t 189) 1), none⟩,
 ⟨some 31, (.allocL (.agg [(.int .i64 (0)), (.int .i64 (0))])), none⟩,
 ⟨none, (.store 2 (.t 31) (.t 194)), none⟩,
 ⟨some 32, (.mv (.t 195)), none⟩]
 [(0, 1), (0, 2), (5, 6), (0, 7), (1, 7), (2, 7), (3, 7), (4, 7), (5, 7), (6, 7), (6, 8)] [31, 189, 190, 191, 192, 193, 194, 195])
 (.seq
 (.ops [⟨some 197, (.load true 3 (.t 13)), none⟩,
 ⟨some 198, (.call (.f 26) [(.c (.int .i64 (-1))), (.c (.int .i64 (1)))]), none⟩,
 ⟨some 199, (.buildD 4 (.agg [(.int .i64 (0)), (.int .i64 (0)), (.int .i64 (0)), (.int .i64 (0))]) 1 [(0, (.t 198))]), none⟩,
 ⟨some 200, (.call (.f 27) [(.t 197), (.t 199)]), none⟩,
 ⟨some 196, (.mv (.t 200)), none⟩,
 ⟨some 201, (.ext (.t 196) 0), none⟩,
 ⟨some 202, (.ext (.t 196) 1), none⟩,
 ⟨some 33, (.allocL (.agg [(.int .i64 (0)), (.int .i64 (0))])), none⟩,
 ⟨none, (.store 2 (.t 33) (.t 201)), none⟩,
 ⟨some 34, (.mv (.t 202)), none⟩]
 [(0, 1), (0, 2), (5, 6), (0, 7), (1, 7), (2, 7), (3, 7), (4, 7), (5, 7), (6, 7), (6, 8)] [13, 33, 196, 197, 198, 199, 200, 201, 202])
 (.seq
 (.ops [⟨some 204, (.build [(.int .i64 (0)), .nils, .nils] []), none⟩,
 ⟨some 205, (.mv (.t 19)), none⟩,
 ⟨some 206, (.call (.f 27) [(.t 204), (.t 205)]), none⟩,
 ⟨some 203, (.mv (.t 206)), none⟩,
 ⟨some 207, (.ext (.t 203) 0), none⟩,
 ⟨some 208, (.ext (.t 203) 1), none⟩,
 ⟨some 35, (.allocL (.agg [(.int .i64 (0)), (.int .i64 (0))])), none⟩,
 ⟨none, (.store 2 (.t 35) (.t 207)), none⟩,
 ⟨some 36, (.mv (.t 208)), none⟩]
 [] [35, 203, 204, 205, 206, 207, 208])
 (.seq
 (.ops [⟨some 210, (.build [(.int .i64 (0)), (.int .i64 (0))] [(0, 1, (.c (.int .i64 (2)))), (1, 1, (.c (.int .i64 (4))))]), none⟩,
 ⟨some 211, (.call (.f 25) [(.c .nils), (.t 210)]), none⟩,
 ⟨some 209, (.mv (.t 211)), none⟩,
 ⟨some 212, (.ext (.t 209) 0), none⟩,
 ⟨some 213, (.ext (.t 209) 1), none⟩,
 ⟨some 214, (.ext (.t 209) 2), none⟩,
 ⟨some 37, (.mv (.t 212)), none⟩,
 ⟨some 38, (.mv (.t 213)), none⟩,
 ⟨some 39, (.mv (.t 214)), none⟩]
 [] [37, 38, 209, 210, 211, 212, 213, 214])
 (.seq
 (.ops [⟨some 216, (.build [(.int .i64 (0)), (.int .i64 (0))] [(0, 1, (.c (.int .i64 (1)))), (1, 1, (.c (.int .i64 (1000000000000000000))))]), none⟩,
 ⟨some 217, (.build [(.int .i64 (0)), (.int .i64 (0))] [(0, 1, (.c (.int .i64 (1)))), (1, 1, (.c (.int .i64 (999999999999999999))))]), none⟩,
 ⟨some 218, (.build [(.int .i64 (0)), (.int .i64 (0)), (.int .i64 (0)), (.int .i64 (0))] [(0, 2, (.t 216)), (2, 2, (.t 217))]), none⟩,
 ⟨some 219, (.buildD 4 (.agg [(.int .i64 (0)), (.int .i64 (0)), (.int .i64 (0)), (.int .i64 (0))]) 1 [(0, (.t 218))]), none⟩,
 ⟨some 220, (.call (.f 29) [(.t 219)]), none⟩,
 ⟨some 215, (.mv (.t 220)), none⟩,
 ⟨some 221, (.ext (.t 215) 0), none⟩,
 ⟨some 222, (.ext (.t 215) 1), none⟩,
 ⟨some 40, (.allocL (.agg [(.int .i64 (0)), (.int .i64 (0))])), none⟩,
 ⟨none, (.store 2 (.t 40) (.t 221)), none⟩,
 ⟨some 41, (.mv (.t 222)), none⟩]
 [] [40, 215, 216, 217, 218, 219, 220, 221, 222])
 (.seq
 (.ops [⟨some 223, (.mv (.t 22)), none⟩,
 ⟨some 224, (.bin .eql (.t 223) (.c (.int .i64 (4)))), none⟩,
 ⟨some 225, (.mv (.t 224)), none⟩,
 ⟨some 226, (.mv (.t 24)), some (225, true)⟩,
 ⟨some 227, (.bin .eql (.t 226) (.c (.int .i64 (4)))), some (225, true)⟩,
 ⟨some 228, (.pick (.t 225) (.t 227) (.c (.bool false))), none⟩,
 ⟨some 229, (.mv (.t 228)), none⟩,
 ⟨some 230, (.mv (.t 26)), some (229, true)⟩,
 ⟨some 231, (.bin .eql (.t 230) (.c (.int .i64 (8)))), some (229, true)⟩,
 ⟨some 232, (.pick (.t 229) (.t 231) (.c (.bool false))), none⟩,
 ⟨some 233, (.mv (.t 232)), none⟩,
 ⟨some 234, (.mv (.t 28)), some (233, true)⟩,
 ⟨some 235, (.bin .eql (.t 234) (.c (.int .i64 (8)))), some (233, true)⟩,
 ⟨some 236, (.pick (.t 233) (.t 235) (.c (.bool false))), none⟩,
 ⟨some 237, (.mv (.t 236)), none⟩,
 ⟨some 238, (.mv (.t 30)), some (237, true)⟩,
 ⟨some 239, (.bin .eql (.t 238) (.c (.int .i64 (2)))), some (237, true)⟩,
 ⟨some 240, (.pick (.t 237) (.t 239) (.c (.bool false))), none⟩,
 ⟨some 241, (.mv (.t 240)), none⟩,
 ⟨some 242, (.mv (.t 32)), some (241, true)⟩,
 ⟨some 243, (.bin .eql (.t 242) (.c (.int .i64 (2)))), some (241, true)⟩,
 ⟨some 244, (.pick (.t 241) (.t 243) (.c (.bool false))), none⟩,
 ⟨some 245, (.mv (.t 244)), none⟩,
 ⟨some 246, (.mv (.t 34)), some (245, true)⟩,
 ⟨some 247, (.bin .eql (.t 246) (.c (.int .i64 (2)))), some (245, true)⟩,
 ⟨some 248, (.pick (.t 245) (.t 247) (.c (.bool false))), none⟩,
 ⟨some 249, (.mv (.t 248)), none⟩,
 ⟨some 250, (.mv (.t 36)), some (249, true)⟩,
 ⟨some 251, (.bin .eql (.t 250) (.c (.int .i64 (8)))), some (249, true)⟩,
 ⟨some 252, (.pick (.t 249) (.t 251) (.c (.bool false))), none⟩,
 ⟨some 253, (.mv (.t 252)), none⟩,
 ⟨some 254, (.mv (.t 39)), some (253, true)⟩,
 ⟨some 255, (.bin .eql (.t 254) (.c (.int .i64 (2)))), some (253, true)⟩,
 ⟨some 256, (.pick (.t 253) (.t 255) (.c (.bool false))), none⟩,
 ⟨some 257, (.mv (.t 256)), none⟩,
 ⟨some 258, (.mv (.t 41)), some (257, true)⟩,
 ⟨some 259, (.bin .eql (.t 258) (.c (.int .i64 (16)))), some (257, true)⟩,
 ⟨some 260, (.pick (.t 257) (.t 259) (.c (.bool false))), none⟩,
 ⟨some 42, (.mv (.t 260)), none⟩]
 [] [22, 24, 26, 28, 30, 32, 34, 36, 39, 41, 223, 224, 225, 226, 227, 228, 229, 230, 231, 232, 233, 234, 235, 236, 237, 238, 239, 240, 241, 242, 243, 244, 245, 246, 247, 248, 249, 250, 251, 252, 253, 254, 255, 256, 257, 258, 259, 260])
 (.seq
 (.ops [⟨some 261, (.mv (.t 19)), none⟩,
 ⟨some 262, (.call (.f 30) [(.t 261)]), none⟩,
 ⟨some 263, (.bin .eql (.t 262) (.c (.int .i64 (4)))), none⟩,
 ⟨some 264, (.mv (.t 263)), none⟩,
 ⟨some 265, (.mv (.t 19)), some (264, true)⟩,
 ⟨some 266, (.slc 4 (.t 265) none (some (.c (.int .i64 (60)))) none), some (264, true)⟩,
 ⟨some 267, (.call (.f 30) [(.t 266)]), some (264, true)⟩,
 ⟨some 268, (.bin .eql (.t 267) (.c (.int .i64 (0)))), some (264, true)⟩,
 ⟨some 269, (.pick (.t 264) (.t 268) (.c (.bool false))), none⟩,
 ⟨some 270, (.mv (.t 269)), none⟩,
 ⟨some 271, (.call (.f 26) [(.c (.int .i64 (2))), (.c (.int .i64 (3)))]), some (270, true)⟩,
 ⟨some 272, (.call (.f 26) [(.c (.int .i64 (0))), (.c (.int .i64 (1)))]), some (270, true)⟩,
 ⟨some 273, (.buildD 4 (.agg [(.int .i64 (0)), (.int .i64 (0)), (.int .i64 (0)), (.int .i64 (0))]) 2 [(0, (.t 271)), (1, (.t 272))]), some (270, true)⟩,
 ⟨some 274, (.call (.f 30) [(.t 273)]), some (270, true)⟩,
 ⟨some 275, (.bin .eql (.t 274) (.c (.int .i64 (8)))), some (270, true)⟩,
 ⟨some 276, (.pick (.t 270) (.t 275) (.c (.bool false))), none⟩,
 ⟨some 277, (.mv (.t 276)), none⟩,
 ⟨some 278, (.build [(.int .i64 (0)), (.int .i64 (0)), (.int .i64 (0)), (.int .i64 (0))] []), some (277, true)⟩,
 ⟨some 279, (.buildD 4 (.agg [(.int .i64 (0)), (.int .i64 (0)), (.int .i64 (0)), (.int .i64 (0))]) 1 [(0, (.t 278))]), some (277, true)⟩,
 ⟨some 280, (.call (.f 30) [(.t 279)]), some (277, true)⟩,
 ⟨some 281, (.bin .eql (.t 280) (.c (.int .i64 (8)))), some (277, true)⟩,
 ⟨some 282, (.pick (.t 277) (.t 281) (.c (.bool false))), none⟩,
 ⟨some 43, (.mv (.t 282)), none⟩]
 [] [19, 261, 262, 263, 264, 265, 266, 267, 268, 269, 270, 271, 272, 273, 274, 275, 276, 277, 278, 279, 280, 281, 282])
 (.seq
 (.ops [⟨some 283, (.mv (.c (.bool true))), none⟩,
 ⟨some 284, (.mv (.t 18)), some (283, true)⟩,
 ⟨some 285, (.pick (.t 283) (.t 284) (.c (.bool false))), none⟩,
 ⟨some 286, (.mv (.t 285)), none⟩,
 ⟨some 287, (.mv (.t 42)), some (286, true)⟩,
 ⟨some 288, (.pick (.t 286) (.t 287) (.c (.bool false))), none⟩,
 ⟨some 289, (.mv (.t 288)), none⟩,
 ⟨some 290, (.mv (.t 43)), some (289, true)⟩,
 ⟨some 291, (.pick (.t 289) (.t 290) (.c (.bool false))), none⟩,
 ⟨some 292, (.mv (.t 291)), none⟩,
 ⟨some 293, (.call (.f 18) []), some (292, true)⟩,
 ⟨some 294, (.pick (.t 292) (.t 293) (.c (.bool false))), none⟩,
 ⟨some 0, (.mv (.t 294)), none⟩]
 [] [18, 42, 43, 283, 284, 285, 286, 287, 288, 289, 290, 291, 292, 293, 294])
 .ret))))))))))))))))))))))))))⟩
def loc7 : List Nat := [79, 80, 96, 103, 112, 119, 156, 167, 173, 180, 192, 199, 219, 273, 279, 13, 14, 16, 31, 33, 35, 40]
def fg7 : List (Nat × List Nat) := [(28, [18, 42, 43, 283, 284, 285, 286, 287, 288, 289, 290, 291, 292, 293, 294]), (27, [19, 261, 262, 263, 264, 265, 266, 267, 268, 269, 270, 271, 272, 273, 274, 275, 276, 277, 278, 279, 280, 281, 282]), (26, [22, 24, 26, 28, 30, 32, 34, 36, 39, 41, 223, 224, 225, 226, 227, 228, 229, 230, 231, 232, 233, 234, 235, 236, 237, 238, 239, 240, 241, 242, 243, 244, 245, 246, 247, 248, 249, 250, 251, 252, 253, 254, 255, 256, 257, 258, 259, 260]), (25, [40, 215, 216, 217, 218, 219, 220, 221, 222]), (24, [37, 38, 209, 210, 211, 212, 213, 214]), (23, [35, 203, 204, 205, 206, 207, 208]), (22, [13, 33, 196, 197, 198, 199, 200, 201, 202]), (21, [31, 189, 190, 191, 192, 193, 194, 195]), (20, [29, 184, 185, 186, 187, 188]), (19, [27, 177, 178, 179, 180, 181, 182, 183]), (18, [25, 171, 172, 173, 174, 175, 176]), (17, [23, 163, 164, 165, 166, 167, 168, 169, 170]), (16, [20, 21, 146, 158, 159, 160, 161, 162]), (14, [147, 148]), (15, [146, 149, 150, 151, 152, 153, 154, 155, 156, 157]), (13, [145]), (10, [3, 4, 5, 6, 7, 8, 9, 10, 11, 12, 14, 15, 16, 17, 93, 94, 95, 96, 97, 98, 99, 100, 101, 102, 103, 104, 105, 106, 107, 108, 109, 110, 111, 112, 113, 114, 115, 116, 117, 118, 119, 120, 121, 122, 123, 124, 125, 126, 127, 128, 129, 130, 131, 132, 133, 134, 135, 136, 137, 138, 139, 140, 141, 142, 143, 144]), (9, [88, 89, 90, 91, 92]), (8, [1, 82, 83, 84, 85, 86, 87]), (7, [79, 80, 81]), (6, [74, 75, 76, 77, 78]), (5, [2, 68, 69, 70, 71, 72, 73]), (4, [62, 63, 64, 65, 66, 67]), (3, [56, 57, 58, 59, 60, 61]), (2, [50, 51, 52, 53, 54, 55]), (1, [44, 45, 46, 47, 48, 49]), (0, [0])]
theorem comp7 : compFn Try.prog loc7 (fun i => (fg7.lookup i).getD []) Try.f7 = some lit7 := by kernel_rfl

-- parcener/piece.Union
def lit10 : AFn := ⟨2, [.tmp 4, .tmp 5],
 (.seq
 (.ops [⟨some 4, (.mv (.c .nils)), none⟩,
 ⟨some 5, (.mv (.c (.int .i64 (0)))), none⟩]
 [] [4, 5])
 (.seq
 (.seq
 (.ops [⟨some 7, (.mv (.t 0)), none⟩,
 ⟨some 8, (.mv (.t 1)), none⟩,
 ⟨some 9, (.call (.f 37) [(.t 7), (.t 8)]), none⟩,
 ⟨some 6, (.mv (.t 9)), none⟩]
 [] [7, 8, 9])
 (.seq
 (.ops [⟨some 10, (.mv (.t 6)), none⟩,
 ⟨some 11, (.bin .neq (.t 10) (.c (.int .i64 (0)))), none⟩]
 [] [10])
 (.cond (.t 11)
 (.seq
 (.ops [⟨some 12, (.mv (.t 6)), none⟩,
 ⟨some 4, (.mv (.c .nils)), none⟩,
 ⟨some 5, (.mv (.t 12)), none⟩]
 [] [0, 1, 6, 11, 12])
 .ret)
 .skip)))
 (.seq
 (.ops [⟨some 13, (.mv (.t 0)), none⟩,
 ⟨some 14, (.mv (.t 1)), none⟩,
 ⟨some 15, (.buildD 1 (.data []) 2 [(0, (.t 13)), (1, (.t 14))]), none⟩,
 ⟨some 16, (.call (.f 40) [(.t 15)]), none⟩,
 ⟨some 17, (.call (.f 39) [(.t 16)]), none⟩,
 ⟨some 18, (.call (.f 38) [(.t 17)]), none⟩,
 ⟨some 19, (.ext (.t 18) 0), none⟩,
 ⟨some 20, (.ext (.t 18) 1), none⟩,
 ⟨some 4, (.mv (.t 19)), none⟩,
 ⟨some 5, (.mv (.t 20)), none⟩]
 [] [0, 1, 6, 11, 13, 14, 15, 16, 17, 18, 19, 20])
 .ret)))⟩
def loc10 : List Nat := [15]
def fg10 : List (Nat × List Nat) := [(4, [0, 1, 6, 11, 13, 14, 15, 16, 17, 18, 19, 20]), (3, [0, 1, 6, 11, 12]), (2, [10]), (1, [7, 8, 9]), (0, [4, 5])]
theorem comp10 : compFn Try.prog loc10 (fun i => (fg10.lookup i).getD []) Try.f10 = some lit10 := by kernel_rfl

-- parcener/piece.Meet
def lit12 : AFn := ⟨2, [.tmp 4, .tmp 5],
 (.seq
 (.ops [⟨some 4, (.mv (.c .nils)), none⟩,
 ⟨some 5, (.mv (.c (.int .i64 (0)))), none⟩]
 [] [4, 5])
 (.seq
 (.seq
 (.ops [⟨some 11, (.mv (.t 0)), none⟩,
 ⟨some 12, (.mv (.t 1)), none⟩,
 ⟨some 13, (.call (.f 37) [(.t 11), (.t 12)]), none⟩,
 ⟨some 6, (.mv (.t 13)), none⟩]
 [] [11, 12, 13])
 (.seq
 (.ops [⟨some 14, (.mv (.t 6)), none⟩,
 ⟨some 15, (.bin .neq (.t 14) (.c (.int .i64 (0)))), none⟩]
 [] [14])
 (.cond (.t 15)
 (.seq
 (.ops [⟨some 16, (.mv (.t 6)), none⟩,
 ⟨some 4, (.mv (.c .nils)), none⟩,
 ⟨some 5, (.mv (.t 16)), none⟩]
 [] [0, 1, 6, 15, 16])
 .ret)
 .skip)))
 (.seq
 (.ops [⟨some 7, (.mv (.c .nils)), none⟩]
 [] [6, 15])
 (.seq
 (.seq
 (.ops [⟨some 8, (.mv (.c (.int .i64 (0)))), none⟩,
 ⟨some 9, (.mv (.c (.int .i64 (0)))), none⟩]
 [] [])
 (.block 0
 (.loop
 (.seq
 (.seq
 (.ops [⟨some 17, (.mv (.t 8)), none⟩,
 ⟨some 18, (.mv (.t 0)), none⟩,
 ⟨some 19, (.len (.t 18)), none⟩,
 ⟨some 20, (.bin .lss (.t 17) (.t 19)), none⟩,
 ⟨some 21, (.mv (.t 20)), none⟩,
 ⟨some 22, (.mv (.t 9)), some (21, true)⟩,
 ⟨some 23, (.mv (.t 1)), some (21, true)⟩,
 ⟨some 24, (.len (.t 23)), some (21, true)⟩,
 ⟨some 25, (.bin .lss (.t 22) (.t 24)), some (21, true)⟩,
 ⟨some 26, (.pick (.t 21) (.t 25) (.c (.bool false))), none⟩]
 [] [17, 18, 19, 20, 21, 22, 23, 24, 25])
 (.cond (.t 26)
 .skip
 (.exit 0)))
 (.block 1
 (.seq
 (.ops [⟨some 27, (.mv (.t 0)), none⟩,
 ⟨some 28, (.mv (.t 8)), none⟩,
 ⟨some 29, (.iad 4 (.t 27) (.t 28)), none⟩,
 ⟨some 30, (.fad 0 (.t 29)), none⟩,
 ⟨some 31, (.load true 2 (.t 30)), none⟩,
 ⟨some 32, (.mv (.t 1)), none⟩,
 ⟨some 33, (.mv (.t 9)), none⟩,
 ⟨some 34, (.iad 4 (.t 32) (.t 33)), none⟩,
 ⟨some 35, (.fad 0 (.t 34)), none⟩,
 ⟨some 36, (.load true 2 (.t 35)), none⟩,
 ⟨some 37, (.call (.f 42) [(.t 31), (.t 36)]), none⟩,
 ⟨some 38, (.mv (.t 0)), none⟩,
 ⟨some 39, (.mv (.t 8)), none⟩,
 ⟨some 40, (.iad 4 (.t 38) (.t 39)), none⟩,
 ⟨some 41, (.fad 2 (.t 40)), none⟩,
 ⟨some 42, (.load true 2 (.t 41)), none⟩,
 ⟨some 43, (.mv (.t 1)), none⟩,
 ⟨some 44, (.mv (.t 9)), none⟩,
 ⟨some 45, (.iad 4 (.t 43) (.t 44)), none⟩,
 ⟨some 46, (.fad 2 (.t 45)), none⟩,
 ⟨some 47, (.load true 2 (.t 46)), none⟩,
 ⟨some 48, (.call (.f 43) [(.t 42), (.t 47)]), none⟩,
 ⟨some 49, (.build [(.int .i64 (0)), (.int .i64 (0)), (.int .i64 (0)), (.int .i64 (0))] [(0, 2, (.t 37)), (2, 2, (.t 48))]), none⟩,
 ⟨some 10, (.allocL (.agg [(.int .i64 (0)), (.int .i64 (0)), (.int .i64 (0)), (.int .i64 (0))])), none⟩,
 ⟨none, (.store 4 (.t 10) (.t 49)), none⟩]
 [(0, 1), (0, 5), (1, 5), (2, 5), (3, 5), (4, 5), (0, 6), (1, 6), (2, 6), (3, 6), (4, 6), (5, 6), (0, 7), (1, 7), (2, 7), (3, 7), (4, 7), (0, 8), (1, 8), (2, 8), (3, 8), (4, 8), (0, 9), (1, 9), (2, 9), (3, 9), (4, 9), (0, 11), (1, 11), (2, 11), (3, 11), (4, 11), (5, 11), (6, 11), (7, 11), (8, 11), (9, 11), (10, 11), (0, 12), (1, 12), (2, 12), (3, 12), (4, 12), (5, 12), (6, 12), (7, 12), (8, 12), (9, 12), (10, 12), (11, 12), (0, 13), (1, 13), (2, 13), (3, 13), (4, 13), (5, 13), (6, 13), (7, 13), (8, 13), (9, 13), (10, 13), (0, 14), (1, 14), (2, 14), (3, 14), (4, 14), (5, 14), (6, 14), (7, 14), (8, 14), (9, 14), (10, 14), (0, 15), (1, 15), (2, 15), (3, 15), (4, 15), (5, 15), (6, 15), (7, 15), (8, 15), (9, 15), (10, 15), (0, 16), (1, 16), (2, 16), (3, 16), (4, 16), (5, 16), (6, 16), (7, 16), (8, 16), (9, 16), (10, 16), (11, 16), (12, 16), (13, 16), (14, 16), (15, 16), (0, 17), (1, 17), (2, 17), (3, 17), (4, 17), (5, 17), (6, 17), (7, 17), (8, 17), (9, 17), (10, 17), (11, 17), (12, 17), (13, 17), (14, 17), (15, 17), (16, 17), (0, 18), (1, 18), (2, 18), (3, 18), (4, 18), (5, 18), (6, 18), (7, 18), (8, 18), (9, 18), (10, 18), (11, 18), (12, 18), (13, 18), (14, 18), (15, 18), (0, 19), (1, 19), (2, 19), (3, 19), (4, 19), (5, 19), (6, 19), (7, 19), (8, 19), (9, 19), (10, 19), (11, 19), (12, 19), (13, 19), (14, 19), (15, 19), (0, 20), (1, 20), (2, 20), (3, 20), (4, 20), (5, 20), (6, 20), (7, 20), (8, 20), (9, 20), (10, 20), (11, 20), (12, 20), (13, 20), (14, 20), (15, 20), (0, 23), (1, 23), (2, 23), (3, 23), (4, 23), (5, 23), (6, 23), (7, 23), (8, 23), (9, 23), (10, 23), (11, 23), (12, 23), (13, 23), (14, 23), (15, 23), (16, 23), (17, 23), (18, 23), (19, 23), (20, 23), (21, 23), (22, 23)] [26, 27, 28, 29, 30, 31, 32, 33, 34, 35, 36, 37, 38, 39, 40, 41, 42, 43, 44, 45, 46, 47, 48, 49])
 (.seq
 (.seq
 (.ops [⟨some 50, (.load true 4 (.t 10)), none⟩,
 ⟨some 51, (.call (.f 44) [(.t 50)]), none⟩]
 [] [50])
 (.cond (.t 51)
 (.ops [⟨some 52, (.mv (.t 7)), none⟩,
 ⟨some 53, (.load true 4 (.t 10)), none⟩,
 ⟨some 54, (.buildD 4 (.agg [(.int .i64 (0)), (.int .i64 (0)), (.int .i64 (0)), (.int .i64 (0))]) 1 [(0, (.t 53))]), none⟩,
 ⟨some 55, (.app true 4 32 (.t 52) (.t 54)), none⟩,
 ⟨some 7, (.mv (.t 55)), none⟩]
 [] [10, 51, 52, 53, 54, 55])
 .skip))
 (.seq
 (.ops [⟨some 56, (.mv (.t 0)), none⟩,
 ⟨some 57, (.mv (.t 8)), none⟩,
 ⟨some 58, (.iad 4 (.t 56) (.t 57)), none⟩,
 ⟨some 59, (.fad 2 (.t 58)), none⟩,
 ⟨some 60, (.load true 2 (.t 59)), none⟩,
 ⟨some 61, (.mv (.t 1)), none⟩,
 ⟨some 62, (.mv (.t 9)), none⟩,
 ⟨some 63, (.iad 4 (.t 61) (.t 62)), none⟩,
 ⟨some 64, (.fad 2 (.t 63)), none⟩,
 ⟨some 65, (.load true 2 (.t 64)), none⟩,
 ⟨some 66, (.call (.f 45) [(.t 60), (.t 65)]), none⟩,
 ⟨some 67, (.bin .leq (.t 66) (.c (.int .i64 (0)))), none⟩]
 [(0, 1), (0, 5), (1, 5), (2, 5), (3, 5), (4, 5), (0, 6), (1, 6), (2, 6), (3, 6), (4, 6), (5, 6), (0, 7), (1, 7), (2, 7), (3, 7), (4, 7), (0, 8), (1, 8), (2, 8), (3, 8), (4, 8), (0, 9), (1, 9), (2, 9), (3, 9), (4, 9)] [10, 51, 56, 57, 58, 59, 60, 61, 62, 63, 64, 65, 66])
 (.cond (.t 67)
 (.ops [⟨some 68, (.mv (.t 8)), none⟩,
 ⟨some 69, (.bin .add (.t 68) (.c (.int .i64 (1)))), none⟩,
 ⟨some 8, (.mv (.t 69)), none⟩]
 [] [67, 68, 69])
 (.ops [⟨some 70, (.mv (.t 9)), none⟩,
 ⟨some 71, (.bin .add (.t 70) (.c (.int .i64 (1)))), none⟩,
 ⟨some 9, (.mv (.t 71)), none⟩]
 [] [67, 70, 71]))))))))))
 (.seq
 (.ops [⟨some 72, (.mv (.t 7)), none⟩,
 ⟨some 73, (.call (.f 38) [(.t 72)]), none⟩,
 ⟨some 74, (.ext (.t 73) 0), none⟩,
 ⟨some 75, (.ext (.t 73) 1), none⟩,
 ⟨some 4, (.mv (.t 74)), none⟩,
 ⟨some 5, (.mv (.t 75)), none⟩]
 [] [0, 1, 7, 8, 9, 26, 72, 73, 74, 75])
 .ret)))))⟩
def loc12 : List Nat := [54, 10]
def fg12 : List (Nat × List Nat) := [(13, [0, 1, 7, 8, 9, 26, 72, 73, 74, 75]), (12, [67, 70, 71]), (11, [67, 68, 69]), (10, [10, 51, 56, 57, 58, 59, 60, 61, 62, 63, 64, 65, 66]), (9, [10, 51, 52, 53, 54, 55]), (8, [50]), (7, [26, 27, 28, 29, 30, 31, 32, 33, 34, 35, 36, 37, 38, 39, 40, 41, 42, 43, 44, 45, 46, 47, 48, 49]), (6, [17, 18, 19, 20, 21, 22, 23, 24, 25]), (4, [6, 15]), (3, [0, 1, 6, 15, 16]), (2, [14]), (1, [11, 12, 13]), (0, [4, 5])]
theorem comp12 : compFn Try.prog loc12 (fun i => (fg12.lookup i).getD []) Try.f12 = some lit12 := by kernel_rfl

-- parcener/piece.Minus
def lit14 : AFn := ⟨2, [.tmp 4, .tmp 5],
 (.seq
 (.ops [⟨some 4, (.mv (.c .nils)), none⟩,
 ⟨some 5, (.mv (.c (.int .i64 (0)))), none⟩]
 [] [4, 5])
 (.seq
 (.seq
 (.ops [⟨some 13, (.mv (.t 0)), none⟩,
 ⟨some 14, (.mv (.t 1)), none⟩,
 ⟨some 15, (.call (.f 37) [(.t 13), (.t 14)]), none⟩,
 ⟨some 6, (.mv (.t 15)), none⟩]
 [] [13, 14, 15])
 (.seq
 (.ops [⟨some 16, (.mv (.t 6)), none⟩,
 ⟨some 17, (.bin .neq (.t 16) (.c (.int .i64 (0)))), none⟩]
 [] [16])
 (.cond (.t 17)
 (.seq
 (.ops [⟨some 18, (.mv (.t 6)), none⟩,
 ⟨some 4, (.mv (.c .nils)), none⟩,
 ⟨some 5, (.mv (.t 18)), none⟩]
 [] [0, 1, 6, 17, 18])
 .ret)
 .skip)))
 (.seq
 (.ops [⟨some 7, (.mv (.c .nils)), none⟩]
 [] [6, 17])
 (.seq
 (.seq
 (.ops [⟨some 19, (.mv (.t 0)), none⟩,
 ⟨some 20, (.len (.t 19)), none⟩,
 ⟨some 21, (.mv (.c (.int .i64 (0)))), none⟩]
 [] [0])
 (.block 0
 (.loop
 (.seq
 (.ops [⟨some 22, (.bin .lss (.t 21) (.t 20)), none⟩]
 [] [])
 (.seq
 (.cond (.t 22)
 .skip
 (.exit 0))
 (.seq
 (.block 1
 (.seq
 (.ops [⟨some 23, (.iad 4 (.t 19) (.t 21)), none⟩,
 ⟨some 24, (.load true 4 (.t 23)), none⟩,
 ⟨some 9, (.allocL (.agg [(.int .i64 (0)), (.int .i64 (0)), (.int .i64 (0)), (.int .i64 (0))])), none⟩,
 ⟨none, (.store 4 (.t 9) (.t 24)), none⟩]
 [] [22, 23, 24])
 (.seq
 (.ops [⟨some 25, (.fad 0 (.t 9)), none⟩,
 ⟨some 26, (.load true 2 (.t 25)), none⟩,
 ⟨some 10, (.allocL (.agg [(.int .i64 (0)), (.int .i64 (0))])), none⟩,
 ⟨none, (.store 2 (.t 10) (.t 26)), none⟩]
 [] [25, 26])
 (.seq
 (.seq
 (.ops [⟨some 27, (.mv (.t 1)), none⟩,
 ⟨some 28, (.len (.t 27)), none⟩,
 ⟨some 29, (.mv (.c (.int .i64 (0)))), none⟩]
 [] [])
 (.block 2
 (.loop
 (.seq
 (.ops [⟨some 30, (.bin .lss (.t 29) (.t 28)), none⟩]
 [] [])
 (.seq
 (.cond (.t 30)
 .skip
 (.exit 2))
 (.seq
 (.block 3
 (.seq
 (.ops [⟨some 31, (.iad 4 (.t 27) (.t 29)), none⟩,
 ⟨some 32, (.load true 4 (.t 31)), none⟩,
 ⟨some 12, (.allocL (.agg [(.int .i64 (0)), (.int .i64 (0)), (.int .i64 (0)), (.int .i64 (0))])), none⟩,
 ⟨none, (.store 4 (.t 12) (.t 32)), none⟩]
 [] [30, 31, 32])
 (.seq
 (.seq
 (.ops [⟨some 33, (.fad 2 (.t 12)), none⟩,
 ⟨some 34, (.load true 2 (.t 33)), none⟩,
 ⟨some 35, (.load true 2 (.t 10)), none⟩,
 ⟨some 36, (.call (.f 45) [(.t 34), (.t 35)]), none⟩,
 ⟨some 37, (.bin .leq (.t 36) (.c (.int .i64 (0)))), none⟩,
 ⟨some 38, (.mv (.t 37)), none⟩,
 ⟨some 39, (.fad 0 (.t 12)), some (38, false)⟩,
 ⟨some 40, (.load true 2 (.t 39)), some (38, false)⟩,
 ⟨some 41, (.fad 2 (.t 9)), some (38, false)⟩,
 ⟨some 42, (.load true 2 (.t 41)), some (38, false)⟩,
 ⟨some 43, (.call (.f 45) [(.t 40), (.t 42)]), some (38, false)⟩,
 ⟨some 44, (.bin .geq (.t 43) (.c (.int .i64 (0)))), some (38, false)⟩,
 ⟨some 45, (.pick (.t 38) (.c (.bool true)) (.t 44)), none⟩]
 [] [33, 34, 35, 36, 37, 38, 39, 40, 41, 42, 43, 44])
 (.cond (.t 45)
 (.exit 3)
 .skip))
 (.seq
 (.seq
 (.ops [⟨some 46, (.load true 2 (.t 10)), none⟩,
 ⟨some 47, (.fad 0 (.t 12)), none⟩,
 ⟨some 48, (.load true 2 (.t 47)), none⟩,
 ⟨some 49, (.call (.f 45) [(.t 46), (.t 48)]), none⟩,
 ⟨some 50, (.bin .lss (.t 49) (.c (.int .i64 (0)))), none⟩]
 [] [45, 46, 47, 48, 49])
 (.cond (.t 50)
 (.ops [⟨some 51, (.mv (.t 7)), none⟩,
 ⟨some 52, (.load true 2 (.t 10)), none⟩,
 ⟨some 53, (.fad 0 (.t 12)), none⟩,
 ⟨some 54, (.load true 2 (.t 53)), none⟩,
 ⟨some 55, (.build [(.int .i64 (0)), (.int .i64 (0)), (.int .i64 (0)), (.int .i64 (0))] [(0, 2, (.t 52)), (2, 2, (.t 54))]), none⟩,
 ⟨some 56, (.buildD 4 (.agg [(.int .i64 (0)), (.int .i64 (0)), (.int .i64 (0)), (.int .i64 (0))]) 1 [(0, (.t 55))]), none⟩,
 ⟨some 57, (.app true 4 32 (.t 51) (.t 56)), none⟩,
 ⟨some 7, (.mv (.t 57)), none⟩]
 [] [50, 51, 52, 53, 54, 55, 56, 57])
 .skip))
 (.ops [⟨some 58, (.fad 2 (.t 12)), none⟩,
 ⟨some 59, (.load true 2 (.t 58)), none⟩,
 ⟨none, (.store 2 (.t 10) (.t 59)), none⟩]
 [] [12, 50, 58, 59])))))
 (.ops [⟨some 60, (.bin .add (.t 29) (.c (.int .i64 (1)))), none⟩,
 ⟨some 29, (.mv (.t 60)), none⟩]
 [] [12, 45, 60])))))))
 (.seq
 (.ops [⟨some 61, (.load true 2 (.t 10)), none⟩,
 ⟨some 62, (.fad 2 (.t 9)), none⟩,
 ⟨some 63, (.load true 2 (.t 62)), none⟩,
 ⟨some 64, (.call (.f 45) [(.t 61), (.t 63)]), none⟩,
 ⟨some 65, (.bin .lss (.t 64) (.c (.int .i64 (0)))), none⟩]
 [] [27, 28, 29, 30, 61, 62, 63, 64])
 (.cond (.t 65)
 (.ops [⟨some 66, (.mv (.t 7)), none⟩,
 ⟨some 67, (.load true 2 (.t 10)), none⟩,
 ⟨some 68, (.fad 2 (.t 9)), none⟩,
 ⟨some 69, (.load true 2 (.t 68)), none⟩,
 ⟨some 70, (.build [(.int .i64 (0)), (.int .i64 (0)), (.int .i64 (0)), (.int .i64 (0))] [(0, 2, (.t 67)), (2, 2, (.t 69))]), none⟩,
 ⟨some 71, (.buildD 4 (.agg [(.int .i64 (0)), (.int .i64 (0)), (.int .i64 (0)), (.int .i64 (0))]) 1 [(0, (.t 70))]), none⟩,
 ⟨some 72, (.app true 4 32 (.t 66) (.t 71)), none⟩,
 ⟨some 7, (.mv (.t 72)), none⟩]
 [] [9, 10, 65, 66, 67, 68, 69, 70, 71, 72])
 .skip))))))
 (.ops [⟨some 73, (.bin .add (.t 21) (.c (.int .i64 (1)))), none⟩,
 ⟨some 21, (.mv (.t 73)), none⟩]
 [] [9, 10, 65, 73])))))))
 (.seq
 (.ops [⟨some 74, (.mv (.t 7)), none⟩,
 ⟨some 75, (.call (.f 38) [(.t 74)]), none⟩,
 ⟨some 76, (.ext (.t 75) 0), none⟩,
 ⟨some 77, (.ext (.t 75) 1), none⟩,
 ⟨some 4, (.mv (.t 76)), none⟩,
 ⟨some 5, (.mv (.t 77)), none⟩]
 [] [1, 7, 19, 20, 21, 22, 74, 75, 76, 77])
 .ret)))))⟩
def loc14 : List Nat := [56, 71, 9, 10, 12]
def fg14 : List (Nat × List Nat) := [(20, [1, 7, 19, 20, 21, 22, 74, 75, 76, 77]), (19, [9, 10, 65, 73]), (18, [9, 10, 65, 66, 67, 68, 69, 70, 71, 72]), (17, [27, 28, 29, 30, 61, 62, 63, 64]), (16, [12, 45, 60]), (15, [12, 50, 58, 59]), (14, [50, 51, 52, 53, 54, 55, 56, 57]), (13, [45, 46, 47, 48, 49]), (12, [33, 34, 35, 36, 37, 38, 39, 40, 41, 42, 43, 44]), (11, [30, 31, 32]), (8, [25, 26]), (7, [22, 23, 24]), (5, [0]), (4, [6, 17]), (3, [0, 1, 6, 17, 18]), (2, [16]), (1, [13, 14, 15]), (0, [4, 5])]
theorem comp14 : compFn Try.prog loc14 (fun i => (fg14.lookup i).getD []) Try.f14 = some lit14 := by kernel_rfl

-- parcener/parcenerref03.Same
def lit16 : AFn := ⟨2, [.tmp 4],
 (.seq
 (.ops [⟨some 4, (.mv (.c (.bool false))), none⟩]
 [] [4])
 (.seq
 (.seq
 (.ops [⟨some 6, (.mv (.t 0)), none⟩,
 ⟨some 7, (.len (.t 6)), none⟩,
 ⟨some 8, (.mv (.t 1)), none⟩,
 ⟨some 9, (.len (.t 8)), none⟩,
 ⟨some 10, (.bin .neq (.t 7) (.t 9)), none⟩]
 [] [6, 7, 8, 9])
 (.cond (.t 10)
 (.seq
 (.ops [⟨some 4, (.mv (.c (.bool false))), none⟩]
 [] [0, 1, 10])
 .ret)
 .skip))
 (.seq
 (.seq
 (.ops [⟨some 5, (.mv (.c (.int .i64 (0)))), none⟩]
 [] [10])
 (.block 0
 (.loop
 (.seq
 (.seq
 (.ops [⟨some 11, (.mv (.t 5)), none⟩,
 ⟨some 12, (.mv (.t 0)), none⟩,
 ⟨some 13, (.len (.t 12)), none⟩,
 ⟨some 14, (.bin .lss (.t 11) (.t 13)), none⟩]
 [] [11, 12, 13])
 (.cond (.t 14)
 .skip
 (.exit 0)))
 (.seq
 (.block 1
 (.seq
 (.ops [⟨some 17, (.mv (.t 0)), none⟩,
 ⟨some 18, (.mv (.t 5)), none⟩,
 ⟨some 19, (.iad 4 (.t 17) (.t 18)), none⟩,
 ⟨some 20, (.load true 4 (.t 19)), none⟩,
 ⟨some 21, (.mv (.t 1)), none⟩,
 ⟨some 22, (.mv (.t 5)), none⟩,
 ⟨some 23, (.iad 4 (.t 21) (.t 22)), none⟩,
 ⟨some 24, (.load true 4 (.t 23)), none⟩,
 ⟨some 25, (.eqA true 4 [(0, (some .i64)), (1, (some .i64)), (2, (some .i64)), (3, (some .i64))] (.t 20) (.t 24)), none⟩]
 [(0, 1), (0, 4), (1, 4), (2, 4), (3, 4), (0, 5), (1, 5), (2, 5), (3, 5), (4, 5), (0, 6), (1, 6), (2, 6), (3, 6), (0, 7), (1, 7), (2, 7), (3, 7)] [14, 17, 18, 19, 20, 21, 22, 23, 24])
 (.cond (.t 25)
 (.seq
 (.ops [⟨some 4, (.mv (.c (.bool false))), none⟩]
 [] [0, 1, 5, 25])
 .ret)
 .skip)))
 (.ops [⟨some 15, (.mv (.t 5)), none⟩,
 ⟨some 16, (.bin .add (.t 15) (.c (.int .i64 (1)))), none⟩,
 ⟨some 5, (.mv (.t 16)), none⟩]
 [] [15, 16, 25]))))))
 (.seq
 (.ops [⟨some 4, (.mv (.c (.bool true))), none⟩]
 [] [0, 1, 5, 14])
 .ret))))⟩
def loc16 : List Nat := []
def fg16 : List (Nat × List Nat) := [(8, [0, 1, 5, 14]), (5, [15, 16, 25]), (7, [0, 1, 5, 25]), (6, [14, 17, 18, 19, 20, 21, 22, 23, 24]), (4, [11, 12, 13]), (3, [10]), (2, [0, 1, 10]), (1, [6, 7, 8, 9]), (0, [4])]
theorem comp16 : compFn Try.prog loc16 (fun i => (fg16.lookup i).getD []) Try.f16 = some lit16 := by kernel_rfl

-- parcener/parcenerlaw03.alive
def lit18 : AFn := ⟨0, [.tmp 0],
 (.seq
 (.ops [⟨some 0, (.mv (.c (.bool false))), none⟩]
 [] [0])
 (.seq
 (.ops [⟨some 15, (.call (.f 26) [(.c (.int .i64 (2))), (.c (.int .i64 (5)))]), none⟩,
 ⟨some 16, (.call (.f 26) [(.c (.int .i64 (0))), (.c (.int .i64 (1)))]), none⟩,
 ⟨some 17, (.call (.f 26) [(.c (.int .i64 (1))), (.c (.int .i64 (2)))]), none⟩,
 ⟨some 18, (.buildD 4 (.agg [(.int .i64 (0)), (.int .i64 (0)), (.int .i64 (0)), (.int .i64 (0))]) 3 [(0, (.t 15)), (1, (.t 16)), (2, (.t 17))]), none⟩,
 ⟨some 19, (.call (.f 19) [(.t 18)]), none⟩,
 ⟨some 14, (.mv (.t 19)), none⟩,
 ⟨some 20, (.ext (.t 14) 0), none⟩,
 ⟨some 21, (.ext (.t 14) 1), none⟩,
 ⟨some 1, (.mv (.t 20)), none⟩,
 ⟨some 2, (.mv (.t 21)), none⟩]
 [] [14, 15, 16, 17, 18, 19, 20, 21])
 (.seq
 (.ops [⟨some 23, (.mv (.t 1)), none⟩,
 ⟨some 24, (.call (.f 26) [(.c (.int .i64 (4))), (.c (.int .i64 (5)))]), none⟩,
 ⟨some 25, (.fld true 2 0 (.t 24)), none⟩,
 ⟨some 26, (.call (.f 22) [(.t 23), (.t 25)]), none⟩,
 ⟨some 22, (.mv (.t 26)), none⟩,
 ⟨some 27, (.ext (.t 22) 0), none⟩,
 ⟨some 28, (.ext (.t 22) 1), none⟩,
 ⟨some 3, (.mv (.t 27)), none⟩,
 ⟨some 4, (.mv (.t 28)), none⟩]
 [] [22, 23, 24, 25, 26, 27, 28])
 (.seq
 (.ops [⟨some 30, (.mv (.t 1)), none⟩,
 ⟨some 31, (.call (.f 26) [(.c (.int .i64 (4))), (.c (.int .i64 (5)))]), none⟩,
 ⟨some 32, (.fld true 2 2 (.t 31)), none⟩,
 ⟨some 33, (.call (.f 22) [(.t 30), (.t 32)]), none⟩,
 ⟨some 29, (.mv (.t 33)), none⟩,
 ⟨some 34, (.ext (.t 29) 0), none⟩,
 ⟨some 35, (.ext (.t 29) 1), none⟩,
 ⟨some 5, (.mv (.t 34)), none⟩,
 ⟨some 6, (.mv (.t 35)), none⟩]
 [] [29, 30, 31, 32, 33, 34, 35])
 (.seq
 (.ops [⟨some 37, (.mv (.t 1)), none⟩,
 ⟨some 38, (.call (.f 26) [(.c (.int .i64 (1))), (.c (.int .i64 (2)))]), none⟩,
 ⟨some 39, (.buildD 4 (.agg [(.int .i64 (0)), (.int .i64 (0)), (.int .i64 (0)), (.int .i64 (0))]) 1 [(0, (.t 38))]), none⟩,
 ⟨some 40, (.call (.f 14) [(.t 37), (.t 39)]), none⟩,
 ⟨some 36, (.mv (.t 40)), none⟩,
 ⟨some 41, (.ext (.t 36) 0), none⟩,
 ⟨some 42, (.ext (.t 36) 1), none⟩,
 ⟨some 7, (.mv (.t 41)), none⟩,
 ⟨some 8, (.mv (.t 42)), none⟩]
 [] [36, 37, 38, 39, 40, 41, 42])
 (.seq
 (.ops [⟨some 44, (.mv (.t 7)), none⟩,
 ⟨some 45, (.call (.f 29) [(.t 44)]), none⟩,
 ⟨some 43, (.mv (.t 45)), none⟩,
 ⟨some 46, (.ext (.t 43) 0), none⟩,
 ⟨some 47, (.ext (.t 43) 1), none⟩,
 ⟨some 9, (.allocL (.agg [(.int .i64 (0)), (.int .i64 (0))])), none⟩,
 ⟨none, (.store 2 (.t 9) (.t 46)), none⟩,
 ⟨some 10, (.mv (.t 47)), none⟩]
 [] [43, 44, 45, 46, 47])
 (.seq
 (.ops [⟨some 49, (.mv (.t 7)), none⟩,
 ⟨some 50, (.call (.f 26) [(.c (.int .i64 (3))), (.c (.int .i64 (4)))]), none⟩,
 ⟨some 51, (.fld true 2 0 (.t 50)), none⟩,
 ⟨some 52, (.call (.f 25) [(.t 49), (.t 51)]), none⟩,
 ⟨some 48, (.mv (.t 52)), none⟩,
 ⟨some 53, (.ext (.t 48) 0), none⟩,
 ⟨some 54, (.ext (.t 48) 1), none⟩,
 ⟨some 55, (.ext (.t 48) 2), none⟩,
 ⟨some 11, (.mv (.t 53)), none⟩,
 ⟨some 12, (.mv (.t 54)), none⟩,
 ⟨some 13, (.mv (.t 55)), none⟩]
 [] [48, 49, 50, 51, 52, 53, 54, 55])
 (.seq
 (.ops [⟨some 56, (.mv (.t 1)), none⟩,
 ⟨some 57, (.mv (.t 2)), none⟩,
 ⟨some 58, (.call (.f 26) [(.c (.int .i64 (0))), (.c (.int .i64 (5)))]), none⟩,
 ⟨some 59, (.buildD 4 (.agg [(.int .i64 (0)), (.int .i64 (0)), (.int .i64 (0)), (.int .i64 (0))]) 1 [(0, (.t 58))]), none⟩,
 ⟨some 60, (.call (.f 28) [(.t 56), (.t 57), (.t 59)]), none⟩,
 ⟨some 61, (.mv (.t 60)), none⟩,
 ⟨some 62, (.mv (.t 4)), some (61, true)⟩,
 ⟨some 63, (.bin .eql (.t 62) (.c (.int .i64 (0)))), some (61, true)⟩,
 ⟨some 64, (.pick (.t 61) (.t 63) (.c (.bool false))), none⟩,
 ⟨some 65, (.mv (.t 64)), none⟩,
 ⟨some 66, (.mv (.t 3)), some (65, true)⟩,
 ⟨some 67, (.pick (.t 65) (.t 66) (.c (.bool false))), none⟩,
 ⟨some 68, (.mv (.t 67)), none⟩,
 ⟨some 69, (.mv (.t 6)), some (68, true)⟩,
 ⟨some 70, (.bin .eql (.t 69) (.c (.int .i64 (0)))), some (68, true)⟩,
 ⟨some 71, (.pick (.t 68) (.t 70) (.c (.bool false))), none⟩,
 ⟨some 72, (.mv (.t 71)), none⟩,
 ⟨some 73, (.mv (.t 5)), some (72, true)⟩,
 ⟨some 74, (.un .not (.t 73)), some (72, true)⟩,
 ⟨some 75, (.pick (.t 72) (.t 74) (.c (.bool false))), none⟩,
 ⟨some 76, (.mv (.t 75)), none⟩,
 ⟨some 77, (.mv (.t 7)), some (76, true)⟩,
 ⟨some 78, (.mv (.t 8)), some (76, true)⟩,
 ⟨some 79, (.call (.f 26) [(.c (.int .i64 (0))), (.c (.int .i64 (1)))]), some (76, true)⟩,
 ⟨some 80, (.call (.f 26) [(.c (.int .i64 (2))), (.c (.int .i64 (5)))]), some (76, true)⟩,
 ⟨some 81, (.buildD 4 (.agg [(.int .i64 (0)), (.int .i64 (0)), (.int .i64 (0)), (.int .i64 (0))]) 2 [(0, (.t 79)), (1, (.t 80))]), some (76, true)⟩,
 ⟨some 82, (.call (.f 28) [(.t 77), (.t 78), (.t 81)]), some (76, true)⟩,
 ⟨some 83, (.pick (.t 76) (.t 82) (.c (.bool false))), none⟩,
 ⟨some 84, (.mv (.t 83)), none⟩,
 ⟨some 85, (.mv (.t 10)), some (84, true)⟩,
 ⟨some 86, (.bin .eql (.t 85) (.c (.int .i64 (0)))), some (84, true)⟩,
 ⟨some 87, (.pick (.t 84) (.t 86) (.c (.bool false))), none⟩,
 ⟨some 88, (.mv (.t 87)), none⟩,
 ⟨some 89, (.load true 2 (.t 9)), some (88, true)⟩,
 ⟨some 90, (.build [(.int .i64 (0)), (.int .i64 (0))] [(0, 1, (.c (.int .i64 (4)))), (1, 1, (.c (.int .i64 (1))))]), some (88, true)⟩,
 ⟨some 91, (.eqA false 2 [(0, (some .i64)), (1, (some .i64))] (.t 89) (.t 90)), some (88, true)⟩,
 ⟨some 92, (.pick (.t 88) (.t 91) (.c (.bool false))), none⟩,
 ⟨some 93, (.mv (.t 92)), none⟩,
 ⟨some 94, (.mv (.t 11)), some (93, true)⟩,
 ⟨some 95, (.mv (.t 13)), some (93, true)⟩,
 ⟨some 96, (.call (.f 26) [(.c (.int .i64 (0))), (.c (.int .i64 (1)))]), some (93, true)⟩,
 ⟨some 97, (.call (.f 26) [(.c (.int .i64 (2))), (.c (.int .i64 (3)))]), some (93, true)⟩,
 ⟨some 98, (.buildD 4 (.agg [(.int .i64 (0)), (.int .i64 (0)), (.int .i64 (0)), (.int .i64 (0))]) 2 [(0, (.t 96)), (1, (.t 97))]), some (93, true)⟩,
 ⟨some 99, (.call (.f 28) [(.t 94), (.t 95), (.t 98)]), some (93, true)⟩,
 ⟨some 100, (.pick (.t 93) (.t 99) (.c (.bool false))), none⟩,
 ⟨some 101, (.mv (.t 100)), none⟩,
 ⟨some 102, (.mv (.t 12)), some (101, true)⟩,
 ⟨some 103, (.mv (.t 13)), some (101, true)⟩,
 ⟨some 104, (.call (.f 26) [(.c (.int .i64 (3))), (.c (.int .i64 (5)))]), some (101, true)⟩,
 ⟨some 105, (.buildD 4 (.agg [(.int .i64 (0)), (.int .i64 (0)), (.int .i64 (0)), (.int .i64 (0))]) 1 [(0, (.t 104))]), some (101, true)⟩,
 ⟨some 106, (.call (.f 28) [(.t 102), (.t 103), (.t 105)]), some (101, true)⟩,
 ⟨some 107, (.pick (.t 101) (.t 106) (.c (.bool false))), none⟩,
 ⟨some 0, (.mv (.t 107)), none⟩]
 [] [1, 2, 3, 4, 5, 6, 7, 8, 9, 10, 11, 12, 13, 56, 57, 58, 59, 60, 61, 62, 63, 64, 65, 66, 67, 68, 69, 70, 71, 72, 73, 74, 75, 76, 77, 78, 79, 80, 81, 82, 83, 84, 85, 86, 87, 88, 89, 90, 91, 92, 93, 94, 95, 96, 97, 98, 99, 100, 101, 102, 103, 104, 105, 106, 107])
 .ret))))))))⟩
def loc18 : List Nat := [18, 39, 59, 81, 98, 105, 9]
def fg18 : List (Nat × List Nat) := [(7, [1, 2, 3, 4, 5, 6, 7, 8, 9, 10, 11, 12, 13, 56, 57, 58, 59, 60, 61, 62, 63, 64, 65, 66, 67, 68, 69, 70, 71, 72, 73, 74, 75, 76, 77, 78, 79, 80, 81, 82, 83, 84, 85, 86, 87, 88, 89, 90, 91, 92, 93, 94, 95, 96, 97, 98, 99, 100, 101, 102, 103, 104, 105, 106, 107]), (6, [48, 49, 50, 51, 52, 53, 54, 55]), (5, [43, 44, 45, 46, 47]), (4, [36, 37, 38, 39, 40, 41, 42]), (3, [29, 30, 31, 32, 33, 34, 35]), (2, [22, 23, 24, 25, 26, 27, 28]), (1, [14, 15, 16, 17, 18, 19, 20, 21]), (0, [0])]
theorem comp18 : compFn Try.prog loc18 (fun i => (fg18.lookup i).getD []) Try.f18 = some lit18 := by kernel_rfl

-- parcener/piece.Make
def lit19 : AFn := ⟨1, [.tmp 2, .tmp 3],
 (.seq
 (.ops [⟨some 2, (.mv (.c .nils)), none⟩,
 ⟨some 3, (.mv (.c (.int .i64 (0)))), none⟩]
 [] [2, 3])
 (.seq
 (.seq
 (.ops [⟨some 5, (.mv (.t 0)), none⟩,
 ⟨some 6, (.call (.f 46) [(.t 5)]), none⟩,
 ⟨some 4, (.mv (.t 6)), none⟩]
 [] [5, 6])
 (.seq
 (.ops [⟨some 7, (.mv (.t 4)), none⟩,
 ⟨some 8, (.bin .neq (.t 7) (.c (.int .i64 (0)))), none⟩]
 [] [7])
 (.cond (.t 8)
 (.seq
 (.ops [⟨some 9, (.mv (.t 4)), none⟩,
 ⟨some 2, (.mv (.c .nils)), none⟩,
 ⟨some 3, (.mv (.t 9)), none⟩]
 [] [0, 4, 8, 9])
 .ret)
 .skip)))
 (.seq
 (.ops [⟨some 10, (.mv (.t 0)), none⟩,
 ⟨some 11, (.call (.f 39) [(.t 10)]), none⟩,
 ⟨some 2, (.mv (.t 11)), none⟩,
 ⟨some 3, (.mv (.c (.int .i64 (0)))), none⟩]
 [] [0, 4, 8, 10, 11])
 .ret)))⟩
def loc19 : List Nat := []
def fg19 : List (Nat × List Nat) := [(4, [0, 4, 8, 10, 11]), (3, [0, 4, 8, 9]), (2, [7]), (1, [5, 6]), (0, [2, 3])]
theorem comp19 : compFn Try.prog loc19 (fun i => (fg19.lookup i).getD []) Try.f19 = some lit19 := by kernel_rfl

-- parcener/piece.Has
def lit22 : AFn := ⟨2, [.tmp 4, .tmp 5],
 (.seq
 (.ops [⟨some 3, (.boxH true 2 (.t 1)), none⟩,
 ⟨some 4, (.mv (.c (.bool false))), none⟩,
 ⟨some 5, (.mv (.c (.int .i64 (0)))), none⟩]
 [] [1, 4, 5])
 (.seq
 (.seq
 (.ops [⟨some 7, (.mv (.t 0)), none⟩,
 ⟨some 8, (.call (.f 30) [(.t 7)]), none⟩,
 ⟨some 6, (.mv (.t 8)), none⟩]
 [] [7, 8])
 (.seq
 (.ops [⟨some 9, (.mv (.t 6)), none⟩,
 ⟨some 10, (.bin .neq (.t 9) (.c (.int .i64 (0)))), none⟩]
 [] [9])
 (.cond (.t 10)
 (.seq
 (.ops [⟨some 11, (.mv (.t 6)), none⟩,
 ⟨some 4, (.mv (.c (.bool false))), none⟩,
 ⟨some 5, (.mv (.t 11)), none⟩]
 [] [0, 3, 6, 10, 11])
 .ret)
 .skip)))
 (.seq
 (.seq
 (.ops [⟨some 12, (.load true 2 (.t 3)), none⟩,
 ⟨some 13, (.call (.f 51) [(.t 12)]), none⟩,
 ⟨some 14, (.bin .neq (.t 13) (.c (.int .i64 (0)))), none⟩]
 [] [6, 10, 12, 13])
 (.cond (.t 14)
 (.seq
 (.ops [⟨some 4, (.mv (.c (.bool false))), none⟩,
 ⟨some 5, (.mv (.c (.int .i64 (2)))), none⟩]
 [] [0, 3, 14])
 .ret)
 .skip))
 (.seq
 (.ops [⟨some 15, (.mv (.t 0)), none⟩,
 ⟨some 16, (.mkFn (.func 53) [] [(.t 3)]), none⟩,
 ⟨some 17, (.call (.f 52) [(.t 15), (.t 16)]), none⟩,
 ⟨some 4, (.mv (.t 17)), none⟩,
 ⟨some 5, (.mv (.c (.int .i64 (0)))), none⟩]
 [] [0, 3, 14, 15, 16, 17])
 .ret))))⟩
def loc22 : List Nat := []
def fg22 : List (Nat × List Nat) := [(6, [0, 3, 14, 15, 16, 17]), (5, [0, 3, 14]), (4, [6, 10, 12, 13]), (3, [0, 3, 6, 10, 11]), (2, [9]), (1, [7, 8]), (0, [1, 4, 5])]
theorem comp22 : compFn Try.prog loc22 (fun i => (fg22.lookup i).getD []) Try.f22 = some lit22 := by kernel_rfl

-- parcener/piece.Cut
def lit25 : AFn := ⟨2, [.tmp 4, .tmp 5, .tmp 6],
 (.seq
 (.ops [⟨some 3, (.boxL (.t 1)), none⟩,
 ⟨some 4, (.mv (.c .nils)), none⟩,
 ⟨some 5, (.mv (.c .nils)), none⟩,
 ⟨some 6, (.mv (.c (.int .i64 (0)))), none⟩]
 [] [1, 6])
 (.seq
 (.seq
 (.ops [⟨some 12, (.mv (.t 0)), none⟩,
 ⟨some 13, (.call (.f 30) [(.t 12)]), none⟩,
 ⟨some 7, (.mv (.t 13)), none⟩]
 [] [12, 13])
 (.seq
 (.ops [⟨some 14, (.mv (.t 7)), none⟩,
 ⟨some 15, (.bin .neq (.t 14) (.c (.int .i64 (0)))), none⟩]
 [] [14])
 (.cond (.t 15)
 (.seq
 (.ops [⟨some 16, (.mv (.t 7)), none⟩,
 ⟨some 4, (.mv (.c .nils)), none⟩,
 ⟨some 5, (.mv (.c .nils)), none⟩,
 ⟨some 6, (.mv (.t 16)), none⟩]
 [] [0, 3, 7, 15, 16])
 .ret)
 .skip)))
 (.seq
 (.seq
 (.ops [⟨some 17, (.load true 2 (.t 3)), none⟩,
 ⟨some 18, (.call (.f 51) [(.t 17)]), none⟩,
 ⟨some 19, (.bin .neq (.t 18) (.c (.int .i64 (0)))), none⟩]
 [] [7, 15, 17, 18])
 (.cond (.t 19)
 (.seq
 (.ops [⟨some 4, (.mv (.c .nils)), none⟩,
 ⟨some 5, (.mv (.c .nils)), none⟩,
 ⟨some 6, (.mv (.c (.int .i64 (2)))), none⟩]
 [] [0, 3, 19])
 .ret)
 .skip))
 (.seq
 (.seq
 (.ops [⟨some 20, (.mv (.t 0)), none⟩,
 ⟨some 21, (.len (.t 20)), none⟩,
 ⟨some 22, (.mv (.c (.int .i64 (0)))), none⟩]
 [] [0, 19])
 (.block 0
 (.loop
 (.seq
 (.ops [⟨some 23, (.bin .lss (.t 22) (.t 21)), none⟩]
 [] [])
 (.seq
 (.cond (.t 23)
 .skip
 (.exit 0))
 (.seq
 (.block 1
 (.seq
 (.ops [⟨some 24, (.iad 4 (.t 20) (.t 22)), none⟩,
 ⟨some 25, (.load true 4 (.t 24)), none⟩,
 ⟨some 9, (.allocL (.agg [(.int .i64 (0)), (.int .i64 (0)), (.int .i64 (0)), (.int .i64 (0))])), none⟩,
 ⟨none, (.store 4 (.t 9) (.t 25)), none⟩]
 [] [23, 24, 25])
 (.seq
 (.seq
 (.ops [⟨some 26, (.fad 0 (.t 9)), none⟩,
 ⟨some 27, (.load true 2 (.t 26)), none⟩,
 ⟨some 28, (.fad 2 (.t 9)), none⟩,
 ⟨some 29, (.load true 2 (.t 28)), none⟩,
 ⟨some 30, (.load true 2 (.t 3)), none⟩,
 ⟨some 31, (.call (.f 43) [(.t 29), (.t 30)]), none⟩,
 ⟨some 32, (.build [(.int .i64 (0)), (.int .i64 (0)), (.int .i64 (0)), (.int .i64 (0))] [(0, 2, (.t 27)), (2, 2, (.t 31))]), none⟩,
 ⟨some 10, (.allocL (.agg [(.int .i64 (0)), (.int .i64 (0)), (.int .i64 (0)), (.int .i64 (0))])), none⟩,
 ⟨none, (.store 4 (.t 10) (.t 32)), none⟩]
 [(0, 2), (1, 2), (0, 3), (1, 3), (0, 4), (1, 4), (2, 4), (3, 4), (0, 5), (1, 5), (0, 7), (1, 7), (2, 7), (3, 7), (4, 7), (5, 7), (6, 7)] [26, 27, 28, 29, 30, 31, 32])
 (.seq
 (.ops [⟨some 33, (.load true 4 (.t 10)), none⟩,
 ⟨some 34, (.call (.f 44) [(.t 33)]), none⟩]
 [] [33])
 (.cond (.t 34)
 (.ops [⟨some 35, (.mv (.t 4)), none⟩,
 ⟨some 36, (.load true 4 (.t 10)), none⟩,
 ⟨some 37, (.buildD 4 (.agg [(.int .i64 (0)), (.int .i64 (0)), (.int .i64 (0)), (.int .i64 (0))]) 1 [(0, (.t 36))]), none⟩,
 ⟨some 38, (.app true 4 32 (.t 35) (.t 37)), none⟩,
 ⟨some 4, (.mv (.t 38)), none⟩]
 [] [10, 34, 35, 36, 37, 38])
 .skip)))
 (.seq
 (.ops [⟨some 39, (.fad 0 (.t 9)), none⟩,
 ⟨some 40, (.load true 2 (.t 39)), none⟩,
 ⟨some 41, (.load true 2 (.t 3)), none⟩,
 ⟨some 42, (.call (.f 42) [(.t 40), (.t 41)]), none⟩,
 ⟨some 43, (.fad 2 (.t 9)), none⟩,
 ⟨some 44, (.load true 2 (.t 43)), none⟩,
 ⟨some 45, (.build [(.int .i64 (0)), (.int .i64 (0)), (.int .i64 (0)), (.int .i64 (0))] [(0, 2, (.t 42)), (2, 2, (.t 44))]), none⟩,
 ⟨some 11, (.allocL (.agg [(.int .i64 (0)), (.int .i64 (0)), (.int .i64 (0)), (.int .i64 (0))])), none⟩,
 ⟨none, (.store 4 (.t 11) (.t 45)), none⟩]
 [(0, 2), (1, 2), (0, 4), (1, 4), (2, 4), (3, 4), (0, 5), (1, 5), (2, 5), (3, 5), (0, 7), (1, 7), (2, 7), (3, 7), (4, 7), (5, 7), (6, 7)] [9, 10, 34, 39, 40, 41, 42, 43, 44, 45])
 (.seq
 (.ops [⟨some 46, (.load true 4 (.t 11)), none⟩,
 ⟨some 47, (.call (.f 44) [(.t 46)]), none⟩]
 [] [46])
 (.cond (.t 47)
 (.ops [⟨some 48, (.mv (.t 5)), none⟩,
 ⟨some 49, (.load true 4 (.t 11)), none⟩,
 ⟨some 50, (.buildD 4 (.agg [(.int .i64 (0)), (.int .i64 (0)), (.int .i64 (0)), (.int .i64 (0))]) 1 [(0, (.t 49))]), none⟩,
 ⟨some 51, (.app true 4 32 (.t 48) (.t 50)), none⟩,
 ⟨some 5, (.mv (.t 51)), none⟩]
 [] [11, 47, 48, 49, 50, 51])
 .skip))))))
 (.ops [⟨some 52, (.bin .add (.t 22) (.c (.int .i64 (1)))), none⟩,
 ⟨some 22, (.mv (.t 52)), none⟩]
 [] [11, 47, 52])))))))
 (.seq
 (.ops [⟨some 53, (.mv (.t 4)), none⟩,
 ⟨some 54, (.mv (.t 5)), none⟩,
 ⟨some 4, (.mv (.t 53)), none⟩,
 ⟨some 5, (.mv (.t 54)), none⟩,
 ⟨some 6, (.mv (.c (.int .i64 (0)))), none⟩]
 [] [3, 20, 21, 22, 23, 53, 54])
 .ret)))))⟩
def loc25 : List Nat := [37, 50, 3, 9, 10, 11]
def fg25 : List (Nat × List Nat) := [(16, [3, 20, 21, 22, 23, 53, 54]), (15, [11, 47, 52]), (14, [11, 47, 48, 49, 50, 51]), (13, [46]), (12, [9, 10, 34, 39, 40, 41, 42, 43, 44, 45]), (11, [10, 34, 35, 36, 37, 38]), (10, [33]), (9, [26, 27, 28, 29, 30, 31, 32]), (8, [23, 24, 25]), (6, [0, 19]), (5, [0, 3, 19]), (4, [7, 15, 17, 18]), (3, [0, 3, 7, 15, 16]), (2, [14]), (1, [12, 13]), (0, [1, 6])]
theorem comp25 : compFn Try.prog loc25 (fun i => (fg25.lookup i).getD []) Try.f25 = some lit25 := by kernel_rfl

-- parcener/parcenerlaw03.of
def lit26 : AFn := ⟨2, [.cell 4 true 4],
 (.seq
 (.ops [⟨some 4, (.allocL (.agg [(.int .i64 (0)), (.int .i64 (0)), (.int .i64 (0)), (.int .i64 (0))])), none⟩]
 [] [])
 (.seq
 (.ops [⟨some 5, (.mv (.t 0)), none⟩,
 ⟨some 6, (.build [(.int .i64 (0)), (.int .i64 (0))] [(0, 1, (.t 5)), (1, 1, (.c (.int .i64 (1))))]), none⟩,
 ⟨some 7, (.mv (.t 1)), none⟩,
 ⟨some 8, (.build [(.int .i64 (0)), (.int .i64 (0))] [(0, 1, (.t 7)), (1, 1, (.c (.int .i64 (1))))]), none⟩,
 ⟨some 9, (.build [(.int .i64 (0)), (.int .i64 (0)), (.int .i64 (0)), (.int .i64 (0))] [(0, 2, (.t 6)), (2, 2, (.t 8))]), none⟩,
 ⟨none, (.store 4 (.t 4) (.t 9)), none⟩]
 [] [0, 1, 5, 6, 7, 8, 9])
 .ret))⟩
def loc26 : List Nat := [4]
def fg26 : List (Nat × List Nat) := [(1, [0, 1, 5, 6, 7, 8, 9])]
theorem comp26 : compFn Try.prog loc26 (fun i => (fg26.lookup i).getD []) Try.f26 = some lit26 := by kernel_rfl

-- parcener/piece.Worth
def lit27 : AFn := ⟨2, [.cell 4 true 2, .tmp 5],
 (.seq
 (.ops [⟨some 2, (.boxH true 3 (.t 0)), none⟩,
 ⟨some 4, (.allocL (.agg [(.int .i64 (0)), (.int .i64 (0))])), none⟩,
 ⟨some 5, (.mv (.c (.int .i64 (0)))), none⟩]
 [] [0, 5])
 (.seq
 (.seq
 (.ops [⟨some 9, (.load true 3 (.t 2)), none⟩,
 ⟨some 10, (.call (.f 55) [(.t 9)]), none⟩,
 ⟨some 6, (.mv (.t 10)), none⟩]
 [] [9, 10])
 (.seq
 (.ops [⟨some 11, (.mv (.t 6)), none⟩,
 ⟨some 12, (.bin .neq (.t 11) (.c (.int .i64 (0)))), none⟩]
 [] [11])
 (.cond (.t 12)
 (.seq
 (.ops [⟨some 13, (.build [(.int .i64 (0)), (.int .i64 (0))] []), none⟩,
 ⟨some 14, (.mv (.t 6)), none⟩,
 ⟨none, (.store 2 (.t 4) (.t 13)), none⟩,
 ⟨some 5, (.mv (.t 14)), none⟩]
 [] [1, 2, 6, 12, 13, 14])
 .ret)
 .skip)))
 (.seq
 (.seq
 (.ops [⟨some 15, (.mv (.t 1)), none⟩,
 ⟨some 16, (.call (.f 30) [(.t 15)]), none⟩,
 ⟨some 7, (.mv (.t 16)), none⟩]
 [] [6, 12, 15, 16])
 (.seq
 (.ops [⟨some 17, (.mv (.t 7)), none⟩,
 ⟨some 18, (.bin .neq (.t 17) (.c (.int .i64 (0)))), none⟩]
 [] [17])
 (.cond (.t 18)
 (.seq
 (.ops [⟨some 19, (.build [(.int .i64 (0)), (.int .i64 (0))] []), none⟩,
 ⟨some 20, (.mv (.t 7)), none⟩,
 ⟨none, (.store 2 (.t 4) (.t 19)), none⟩,
 ⟨some 5, (.mv (.t 20)), none⟩]
 [] [1, 2, 7, 18, 19, 20])
 .ret)
 .skip)))
 (.seq
 (.seq
 (.ops [⟨some 21, (.mv (.t 1)), none⟩,
 ⟨some 22, (.len (.t 21)), none⟩,
 ⟨some 8, (.mv (.t 22)), none⟩]
 [] [7, 18, 21, 22])
 (.seq
 (.ops [⟨some 23, (.mv (.t 8)), none⟩,
 ⟨some 24, (.bin .gtr (.t 23) (.c (.int .i64 (0)))), none⟩,
 ⟨some 25, (.mv (.t 24)), none⟩,
 ⟨some 26, (.mv (.t 1)), some (25, true)⟩,
 ⟨some 27, (.iad 4 (.t 26) (.c (.int .i64 (0)))), some (25, true)⟩,
 ⟨some 28, (.fad 0 (.t 27)), some (25, true)⟩,
 ⟨some 29, (.fad 0 (.t 28)), some (25, true)⟩,
 ⟨some 30, (.load false 1 (.t 29)), some (25, true)⟩,
 ⟨some 31, (.bin .lss (.t 30) (.c (.int .i64 (0)))), some (25, true)⟩,
 ⟨some 32, (.mv (.t 31)), some (25, true)⟩,
 ⟨some 33, (.mv (.t 1)), some (32, false)⟩,
 ⟨some 34, (.mv (.t 8)), some (32, false)⟩,
 ⟨some 35, (.bin .sub (.t 34) (.c (.int .i64 (1)))), some (32, false)⟩,
 ⟨some 36, (.iad 4 (.t 33) (.t 35)), some (32, false)⟩,
 ⟨some 37, (.fad 2 (.t 36)), some (32, false)⟩,
 ⟨some 38, (.load true 2 (.t 37)), some (32, false)⟩,
 ⟨some 39, (.fad 0 (.t 2)), some (32, false)⟩,
 ⟨some 40, (.load false 1 (.t 39)), some (32, false)⟩,
 ⟨some 41, (.build [(.int .i64 (0)), (.int .i64 (0))] [(0, 1, (.t 40)), (1, 1, (.c (.int .i64 (1))))]), some (32, false)⟩,
 ⟨some 42, (.call (.f 45) [(.t 38), (.t 41)]), some (32, false)⟩,
 ⟨some 43, (.bin .gtr (.t 42) (.c (.int .i64 (0)))), some (32, false)⟩,
 ⟨some 44, (.pick (.t 32) (.c (.bool true)) (.t 43)), some (25, true)⟩,
 ⟨some 45, (.pick (.t 25) (.t 44) (.c (.bool false))), none⟩]
 [(10, 11), (10, 12), (10, 16), (11, 16), (12, 16), (13, 16), (14, 16), (15, 16), (10, 17), (11, 17), (12, 17), (13, 17), (14, 17), (15, 17), (10, 18), (11, 18), (12, 18), (13, 18), (14, 18), (15, 18)] [8, 23, 24, 25, 26, 27, 28, 29, 30, 31, 32, 33, 34, 35, 36, 37, 38, 39, 40, 41, 42, 43, 44])
 (.cond (.t 45)
 (.seq
 (.ops [⟨some 46, (.build [(.int .i64 (0)), (.int .i64 (0))] []), none⟩,
 ⟨none, (.store 2 (.t 4) (.t 46)), none⟩,
 ⟨some 5, (.mv (.c (.int .i64 (2)))), none⟩]
 [] [1, 2, 45, 46])
 .ret)
 .skip)))
 (.seq
 (.ops [⟨some 47, (.mv (.t 1)), none⟩,
 ⟨some 48, (.mkFn (.func 57) [] [(.t 2)]), none⟩,
 ⟨some 49, (.call (.f 56) [(.t 47), (.t 48)]), none⟩,
 ⟨some 50, (.ext (.t 49) 0), none⟩,
 ⟨some 51, (.ext (.t 49) 1), none⟩,
 ⟨none, (.store 2 (.t 4) (.t 50)), none⟩,
 ⟨some 5, (.mv (.t 51)), none⟩]
 [] [1, 2, 45, 47, 48, 49, 50, 51])
 .ret)))))⟩
def loc27 : List Nat := [4]
def fg27 : List (Nat × List Nat) := [(10, [1, 2, 45, 47, 48, 49, 50, 51]), (9, [1, 2, 45, 46]), (8, [8, 23, 24, 25, 26, 27, 28, 29, 30, 31, 32, 33, 34, 35, 36, 37, 38, 39, 40, 41, 42, 43, 44]), (7, [7, 18, 21, 22]), (6, [1, 2, 7, 18, 19, 20]), (5, [17]), (4, [6, 12, 15, 16]), (3, [1, 2, 6, 12, 13, 14]), (2, [11]), (1, [9, 10]), (0, [0, 5])]
theorem comp27 : compFn Try.prog loc27 (fun i => (fg27.lookup i).getD []) Try.f27 = some lit27 := by kernel_rfl

-- parcener/parcenerlaw03.is
def lit28 : AFn := ⟨3, [.tmp 6],
 (.seq
 (.ops [⟨some 6, (.mv (.c (.bool false))), none⟩]
 [] [6])
 (.seq
 (.ops [⟨some 7, (.mv (.t 1)), none⟩,
 ⟨some 8, (.bin .eql (.t 7) (.c (.int .i64 (0)))), none⟩,
 ⟨some 9, (.mv (.t 8)), none⟩,
 ⟨some 10, (.mv (.t 0)), some (9, true)⟩,
 ⟨some 11, (.mv (.t 2)), some (9, true)⟩,
 ⟨some 12, (.call (.f 16) [(.t 10), (.t 11)]), some (9, true)⟩,
 ⟨some 13, (.pick (.t 9) (.t 12) (.c (.bool false))), none⟩,
 ⟨some 6, (.mv (.t 13)), none⟩]
 [] [0, 1, 2, 7, 8, 9, 10, 11, 12, 13])
 .ret))⟩
def loc28 : List Nat := []
def fg28 : List (Nat × List Nat) := [(1, [0, 1, 2, 7, 8, 9, 10, 11, 12, 13]), (0, [6])]
theorem comp28 : compFn Try.prog loc28 (fun i => (fg28.lookup i).getD []) Try.f28 = some lit28 := by kernel_rfl

-- parcener/piece.Length
def lit29 : AFn := ⟨1, [.cell 2 true 2, .tmp 3],
 (.seq
 (.ops [⟨some 2, (.allocL (.agg [(.int .i64 (0)), (.int .i64 (0))])), none⟩,
 ⟨some 3, (.mv (.c (.int .i64 (0)))), none⟩]
 [] [3])
 (.seq
 (.seq
 (.ops [⟨some 5, (.mv (.t 0)), none⟩,
 ⟨some 6, (.call (.f 30) [(.t 5)]), none⟩,
 ⟨some 4, (.mv (.t 6)), none⟩]
 [] [5, 6])
 (.seq
 (.ops [⟨some 7, (.mv (.t 4)), none⟩,
 ⟨some 8, (.bin .neq (.t 7) (.c (.int .i64 (0)))), none⟩]
 [] [7])
 (.cond (.t 8)
 (.seq
 (.ops [⟨some 9, (.build [(.int .i64 (0)), (.int .i64 (0))] []), none⟩,
 ⟨some 10, (.mv (.t 4)), none⟩,
 ⟨none, (.store 2 (.t 2) (.t 9)), none⟩,
 ⟨some 3, (.mv (.t 10)), none⟩]
 [] [0, 4, 8, 9, 10])
 .ret)
 .skip)))
 (.seq
 (.ops [⟨some 11, (.mv (.t 0)), none⟩,
 ⟨some 12, (.call (.f 56) [(.t 11), (.f 59)]), none⟩,
 ⟨some 13, (.ext (.t 12) 0), none⟩,
 ⟨some 14, (.ext (.t 12) 1), none⟩,
 ⟨none, (.store 2 (.t 2) (.t 13)), none⟩,
 ⟨some 3, (.mv (.t 14)), none⟩]
 [] [0, 4, 8, 11, 12, 13, 14])
 .ret)))⟩
def loc29 : List Nat := [2]
def fg29 : List (Nat × List Nat) := [(4, [0, 4, 8, 11, 12, 13, 14]), (3, [0, 4, 8, 9, 10]), (2, [7]), (1, [5, 6]), (0, [3])]
theorem comp29 : compFn Try.prog loc29 (fun i => (fg29.lookup i).getD []) Try.f29 = some lit29 := by kernel_rfl

-- parcener/piece.Check
def lit30 : AFn := ⟨1, [.tmp 2],
 (.seq
 (.ops [⟨some 2, (.mv (.c (.int .i64 (0)))), none⟩]
 [] [2])
 (.seq
 (.seq
 (.ops [⟨some 5, (.mv (.t 0)), none⟩,
 ⟨some 6, (.call (.f 46) [(.t 5)]), none⟩,
 ⟨some 3, (.mv (.t 6)), none⟩]
 [] [5, 6])
 (.seq
 (.ops [⟨some 7, (.mv (.t 3)), none⟩,
 ⟨some 8, (.bin .neq (.t 7) (.c (.int .i64 (0)))), none⟩]
 [] [7])
 (.cond (.t 8)
 (.seq
 (.ops [⟨some 9, (.mv (.t 3)), none⟩,
 ⟨some 2, (.mv (.t 9)), none⟩]
 [] [0, 3, 8, 9])
 .ret)
 .skip)))
 (.seq
 (.seq
 (.ops [⟨some 4, (.mv (.c (.int .i64 (1)))), none⟩]
 [] [3, 8])
 (.block 0
 (.loop
 (.seq
 (.seq
 (.ops [⟨some 10, (.mv (.t 4)), none⟩,
 ⟨some 11, (.mv (.t 0)), none⟩,
 ⟨some 12, (.len (.t 11)), none⟩,
 ⟨some 13, (.bin .lss (.t 10) (.t 12)), none⟩]
 [] [10, 11, 12])
 (.cond (.t 13)
 .skip
 (.exit 0)))
 (.seq
 (.block 1
 (.seq
 (.ops [⟨some 16, (.mv (.t 0)), none⟩,
 ⟨some 17, (.mv (.t 4)), none⟩,
 ⟨some 18, (.bin .sub (.t 17) (.c (.int .i64 (1)))), none⟩,
 ⟨some 19, (.iad 4 (.t 16) (.t 18)), none⟩,
 ⟨some 20, (.fad 2 (.t 19)), none⟩,
 ⟨some 21, (.load true 2 (.t 20)), none⟩,
 ⟨some 22, (.mv (.t 0)), none⟩,
 ⟨some 23, (.mv (.t 4)), none⟩,
 ⟨some 24, (.iad 4 (.t 22) (.t 23)), none⟩,
 ⟨some 25, (.fad 0 (.t 24)), none⟩,
 ⟨some 26, (.load true 2 (.t 25)), none⟩,
 ⟨some 27, (.call (.f 45) [(.t 21), (.t 26)]), none⟩,
 ⟨some 28, (.bin .geq (.t 27) (.c (.int .i64 (0)))), none⟩]
 [(0, 1), (0, 2), (0, 6), (1, 6), (2, 6), (3, 6), (4, 6), (5, 6), (0, 7), (1, 7), (2, 7), (3, 7), (4, 7), (5, 7), (6, 7), (0, 8), (1, 8), (2, 8), (3, 8), (4, 8), (5, 8), (0, 9), (1, 9), (2, 9), (3, 9), (4, 9), (5, 9), (0, 10), (1, 10), (2, 10), (3, 10), (4, 10), (5, 10)] [13, 16, 17, 18, 19, 20, 21, 22, 23, 24, 25, 26, 27])
 (.cond (.t 28)
 (.seq
 (.ops [⟨some 2, (.mv (.c (.int .i64 (8)))), none⟩]
 [] [0, 4, 28])
 .ret)
 .skip)))
 (.ops [⟨some 14, (.mv (.t 4)), none⟩,
 ⟨some 15, (.bin .add (.t 14) (.c (.int .i64 (1)))), none⟩,
 ⟨some 4, (.mv (.t 15)), none⟩]
 [] [14, 15, 28]))))))
 (.seq
 (.ops [⟨some 2, (.mv (.c (.int .i64 (0)))), none⟩]
 [] [0, 4, 13])
 .ret))))⟩
def loc30 : List Nat := []
def fg30 : List (Nat × List Nat) := [(9, [0, 4, 13]), (6, [14, 15, 28]), (8, [0, 4, 28]), (7, [13, 16, 17, 18, 19, 20, 21, 22, 23, 24, 25, 26, 27]), (5, [10, 11, 12]), (4, [3, 8]), (3, [0, 3, 8, 9]), (2, [7]), (1, [5, 6]), (0, [2])]
theorem comp30 : compFn Try.prog loc30 (fun i => (fg30.lookup i).getD []) Try.f30 = some lit30 := by kernel_rfl

-- parcener/piece.both
def lit37 : AFn := ⟨2, [.tmp 4],
 (.seq
 (.ops [⟨some 4, (.mv (.c (.int .i64 (0)))), none⟩]
 [] [4])
 (.seq
 (.seq
 (.ops [⟨some 6, (.mv (.t 0)), none⟩,
 ⟨some 7, (.call (.f 30) [(.t 6)]), none⟩,
 ⟨some 5, (.mv (.t 7)), none⟩]
 [] [0, 6, 7])
 (.seq
 (.ops [⟨some 8, (.mv (.t 5)), none⟩,
 ⟨some 9, (.bin .neq (.t 8) (.c (.int .i64 (0)))), none⟩]
 [] [8])
 (.cond (.t 9)
 (.seq
 (.ops [⟨some 10, (.mv (.t 5)), none⟩,
 ⟨some 4, (.mv (.t 10)), none⟩]
 [] [1, 5, 9, 10])
 .ret)
 .skip)))
 (.seq
 (.ops [⟨some 11, (.mv (.t 1)), none⟩,
 ⟨some 12, (.call (.f 30) [(.t 11)]), none⟩,
 ⟨some 4, (.mv (.t 12)), none⟩]
 [] [1, 5, 9, 11, 12])
 .ret)))⟩
def loc37 : List Nat := []
def fg37 : List (Nat × List Nat) := [(4, [1, 5, 9, 11, 12]), (3, [1, 5, 9, 10]), (2, [8]), (1, [0, 6, 7]), (0, [4])]
theorem comp37 : compFn Try.prog loc37 (fun i => (fg37.lookup i).getD []) Try.f37 = some lit37 := by kernel_rfl

-- parcener/piece.few
def lit38 : AFn := ⟨1, [.tmp 2, .tmp 3],
 (.seq
 (.ops [⟨some 2, (.mv (.c .nils)), none⟩,
 ⟨some 3, (.mv (.c (.int .i64 (0)))), none⟩]
 [] [2, 3])
 (.seq
 (.seq
 (.ops [⟨some 4, (.mv (.t 0)), none⟩,
 ⟨some 5, (.len (.t 4)), none⟩,
 ⟨some 6, (.bin .gtr (.t 5) (.c (.int .i64 (60)))), none⟩]
 [] [4, 5])
 (.cond (.t 6)
 (.seq
 (.ops [⟨some 2, (.mv (.c .nils)), none⟩,
 ⟨some 3, (.mv (.c (.int .i64 (4)))), none⟩]
 [] [0, 6])
 .ret)
 .skip))
 (.seq
 (.ops [⟨some 7, (.mv (.t 0)), none⟩,
 ⟨some 2, (.mv (.t 7)), none⟩,
 ⟨some 3, (.mv (.c (.int .i64 (0)))), none⟩]
 [] [0, 6, 7])
 .ret)))⟩
def loc38 : List Nat := []
def fg38 : List (Nat × List Nat) := [(3, [0, 6, 7]), (2, [0, 6]), (1, [4, 5]), (0, [2, 3])]
theorem comp38 : compFn Try.prog loc38 (fun i => (fg38.lookup i).getD []) Try.f38 = some lit38 := by kernel_rfl

-- parcener/piece.merged
def lit39 : AFn := ⟨1, [.tmp 2],
 (.seq
 (.ops [⟨some 2, (.mv (.c .nils)), none⟩]
 [] [2])
 (.seq
 (.ops [⟨some 7, (.mv (.t 0)), none⟩,
 ⟨some 8, (.call (.f 63) [(.t 7)]), none⟩,
 ⟨some 0, (.mv (.t 8)), none⟩]
 [] [7, 8])
 (.seq
 (.ops [⟨some 9, (.mv (.t 0)), none⟩,
 ⟨some 10, (.call (.f 64) [(.t 9), (.f 65)]), none⟩]
 [] [9, 10])
 (.seq
 (.ops [⟨some 3, (.mv (.c .nils)), none⟩]
 [] [])
 (.seq
 (.seq
 (.ops [⟨some 11, (.mv (.t 0)), none⟩,
 ⟨some 12, (.len (.t 11)), none⟩,
 ⟨some 13, (.mv (.c (.int .i64 (0)))), none⟩]
 [] [0])
 (.block 0
 (.loop
 (.seq
 (.ops [⟨some 14, (.bin .lss (.t 13) (.t 12)), none⟩]
 [] [])
 (.seq
 (.cond (.t 14)
 .skip
 (.exit 0))
 (.seq
 (.block 1
 (.seq
 (.ops [⟨some 15, (.iad 4 (.t 11) (.t 13)), none⟩,
 ⟨some 16, (.load true 4 (.t 15)), none⟩,
 ⟨some 5, (.allocL (.agg [(.int .i64 (0)), (.int .i64 (0)), (.int .i64 (0)), (.int .i64 (0))])), none⟩,
 ⟨none, (.store 4 (.t 5) (.t 16)), none⟩]
 [] [14, 15, 16])
 (.seq
 (.seq
 (.ops [⟨some 17, (.mv (.t 3)), none⟩,
 ⟨some 18, (.len (.t 17)), none⟩,
 ⟨some 6, (.mv (.t 18)), none⟩]
 [] [17, 18])
 (.seq
 (.ops [⟨some 19, (.mv (.t 6)), none⟩,
 ⟨some 20, (.bin .gtr (.t 19) (.c (.int .i64 (0)))), none⟩,
 ⟨some 21, (.mv (.t 20)), none⟩,
 ⟨some 22, (.fad 0 (.t 5)), some (21, true)⟩,
 ⟨some 23, (.load true 2 (.t 22)), some (21, true)⟩,
 ⟨some 24, (.mv (.t 3)), some (21, true)⟩,
 ⟨some 25, (.mv (.t 6)), some (21, true)⟩,
 ⟨some 26, (.bin .sub (.t 25) (.c (.int .i64 (1)))), some (21, true)⟩,
 ⟨some 27, (.iad 4 (.t 24) (.t 26)), some (21, true)⟩,
 ⟨some 28, (.fad 2 (.t 27)), some (21, true)⟩,
 ⟨some 29, (.load true 2 (.t 28)), some (21, true)⟩,
 ⟨some 30, (.call (.f 45) [(.t 23), (.t 29)]), some (21, true)⟩,
 ⟨some 31, (.bin .leq (.t 30) (.c (.int .i64 (0)))), some (21, true)⟩,
 ⟨some 32, (.pick (.t 21) (.t 31) (.c (.bool false))), none⟩]
 [(3, 5), (4, 5), (3, 6), (4, 6), (5, 6), (3, 7), (4, 7), (5, 7), (3, 8), (4, 8), (3, 9), (4, 9), (3, 10), (4, 10)] [19, 20, 21, 22, 23, 24, 25, 26, 27, 28, 29, 30, 31])
 (.cond (.t 32)
 (.seq
 (.seq
 (.ops [⟨some 33, (.fad 2 (.t 5)), none⟩,
 ⟨some 34, (.load true 2 (.t 33)), none⟩,
 ⟨some 35, (.mv (.t 3)), none⟩,
 ⟨some 36, (.mv (.t 6)), none⟩,
 ⟨some 37, (.bin .sub (.t 36) (.c (.int .i64 (1)))), none⟩,
 ⟨some 38, (.iad 4 (.t 35) (.t 37)), none⟩,
 ⟨some 39, (.fad 2 (.t 38)), none⟩,
 ⟨some 40, (.load true 2 (.t 39)), none⟩,
 ⟨some 41, (.call (.f 45) [(.t 34), (.t 40)]), none⟩,
 ⟨some 42, (.bin .gtr (.t 41) (.c (.int .i64 (0)))), none⟩]
 [(0, 2), (1, 2), (0, 3), (1, 3), (2, 3), (0, 4), (1, 4), (2, 4), (0, 5), (1, 5), (0, 6), (1, 6), (0, 7), (1, 7)] [32, 33, 34, 35, 36, 37, 38, 39, 40, 41])
 (.cond (.t 42)
 (.ops [⟨some 43, (.mv (.t 3)), none⟩,
 ⟨some 44, (.mv (.t 6)), none⟩,
 ⟨some 45, (.bin .sub (.t 44) (.c (.int .i64 (1)))), none⟩,
 ⟨some 46, (.fad 2 (.t 5)), none⟩,
 ⟨some 47, (.load true 2 (.t 46)), none⟩,
 ⟨some 48, (.iad 4 (.t 43) (.t 45)), none⟩,
 ⟨some 49, (.fad 2 (.t 48)), none⟩,
 ⟨none, (.store 2 (.t 49) (.t 47)), none⟩]
 [] [5, 6, 42, 43, 44, 45, 46, 47, 48, 49])
 .skip))
 (.exit 1))
 .skip)))
 (.ops [⟨some 50, (.mv (.t 3)), none⟩,
 ⟨some 51, (.load true 4 (.t 5)), none⟩,
 ⟨some 52, (.buildD 4 (.agg [(.int .i64 (0)), (.int .i64 (0)), (.int .i64 (0)), (.int .i64 (0))]) 1 [(0, (.t 51))]), none⟩,
 ⟨some 53, (.app true 4 32 (.t 50) (.t 52)), none⟩,
 ⟨some 3, (.mv (.t 53)), none⟩]
 [] [5, 6, 32, 50, 51, 52, 53]))))
 (.ops [⟨some 54, (.bin .add (.t 13) (.c (.int .i64 (1)))), none⟩,
 ⟨some 13, (.mv (.t 54)), none⟩]
 [] [5, 6, 42, 54])))))))
 (.seq
 (.ops [⟨some 55, (.mv (.t 3)), none⟩,
 ⟨some 2, (.mv (.t 55)), none⟩]
 [] [3, 11, 12, 13, 14, 55])
 .ret))))))⟩
def loc39 : List Nat := [52, 5]
def fg39 : List (Nat × List Nat) := [(13, [3, 11, 12, 13, 14, 55]), (12, [5, 6, 42, 54]), (11, [5, 6, 32, 50, 51, 52, 53]), (10, [5, 6, 42, 43, 44, 45, 46, 47, 48, 49]), (9, [32, 33, 34, 35, 36, 37, 38, 39, 40, 41]), (8, [19, 20, 21, 22, 23, 24, 25, 26, 27, 28, 29, 30, 31]), (7, [17, 18]), (6, [14, 15, 16]), (4, [0]), (2, [9, 10]), (1, [7, 8]), (0, [2])]
theorem comp39 : compFn Try.prog loc39 (fun i => (fg39.lookup i).getD []) Try.f39 = some lit39 := by kernel_rfl

-- slices.Concat[[]parcener/api.Span,parcener/api.Span]
def lit40 : AFn := ⟨1, [.tmp 2],
 (.seq
 (.ops [⟨some 2, (.mv (.c .nils)), none⟩]
 [] [2])
 (.seq
 (.ops [⟨some 3, (.mv (.c (.int .i64 (0)))), none⟩]
 [] [])
 (.seq
 (.seq
 (.ops [⟨some 9, (.mv (.t 0)), none⟩,
 ⟨some 10, (.len (.t 9)), none⟩,
 ⟨some 11, (.mv (.c (.int .i64 (0)))), none⟩]
 [] [])
 (.block 0
 (.loop
 (.seq
 (.ops [⟨some 12, (.bin .lss (.t 11) (.t 10)), none⟩]
 [] [])
 (.seq
 (.cond (.t 12)
 .skip
 (.exit 0))
 (.seq
 (.block 1
 (.seq
 (.ops [⟨some 13, (.iad 1 (.t 9) (.t 11)), none⟩,
 ⟨some 14, (.load false 1 (.t 13)), none⟩,
 ⟨some 5, (.mv (.t 14)), none⟩]
 [] [12, 13, 14])
 (.seq
 (.ops [⟨some 15, (.mv (.t 3)), none⟩,
 ⟨some 16, (.mv (.t 5)), none⟩,
 ⟨some 17, (.len (.t 16)), none⟩,
 ⟨some 18, (.bin .add (.t 15) (.t 17)), none⟩,
 ⟨some 3, (.mv (.t 18)), none⟩]
 [] [5, 15, 16, 17, 18])
 (.seq
 (.ops [⟨some 19, (.mv (.t 3)), none⟩,
 ⟨some 20, (.bin .lss (.t 19) (.c (.int .i64 (0)))), none⟩]
 [] [19])
 (.cond (.t 20)
 (.ops [⟨some 21, .bad, none⟩,
 ⟨none, .bad, none⟩]
 [] [20, 21])
 .skip)))))
 (.ops [⟨some 22, (.bin .add (.t 11) (.c (.int .i64 (1)))), none⟩,
 ⟨some 11, (.mv (.t 22)), none⟩]
 [] [20, 22])))))))
 (.seq
 (.ops [⟨some 23, (.mv (.t 3)), none⟩,
 ⟨some 24, (.call (.f 66) [(.c .nils), (.t 23)]), none⟩,
 ⟨some 6, (.mv (.t 24)), none⟩]
 [] [3, 9, 10, 11, 12, 23, 24])
 (.seq
 (.seq
 (.ops [⟨some 25, (.mv (.t 0)), none⟩,
 ⟨some 26, (.len (.t 25)), none⟩,
 ⟨some 27, (.mv (.c (.int .i64 (0)))), none⟩]
 [] [0])
 (.block 2
 (.loop
 (.seq
 (.ops [⟨some 28, (.bin .lss (.t 27) (.t 26)), none⟩]
 [] [])
 (.seq
 (.cond (.t 28)
 .skip
 (.exit 2))
 (.seq
 (.block 3
 (.seq
 (.ops [⟨some 29, (.iad 1 (.t 25) (.t 27)), none⟩,
 ⟨some 30, (.load false 1 (.t 29)), none⟩,
 ⟨some 8, (.mv (.t 30)), none⟩]
 [] [28, 29, 30])
 (.ops [⟨some 31, (.mv (.t 6)), none⟩,
 ⟨some 32, (.mv (.t 8)), none⟩,
 ⟨some 33, (.app true 4 32 (.t 31) (.t 32)), none⟩,
 ⟨some 6, (.mv (.t 33)), none⟩]
 [] [8, 31, 32, 33])))
 (.ops [⟨some 34, (.bin .add (.t 27) (.c (.int .i64 (1)))), none⟩,
 ⟨some 27, (.mv (.t 34)), none⟩]
 [] [34])))))))
 (.seq
 (.ops [⟨some 35, (.mv (.t 6)), none⟩,
 ⟨some 2, (.mv (.t 35)), none⟩]
 [] [6, 25, 26, 27, 28, 35])
 .ret))))))⟩
def loc40 : List Nat := []
def fg40 : List (Nat × List Nat) := [(15, [6, 25, 26, 27, 28, 35]), (14, [34]), (13, [8, 31, 32, 33]), (12, [28, 29, 30]), (10, [0]), (9, [3, 9, 10, 11, 12, 23, 24]), (8, [20, 22]), (7, [20, 21]), (6, [19]), (5, [5, 15, 16, 17, 18]), (4, [12, 13, 14]), (0, [2])]
theorem comp40 : compFn Try.prog loc40 (fun i => (fg40.lookup i).getD []) Try.f40 = some lit40 := by kernel_rfl

-- parcener/piece.later
def lit42 : AFn := ⟨2, [.cell 4 true 2],
 (.seq
 (.ops [⟨some 2, (.boxL (.t 0)), none⟩,
 ⟨some 3, (.boxL (.t 1)), none⟩,
 ⟨some 4, (.allocL (.agg [(.int .i64 (0)), (.int .i64 (0))])), none⟩]
 [] [0, 1])
 (.seq
 (.seq
 (.ops [⟨some 5, (.load true 2 (.t 2)), none⟩,
 ⟨some 6, (.load true 2 (.t 3)), none⟩,
 ⟨some 7, (.call (.f 45) [(.t 5), (.t 6)]), none⟩,
 ⟨some 8, (.bin .lss (.t 7) (.c (.int .i64 (0)))), none⟩]
 [] [5, 6, 7])
 (.cond (.t 8)
 (.seq
 (.ops [⟨some 9, (.load true 2 (.t 3)), none⟩,
 ⟨none, (.store 2 (.t 4) (.t 9)), none⟩]
 [] [2, 3, 8, 9])
 .ret)
 .skip))
 (.seq
 (.ops [⟨some 10, (.load true 2 (.t 2)), none⟩,
 ⟨none, (.store 2 (.t 4) (.t 10)), none⟩]
 [] [2, 3, 8, 10])
 .ret)))⟩
def loc42 : List Nat := [2, 3, 4]
def fg42 : List (Nat × List Nat) := [(3, [2, 3, 8, 10]), (2, [2, 3, 8, 9]), (1, [5, 6, 7]), (0, [0, 1])]
theorem comp42 : compFn Try.prog loc42 (fun i => (fg42.lookup i).getD []) Try.f42 = some lit42 := by kernel_rfl

-- parcener/piece.sooner
def lit43 : AFn := ⟨2, [.cell 4 true 2],
 (.seq
 (.ops [⟨some 2, (.boxL (.t 0)), none⟩,
 ⟨some 3, (.boxL (.t 1)), none⟩,
 ⟨some 4, (.allocL (.agg [(.int .i64 (0)), (.int .i64 (0))])), none⟩]
 [] [0, 1])
 (.seq
 (.seq
 (.ops [⟨some 5, (.load true 2 (.t 2)), none⟩,
 ⟨some 6, (.load true 2 (.t 3)), none⟩,
 ⟨some 7, (.call (.f 45) [(.t 5), (.t 6)]), none⟩,
 ⟨some 8, (.bin .lss (.t 7) (.c (.int .i64 (0)))), none⟩]
 [] [5, 6, 7])
 (.cond (.t 8)
 (.seq
 (.ops [⟨some 9, (.load true 2 (.t 2)), none⟩,
 ⟨none, (.store 2 (.t 4) (.t 9)), none⟩]
 [] [2, 3, 8, 9])
 .ret)
 .skip))
 (.seq
 (.ops [⟨some 10, (.load true 2 (.t 3)), none⟩,
 ⟨none, (.store 2 (.t 4) (.t 10)), none⟩]
 [] [2, 3, 8, 10])
 .ret)))⟩
def loc43 : List Nat := [2, 3, 4]
def fg43 : List (Nat × List Nat) := [(3, [2, 3, 8, 10]), (2, [2, 3, 8, 9]), (1, [5, 6, 7]), (0, [0, 1])]
theorem comp43 : compFn Try.prog loc43 (fun i => (fg43.lookup i).getD []) Try.f43 = some lit43 := by kernel_rfl

-- parcener/piece.valid
def lit44 : AFn := ⟨1, [.tmp 2],
 (.seq
 (.ops [⟨some 1, (.boxL (.t 0)), none⟩,
 ⟨some 2, (.mv (.c (.bool false))), none⟩]
 [] [0, 2])
 (.seq
 (.ops [⟨some 6, (.fad 0 (.t 1)), none⟩,
 ⟨some 7, (.load true 2 (.t 6)), none⟩,
 ⟨some 8, (.fad 2 (.t 1)), none⟩,
 ⟨some 9, (.load true 2 (.t 8)), none⟩,
 ⟨some 10, (.call (.f 69) [(.t 7), (.t 9)]), none⟩,
 ⟨some 5, (.mv (.t 10)), none⟩,
 ⟨some 11, (.ext (.t 5) 0), none⟩,
 ⟨some 12, (.ext (.t 5) 1), none⟩,
 ⟨some 3, (.mv (.t 11)), none⟩,
 ⟨some 4, (.mv (.t 12)), none⟩]
 [] [1, 5, 6, 7, 8, 9, 10, 11, 12])
 (.seq
 (.ops [⟨some 13, (.mv (.t 4)), none⟩,
 ⟨some 14, (.bin .eql (.t 13) (.c (.int .i64 (0)))), none⟩,
 ⟨some 15, (.mv (.t 14)), none⟩,
 ⟨some 16, (.mv (.t 3)), some (15, true)⟩,
 ⟨some 17, (.bin .lss (.t 16) (.c (.int .i64 (0)))), some (15, true)⟩,
 ⟨some 18, (.pick (.t 15) (.t 17) (.c (.bool false))), none⟩,
 ⟨some 2, (.mv (.t 18)), none⟩]
 [] [3, 4, 13, 14, 15, 16, 17, 18])
 .ret)))⟩
def loc44 : List Nat := [1]
def fg44 : List (Nat × List Nat) := [(2, [3, 4, 13, 14, 15, 16, 17, 18]), (1, [1, 5, 6, 7, 8, 9, 10, 11, 12]), (0, [0, 2])]
theorem comp44 : compFn Try.prog loc44 (fun i => (fg44.lookup i).getD []) Try.f44 = some lit44 := by kernel_rfl

-- parcener/piece.order
def lit45 : AFn := ⟨2, [.tmp 4],
 (.seq
 (.ops [⟨some 2, (.boxL (.t 0)), none⟩,
 ⟨some 3, (.boxL (.t 1)), none⟩,
 ⟨some 4, (.mv (.c (.int .i64 (0)))), none⟩]
 [] [0, 1, 4])
 (.seq
 (.ops [⟨some 8, (.load true 2 (.t 2)), none⟩,
 ⟨some 9, (.load true 2 (.t 3)), none⟩,
 ⟨some 10, (.call (.f 69) [(.t 8), (.t 9)]), none⟩,
 ⟨some 7, (.mv (.t 10)), none⟩,
 ⟨some 11, (.ext (.t 7) 0), none⟩,
 ⟨some 12, (.ext (.t 7) 1), none⟩,
 ⟨some 5, (.mv (.t 11)), none⟩,
 ⟨some 6, (.mv (.t 12)), none⟩]
 [] [2, 3, 6, 7, 8, 9, 10, 11, 12])
 (.seq
 (.ops [⟨some 13, (.mv (.t 5)), none⟩,
 ⟨some 4, (.mv (.t 13)), none⟩]
 [] [5, 13])
 .ret)))⟩
def loc45 : List Nat := [2, 3]
def fg45 : List (Nat × List Nat) := [(2, [5, 13]), (1, [2, 3, 6, 7, 8, 9, 10, 11, 12]), (0, [0, 1, 4])]
theorem comp45 : compFn Try.prog loc45 (fun i => (fg45.lookup i).getD []) Try.f45 = some lit45 := by kernel_rfl

-- parcener/piece.all
def lit46 : AFn := ⟨1, [.tmp 2],
 (.seq
 (.ops [⟨some 2, (.mv (.c (.int .i64 (0)))), none⟩]
 [] [2])
 (.seq
 (.seq
 (.ops [⟨some 5, (.mv (.t 0)), none⟩,
 ⟨some 6, (.len (.t 5)), none⟩,
 ⟨some 7, (.bin .gtr (.t 6) (.c (.int .i64 (60)))), none⟩]
 [] [5, 6])
 (.cond (.t 7)
 (.seq
 (.ops [⟨some 2, (.mv (.c (.int .i64 (4)))), none⟩]
 [] [0, 7])
 .ret)
 .skip))
 (.seq
 (.seq
 (.ops [⟨some 8, (.mv (.t 0)), none⟩,
 ⟨some 9, (.len (.t 8)), none⟩,
 ⟨some 10, (.mv (.c (.int .i64 (0)))), none⟩]
 [] [0, 7])
 (.block 0
 (.loop
 (.seq
 (.ops [⟨some 11, (.bin .lss (.t 10) (.t 9)), none⟩]
 [] [])
 (.seq
 (.cond (.t 11)
 .skip
 (.exit 0))
 (.seq
 (.block 1
 (.seq
 (.ops [⟨some 12, (.iad 4 (.t 8) (.t 10)), none⟩,
 ⟨some 13, (.load true 4 (.t 12)), none⟩,
 ⟨some 4, (.allocL (.agg [(.int .i64 (0)), (.int .i64 (0)), (.int .i64 (0)), (.int .i64 (0))])), none⟩,
 ⟨none, (.store 4 (.t 4) (.t 13)), none⟩]
 [] [11, 12, 13])
 (.seq
 (.ops [⟨some 14, (.load true 4 (.t 4)), none⟩,
 ⟨some 15, (.call (.f 44) [(.t 14)]), none⟩,
 ⟨some 16, (.un .not (.t 15)), none⟩]
 [] [4, 14, 15])
 (.cond (.t 16)
 (.seq
 (.ops [⟨some 2, (.mv (.c (.int .i64 (8)))), none⟩]
 [] [8, 9, 10, 16])
 .ret)
 .skip))))
 (.ops [⟨some 17, (.bin .add (.t 10) (.c (.int .i64 (1)))), none⟩,
 ⟨some 10, (.mv (.t 17)), none⟩]
 [] [16, 17])))))))
 (.seq
 (.ops [⟨some 2, (.mv (.c (.int .i64 (0)))), none⟩]
 [] [8, 9, 10, 11])
 .ret))))⟩
def loc46 : List Nat := [4]
def fg46 : List (Nat × List Nat) := [(9, [8, 9, 10, 11]), (8, [16, 17]), (7, [8, 9, 10, 16]), (6, [4, 14, 15]), (5, [11, 12, 13]), (3, [0, 7]), (2, [0, 7]), (1, [5, 6]), (0, [2])]
theorem comp46 : compFn Try.prog loc46 (fun i => (fg46.lookup i).getD []) Try.f46 = some lit46 := by kernel_rfl

-- parcener/ratio.Check
def lit51 : AFn := ⟨1, [.tmp 2],
 (.seq
 (.ops [⟨some 1, (.boxL (.t 0)), none⟩,
 ⟨some 2, (.mv (.c (.int .i64 (0)))), none⟩]
 [] [0, 2])
 (.seq
 (.seq
 (.ops [⟨some 3, (.fad 1 (.t 1)), none⟩,
 ⟨some 4, (.load false 1 (.t 3)), none⟩,
 ⟨some 5, (.bin .lss (.t 4) (.c (.int .i64 (1)))), none⟩,
 ⟨some 6, (.mv (.t 5)), none⟩,
 ⟨some 7, (.fad 0 (.t 1)), some (6, false)⟩,
 ⟨some 8, (.load false 1 (.t 7)), some (6, false)⟩,
 ⟨some 9, (.call (.f 70) [(.t 8)]), some (6, false)⟩,
 ⟨some 10, (.fad 1 (.t 1)), some (6, false)⟩,
 ⟨some 11, (.load false 1 (.t 10)), some (6, false)⟩,
 ⟨some 12, (.conv .u64 (.t 11)), some (6, false)⟩,
 ⟨some 13, (.minmax true [(.t 9), (.t 12)]), some (6, false)⟩,
 ⟨some 14, (.bin .gtr (.t 13) (.c (.int .u64 (1000000000000000000)))), some (6, false)⟩,
 ⟨some 15, (.pick (.t 6) (.c (.bool true)) (.t 14)), none⟩,
 ⟨some 16, (.mv (.t 15)), none⟩,
 ⟨some 17, (.fad 0 (.t 1)), some (16, false)⟩,
 ⟨some 18, (.load false 1 (.t 17)), some (16, false)⟩,
 ⟨some 19, (.call (.f 70) [(.t 18)]), some (16, false)⟩,
 ⟨some 20, (.fad 1 (.t 1)), some (16, false)⟩,
 ⟨some 21, (.load false 1 (.t 20)), some (16, false)⟩,
 ⟨some 22, (.conv .u64 (.t 21)), some (16, false)⟩,
 ⟨some 23, (.call (.f 71) [(.t 19), (.t 22)]), some (16, false)⟩,
 ⟨some 24, (.bin .gtr (.t 23) (.c (.int .u64 (1)))), some (16, false)⟩,
 ⟨some 25, (.pick (.t 16) (.c (.bool true)) (.t 24)), none⟩]
 [(4, 7), (5, 7), (6, 7), (4, 8), (5, 8), (6, 8), (4, 9), (5, 9), (6, 9), (14, 17), (15, 17), (16, 17), (14, 18), (15, 18), (16, 18), (14, 19), (15, 19), (16, 19)] [1, 3, 4, 5, 6, 7, 8, 9, 10, 11, 12, 13, 14, 15, 16, 17, 18, 19, 20, 21, 22, 23, 24])
 (.cond (.t 25)
 (.seq
 (.ops [⟨some 2, (.mv (.c (.int .i64 (8)))), none⟩]
 [] [25])
 .ret)
 .skip))
 (.seq
 (.ops [⟨some 2, (.mv (.c (.int .i64 (0)))), none⟩]
 [] [25])
 .ret)))⟩
def loc51 : List Nat := [1]
def fg51 : List (Nat × List Nat) := [(3, [25]), (2, [25]), (1, [1, 3, 4, 5, 6, 7, 8, 9, 10, 11, 12, 13, 14, 15, 16, 17, 18, 19, 20, 21, 22, 23, 24]), (0, [0, 2])]
theorem comp51 : compFn Try.prog loc51 (fun i => (fg51.lookup i).getD []) Try.f51 = some lit51 := by kernel_rfl

-- slices.ContainsFunc[[]parcener/api.Span,parcener/api.Span]
def lit52 : AFn := ⟨2, [.tmp 4],
 (.seq
 (.ops [⟨some 4, (.mv (.c (.bool false))), none⟩]
 [] [4])
 (.seq
 (.ops [⟨some 5, (.mv (.t 0)), none⟩,
 ⟨some 6, (.mv (.t 1)), none⟩,
 ⟨some 7, (.call (.f 72) [(.t 5), (.t 6)]), none⟩,
 ⟨some 8, (.bin .geq (.t 7) (.c (.int .i64 (0)))), none⟩,
 ⟨some 4, (.mv (.t 8)), none⟩]
 [] [0, 1, 5, 6, 7, 8])
 .ret))⟩
def loc52 : List Nat := []
def fg52 : List (Nat × List Nat) := [(1, [0, 1, 5, 6, 7, 8]), (0, [4])]
theorem comp52 : compFn Try.prog loc52 (fun i => (fg52.lookup i).getD []) Try.f52 = some lit52 := by kernel_rfl

-- parcener/piece.Has$1
def lit53 : AFn := ⟨2, [.tmp 3],
 (.seq
 (.ops [⟨some 2, (.boxL (.t 0)), none⟩,
 ⟨some 3, (.mv (.c (.bool false))), none⟩]
 [] [0, 3])
 (.seq
 (.ops [⟨some 4, (.fad 0 (.t 2)), none⟩,
 ⟨some 5, (.load true 2 (.t 4)), none⟩,
 ⟨some 6, (.load true 2 (.t 1)), none⟩,
 ⟨some 7, (.call (.f 45) [(.t 5), (.t 6)]), none⟩,
 ⟨some 8, (.bin .leq (.t 7) (.c (.int .i64 (0)))), none⟩,
 ⟨some 9, (.mv (.t 8)), none⟩,
 ⟨some 10, (.load true 2 (.t 1)), some (9, true)⟩,
 ⟨some 11, (.fad 2 (.t 2)), some (9, true)⟩,
 ⟨some 12, (.load true 2 (.t 11)), some (9, true)⟩,
 ⟨some 13, (.call (.f 45) [(.t 10), (.t 12)]), some (9, true)⟩,
 ⟨some 14, (.bin .lss (.t 13) (.c (.int .i64 (0)))), some (9, true)⟩,
 ⟨some 15, (.pick (.t 9) (.t 14) (.c (.bool false))), none⟩,
 ⟨some 3, (.mv (.t 15)), none⟩]
 [] [1, 2, 4, 5, 6, 7, 8, 9, 10, 11, 12, 13, 14, 15])
 .ret))⟩
def loc53 : List Nat := [2]
def fg53 : List (Nat × List Nat) := [(1, [1, 2, 4, 5, 6, 7, 8, 9, 10, 11, 12, 13, 14, 15]), (0, [0, 3])]
theorem comp53 : compFn Try.prog loc53 (fun i => (fg53.lookup i).getD []) Try.f53 = some lit53 := by kernel_rfl

-- parcener/cake.Check
def lit55 : AFn := ⟨1, [.tmp 2],
 (.seq
 (.ops [⟨some 1, (.boxL (.t 0)), none⟩,
 ⟨some 2, (.mv (.c (.int .i64 (0)))), none⟩]
 [] [0, 2])
 (.seq
 (.ops [⟨some 5, (.fad 1 (.t 1)), none⟩,
 ⟨some 6, (.load false 1 (.t 5)), none⟩,
 ⟨some 7, (.len (.t 6)), none⟩,
 ⟨some 3, (.mv (.t 7)), none⟩]
 [] [5, 6, 7])
 (.seq
 (.seq
 (.ops [⟨some 8, (.fad 0 (.t 1)), none⟩,
 ⟨some 9, (.load false 1 (.t 8)), none⟩,
 ⟨some 10, (.bin .gtr (.t 9) (.c (.int .i64 (1000)))), none⟩,
 ⟨some 11, (.mv (.t 10)), none⟩,
 ⟨some 12, (.mv (.t 3)), some (11, false)⟩,
 ⟨some 13, (.bin .gtr (.t 12) (.c (.int .i64 (40)))), some (11, false)⟩,
 ⟨some 14, (.pick (.t 11) (.c (.bool true)) (.t 13)), none⟩]
 [] [8, 9, 10, 11, 12, 13])
 (.cond (.t 14)
 (.seq
 (.ops [⟨some 2, (.mv (.c (.int .i64 (4)))), none⟩]
 [] [1, 3, 14])
 .ret)
 .skip))
 (.seq
 (.seq
 (.ops [⟨some 15, (.fad 0 (.t 1)), none⟩,
 ⟨some 16, (.load false 1 (.t 15)), none⟩,
 ⟨some 17, (.bin .lss (.t 16) (.c (.int .i64 (1)))), none⟩,
 ⟨some 18, (.mv (.t 17)), none⟩,
 ⟨some 19, (.mv (.t 3)), some (18, false)⟩,
 ⟨some 20, (.bin .lss (.t 19) (.c (.int .i64 (2)))), some (18, false)⟩,
 ⟨some 21, (.pick (.t 18) (.c (.bool true)) (.t 20)), none⟩,
 ⟨some 22, (.mv (.t 21)), none⟩,
 ⟨some 23, (.fad 2 (.t 1)), some (22, false)⟩,
 ⟨some 24, (.load false 1 (.t 23)), some (22, false)⟩,
 ⟨some 25, (.len (.t 24)), some (22, false)⟩,
 ⟨some 26, (.mv (.t 3)), some (22, false)⟩,
 ⟨some 27, (.bin .sub (.t 26) (.c (.int .i64 (1)))), some (22, false)⟩,
 ⟨some 28, (.bin .neq (.t 25) (.t 27)), some (22, false)⟩,
 ⟨some 29, (.pick (.t 22) (.c (.bool true)) (.t 28)), none⟩,
 ⟨some 30, (.mv (.t 29)), none⟩,
 ⟨some 31, (.fad 1 (.t 1)), some (30, false)⟩,
 ⟨some 32, (.load false 1 (.t 31)), some (30, false)⟩,
 ⟨some 33, (.iad 1 (.t 32) (.c (.int .i64 (0)))), some (30, false)⟩,
 ⟨some 34, (.load false 1 (.t 33)), some (30, false)⟩,
 ⟨some 35, (.bin .neq (.t 34) (.c (.int .i64 (0)))), some (30, false)⟩,
 ⟨some 36, (.pick (.t 30) (.c (.bool true)) (.t 35)), none⟩,
 ⟨some 37, (.mv (.t 36)), none⟩,
 ⟨some 38, (.fad 1 (.t 1)), some (37, false)⟩,
 ⟨some 39, (.load false 1 (.t 38)), some (37, false)⟩,
 ⟨some 40, (.mv (.t 3)), some (37, false)⟩,
 ⟨some 41, (.bin .sub (.t 40) (.c (.int .i64 (1)))), some (37, false)⟩,
 ⟨some 42, (.iad 1 (.t 39) (.t 41)), some (37, false)⟩,
 ⟨some 43, (.load false 1 (.t 42)), some (37, false)⟩,
 ⟨some 44, (.fad 0 (.t 1)), some (37, false)⟩,
 ⟨some 45, (.load false 1 (.t 44)), some (37, false)⟩,
 ⟨some 46, (.bin .neq (.t 43) (.t 45)), some (37, false)⟩,
 ⟨some 47, (.pick (.t 37) (.c (.bool true)) (.t 46)), none⟩]
 [(8, 11), (9, 11), (10, 11), (8, 12), (9, 12), (10, 12), (23, 25), (24, 25), (23, 26), (24, 26), (23, 29), (24, 29), (25, 29), (26, 29), (27, 29), (28, 29), (23, 30), (24, 30), (25, 30), (26, 30), (27, 30), (28, 30)] [14, 15, 16, 17, 18, 19, 20, 21, 22, 23, 24, 25, 26, 27, 28, 29, 30, 31, 32, 33, 34, 35, 36, 37, 38, 39, 40, 41, 42, 43, 44, 45, 46])
 (.cond (.t 47)
 (.seq
 (.ops [⟨some 2, (.mv (.c (.int .i64 (8)))), none⟩]
 [] [1, 3, 47])
 .ret)
 .skip))
 (.seq
 (.seq
 (.ops [⟨some 48, (.mv (.t 3)), none⟩,
 ⟨some 49, (.bin .sub (.t 48) (.c (.int .i64 (1)))), none⟩,
 ⟨some 50, (.mv (.c (.int .i64 (0)))), none⟩]
 [] [3, 47, 48])
 (.block 0
 (.loop
 (.seq
 (.ops [⟨some 51, (.bin .lss (.t 50) (.t 49)), none⟩]
 [] [])
 (.seq
 (.cond (.t 51)
 .skip
 (.exit 0))
 (.seq
 (.block 1
 (.seq
 (.ops [⟨some 52, (.mv (.t 50)), none⟩,
 ⟨some 4, (.mv (.t 52)), none⟩]
 [] [51, 52])
 (.seq
 (.ops [⟨some 53, (.fad 1 (.t 1)), none⟩,
 ⟨some 54, (.load false 1 (.t 53)), none⟩,
 ⟨some 55, (.mv (.t 4)), none⟩,
 ⟨some 56, (.iad 1 (.t 54) (.t 55)), none⟩,
 ⟨some 57, (.load false 1 (.t 56)), none⟩,
 ⟨some 58, (.fad 1 (.t 1)), none⟩,
 ⟨some 59, (.load false 1 (.t 58)), none⟩,
 ⟨some 60, (.mv (.t 4)), none⟩,
 ⟨some 61, (.bin .add (.t 60) (.c (.int .i64 (1)))), none⟩,
 ⟨some 62, (.iad 1 (.t 59) (.t 61)), none⟩,
 ⟨some 63, (.load false 1 (.t 62)), none⟩,
 ⟨some 64, (.bin .geq (.t 57) (.t 63)), none⟩]
 [(0, 2), (1, 2), (0, 5), (1, 5), (2, 5), (3, 5), (4, 5), (0, 6), (1, 6), (2, 6), (3, 6), (4, 6), (0, 7), (1, 7), (2, 7), (3, 7), (4, 7), (5, 7), (6, 7), (0, 8), (1, 8), (2, 8), (3, 8), (4, 8), (5, 8), (6, 8), (0, 9), (1, 9), (2, 9), (3, 9), (4, 9), (0, 10), (1, 10), (2, 10), (3, 10), (4, 10)] [4, 53, 54, 55, 56, 57, 58, 59, 60, 61, 62, 63])
 (.cond (.t 64)
 (.seq
 (.ops [⟨some 2, (.mv (.c (.int .i64 (8)))), none⟩]
 [] [1, 49, 50, 64])
 .ret)
 .skip))))
 (.ops [⟨some 65, (.bin .add (.t 50) (.c (.int .i64 (1)))), none⟩,
 ⟨some 50, (.mv (.t 65)), none⟩]
 [] [64, 65])))))))
 (.seq
 (.seq
 (.ops [⟨some 66, (.fad 2 (.t 1)), none⟩,
 ⟨some 67, (.load false 1 (.t 66)), none⟩,
 ⟨some 68, (.call (.f 73) [(.t 67)]), none⟩,
 ⟨some 69, (.bin .lss (.t 68) (.c (.int .i64 (0)))), none⟩,
 ⟨some 70, (.mv (.t 69)), none⟩,
 ⟨some 71, (.fad 2 (.t 1)), some (70, false)⟩,
 ⟨some 72, (.load false 1 (.t 71)), some (70, false)⟩,
 ⟨some 73, (.call (.f 74) [(.t 72)]), some (70, false)⟩,
 ⟨some 74, (.bin .gtr (.t 73) (.c (.int .i64 (12)))), some (70, false)⟩,
 ⟨some 75, (.pick (.t 70) (.c (.bool true)) (.t 74)), none⟩,
 ⟨some 76, (.mv (.t 75)), none⟩,
 ⟨some 77, (.fad 2 (.t 1)), some (76, false)⟩,
 ⟨some 78, (.load false 1 (.t 77)), some (76, false)⟩,
 ⟨some 79, (.call (.f 74) [(.t 78)]), some (76, false)⟩,
 ⟨some 80, (.bin .eql (.t 79) (.c (.int .i64 (0)))), some (76, false)⟩,
 ⟨some 81, (.pick (.t 76) (.c (.bool true)) (.t 80)), none⟩]
 [] [1, 49, 50, 51, 66, 67, 68, 69, 70, 71, 72, 73, 74, 75, 76, 77, 78, 79, 80])
 (.cond (.t 81)
 (.seq
 (.ops [⟨some 2, (.mv (.c (.int .i64 (8)))), none⟩]
 [] [81])
 .ret)
 .skip))
 (.seq
 (.ops [⟨some 2, (.mv (.c (.int .i64 (0)))), none⟩]
 [] [81])
 .ret)))))))⟩
def loc55 : List Nat := [1]
def fg55 : List (Nat × List Nat) := [(14, [81]), (13, [81]), (12, [1, 49, 50, 51, 66, 67, 68, 69, 70, 71, 72, 73, 74, 75, 76, 77, 78, 79, 80]), (11, [64, 65]), (10, [1, 49, 50, 64]), (9, [4, 53, 54, 55, 56, 57, 58, 59, 60, 61, 62, 63]), (8, [51, 52]), (6, [3, 47, 48]), (5, [1, 3, 47]), (4, [14, 15, 16, 17, 18, 19, 20, 21, 22, 23, 24, 25, 26, 27, 28, 29, 30, 31, 32, 33, 34, 35, 36, 37, 38, 39, 40, 41, 42, 43, 44, 45, 46]), (3, [1, 3, 14]), (2, [8, 9, 10, 11, 12, 13]), (1, [5, 6, 7]), (0, [0, 2])]
theorem comp55 : compFn Try.prog loc55 (fun i => (fg55.lookup i).getD []) Try.f55 = some lit55 := by kernel_rfl

-- parcener/piece.sum
def lit56 : AFn := ⟨2, [.cell 4 true 2, .tmp 5],
 (.seq
 (.ops [⟨some 4, (.allocL (.agg [(.int .i64 (0)), (.int .i64 (0))])), none⟩,
 ⟨some 5, (.mv (.c (.int .i64 (0)))), none⟩]
 [] [5])
 (.seq
 (.ops [⟨some 11, (.build [(.int .i64 (0)), (.int .i64 (0))] [(1, 1, (.c (.int .i64 (1))))]), none⟩,
 ⟨some 6, (.allocL (.agg [(.int .i64 (0)), (.int .i64 (0))])), none⟩,
 ⟨none, (.store 2 (.t 6) (.t 11)), none⟩]
 [] [11])
 (.seq
 (.seq
 (.ops [⟨some 12, (.mv (.t 0)), none⟩,
 ⟨some 13, (.len (.t 12)), none⟩,
 ⟨some 14, (.mv (.c (.int .i64 (0)))), none⟩]
 [] [0])
 (.block 0
 (.loop
 (.seq
 (.ops [⟨some 15, (.bin .lss (.t 14) (.t 13)), none⟩]
 [] [])
 (.seq
 (.cond (.t 15)
 .skip
 (.exit 0))
 (.seq
 (.block 1
 (.seq
 (.ops [⟨some 16, (.iad 4 (.t 12) (.t 14)), none⟩,
 ⟨some 17, (.load true 4 (.t 16)), none⟩,
 ⟨some 8, (.allocL (.agg [(.int .i64 (0)), (.int .i64 (0)), (.int .i64 (0)), (.int .i64 (0))])), none⟩,
 ⟨none, (.store 4 (.t 8) (.t 17)), none⟩]
 [] [15, 16, 17])
 (.seq
 (.ops [⟨some 19, (.mv (.t 1)), none⟩,
 ⟨some 20, (.load true 4 (.t 8)), none⟩,
 ⟨some 21, (.call (.t 19) [(.t 20)]), none⟩,
 ⟨some 18, (.mv (.t 21)), none⟩,
 ⟨some 22, (.ext (.t 18) 0), none⟩,
 ⟨some 23, (.ext (.t 18) 1), none⟩,
 ⟨some 9, (.allocL (.agg [(.int .i64 (0)), (.int .i64 (0))])), none⟩,
 ⟨none, (.store 2 (.t 9) (.t 22)), none⟩,
 ⟨some 10, (.mv (.t 23)), none⟩]
 [] [8, 18, 19, 20, 21, 22, 23])
 (.seq
 (.seq
 (.ops [⟨some 24, (.mv (.t 10)), none⟩,
 ⟨some 25, (.bin .neq (.t 24) (.c (.int .i64 (0)))), none⟩]
 [] [24])
 (.cond (.t 25)
 (.seq
 (.ops [⟨some 26, (.build [(.int .i64 (0)), (.int .i64 (0))] []), none⟩,
 ⟨some 27, (.mv (.t 10)), none⟩,
 ⟨none, (.store 2 (.t 4) (.t 26)), none⟩,
 ⟨some 5, (.mv (.t 27)), none⟩]
 [] [1, 6, 9, 10, 12, 13, 14, 25, 26, 27])
 .ret)
 .skip))
 (.seq
 (.ops [⟨some 29, (.load true 2 (.t 6)), none⟩,
 ⟨some 30, (.load true 2 (.t 9)), none⟩,
 ⟨some 31, (.call (.f 61) [(.t 29), (.t 30)]), none⟩,
 ⟨some 28, (.mv (.t 31)), none⟩,
 ⟨some 32, (.ext (.t 28) 0), none⟩,
 ⟨some 33, (.ext (.t 28) 1), none⟩,
 ⟨none, (.store 2 (.t 6) (.t 32)), none⟩,
 ⟨some 10, (.mv (.t 33)), none⟩]
 [] [9, 25, 28, 29, 30, 31, 32, 33])
 (.seq
 (.ops [⟨some 34, (.mv (.t 10)), none⟩,
 ⟨some 35, (.bin .neq (.t 34) (.c (.int .i64 (0)))), none⟩]
 [] [34])
 (.cond (.t 35)
 (.seq
 (.ops [⟨some 36, (.build [(.int .i64 (0)), (.int .i64 (0))] []), none⟩,
 ⟨some 37, (.mv (.t 10)), none⟩,
 ⟨none, (.store 2 (.t 4) (.t 36)), none⟩,
 ⟨some 5, (.mv (.t 37)), none⟩]
 [] [1, 6, 10, 12, 13, 14, 35, 36, 37])
 .ret)
 .skip)))))))
 (.ops [⟨some 38, (.bin .add (.t 14) (.c (.int .i64 (1)))), none⟩,
 ⟨some 14, (.mv (.t 38)), none⟩]
 [] [10, 35, 38])))))))
 (.seq
 (.ops [⟨some 39, (.load true 2 (.t 6)), none⟩,
 ⟨none, (.store 2 (.t 4) (.t 39)), none⟩,
 ⟨some 5, (.mv (.c (.int .i64 (0)))), none⟩]
 [] [1, 6, 12, 13, 14, 15, 39])
 .ret))))⟩
def loc56 : List Nat := [4, 6, 8, 9]
def fg56 : List (Nat × List Nat) := [(12, [1, 6, 12, 13, 14, 15, 39]), (11, [10, 35, 38]), (10, [1, 6, 10, 12, 13, 14, 35, 36, 37]), (9, [34]), (8, [9, 25, 28, 29, 30, 31, 32, 33]), (7, [1, 6, 9, 10, 12, 13, 14, 25, 26, 27]), (6, [24]), (5, [8, 18, 19, 20, 21, 22, 23]), (4, [15, 16, 17]), (2, [0]), (1, [11]), (0, [5])]
theorem comp56 : compFn Try.prog loc56 (fun i => (fg56.lookup i).getD []) Try.f56 = some lit56 := by kernel_rfl

-- parcener/piece.Worth$1
def lit57 : AFn := ⟨2, [.cell 3 true 2, .tmp 4],
 (.seq
 (.ops [⟨some 2, (.boxL (.t 0)), none⟩,
 ⟨some 3, (.allocL (.agg [(.int .i64 (0)), (.int .i64 (0))])), none⟩,
 ⟨some 4, (.mv (.c (.int .i64 (0)))), none⟩]
 [] [0, 4])
 (.seq
 (.ops [⟨some 5, (.load true 3 (.t 1)), none⟩,
 ⟨some 6, (.fad 0 (.t 2)), none⟩,
 ⟨some 7, (.load true 2 (.t 6)), none⟩,
 ⟨some 8, (.fad 2 (.t 2)), none⟩,
 ⟨some 9, (.load true 2 (.t 8)), none⟩,
 ⟨some 10, (.call (.f 58) [(.t 5), (.t 7), (.t 9)]), none⟩,
 ⟨some 11, (.ext (.t 10) 0), none⟩,
 ⟨some 12, (.ext (.t 10) 1), none⟩,
 ⟨none, (.store 2 (.t 3) (.t 11)), none⟩,
 ⟨some 4, (.mv (.t 12)), none⟩]
 [] [1, 2, 5, 6, 7, 8, 9, 10, 11, 12])
 .ret))⟩
def loc57 : List Nat := [2, 3]
def fg57 : List (Nat × List Nat) := [(1, [1, 2, 5, 6, 7, 8, 9, 10, 11, 12]), (0, [0, 4])]
theorem comp57 : compFn Try.prog loc57 (fun i => (fg57.lookup i).getD []) Try.f57 = some lit57 := by kernel_rfl

-- parcener/cake.Value
def lit58 : AFn := ⟨3, [.cell 6 true 2, .tmp 7],
 (.seq
 (.ops [⟨some 3, (.boxL (.t 0)), none⟩,
 ⟨some 4, (.boxL (.t 1)), none⟩,
 ⟨some 5, (.boxL (.t 2)), none⟩,
 ⟨some 6, (.allocL (.agg [(.int .i64 (0)), (.int .i64 (0))])), none⟩,
 ⟨some 7, (.mv (.c (.int .i64 (0)))), none⟩]
 [] [0, 1, 2, 7])
 (.seq
 (.seq
 (.ops [⟨some 17, (.load true 3 (.t 3)), none⟩,
 ⟨some 18, (.call (.f 55) [(.t 17)]), none⟩,
 ⟨some 8, (.mv (.t 18)), none⟩]
 [] [17, 18])
 (.seq
 (.ops [⟨some 19, (.mv (.t 8)), none⟩,
 ⟨some 20, (.bin .neq (.t 19) (.c (.int .i64 (0)))), none⟩]
 [] [19])
 (.cond (.t 20)
 (.seq
 (.ops [⟨some 21, (.build [(.int .i64 (0)), (.int .i64 (0))] []), none⟩,
 ⟨some 22, (.mv (.t 8)), none⟩,
 ⟨none, (.store 2 (.t 6) (.t 21)), none⟩,
 ⟨some 7, (.mv (.t 22)), none⟩]
 [] [3, 4, 5, 8, 20, 21, 22])
 .ret)
 .skip)))
 (.seq
 (.seq
 (.ops [⟨some 23, (.load true 3 (.t 3)), none⟩,
 ⟨some 24, (.load true 2 (.t 4)), none⟩,
 ⟨some 25, (.call (.f 75) [(.t 23), (.t 24)]), none⟩,
 ⟨some 26, (.un .not (.t 25)), none⟩,
 ⟨some 27, (.mv (.t 26)), none⟩,
 ⟨some 28, (.load true 3 (.t 3)), some (27, false)⟩,
 ⟨some 29, (.load true 2 (.t 5)), some (27, false)⟩,
 ⟨some 30, (.call (.f 75) [(.t 28), (.t 29)]), some (27, false)⟩,
 ⟨some 31, (.un .not (.t 30)), some (27, false)⟩,
 ⟨some 32, (.pick (.t 27) (.c (.bool true)) (.t 31)), none⟩,
 ⟨some 33, (.mv (.t 32)), none⟩,
 ⟨some 34, (.load true 2 (.t 5)), some (33, false)⟩,
 ⟨some 35, (.load true 2 (.t 4)), some (33, false)⟩,
 ⟨some 36, (.call (.f 76) [(.t 34), (.t 35)]), some (33, false)⟩,
 ⟨some 37, (.pick (.t 33) (.c (.bool true)) (.t 36)), none⟩]
 [] [8, 20, 23, 24, 25, 26, 27, 28, 29, 30, 31, 32, 33, 34, 35, 36])
 (.cond (.t 37)
 (.seq
 (.ops [⟨some 38, (.build [(.int .i64 (0)), (.int .i64 (0))] []), none⟩,
 ⟨none, (.store 2 (.t 6) (.t 38)), none⟩,
 ⟨some 7, (.mv (.c (.int .i64 (2)))), none⟩]
 [] [3, 4, 5, 37, 38])
 .ret)
 .skip))
 (.seq
 (.ops [⟨some 39, (.call (.f 77) [(.c (.int .i64 (0)))]), none⟩,
 ⟨some 9, (.allocL (.agg [(.int .i64 (0)), (.int .i64 (0))])), none⟩,
 ⟨none, (.store 2 (.t 9) (.t 39)), none⟩]
 [] [37, 39])
 (.seq
 (.ops [⟨some 40, (.load true 2 (.t 4)), none⟩,
 ⟨some 10, (.allocL (.agg [(.int .i64 (0)), (.int .i64 (0))])), none⟩,
 ⟨none, (.store 2 (.t 10) (.t 40)), none⟩]
 [] [4, 40])
 (.seq
 (.seq
 (.ops [⟨some 41, (.fad 2 (.t 3)), none⟩,
 ⟨some 42, (.load false 1 (.t 41)), none⟩,
 ⟨some 43, (.len (.t 42)), none⟩,
 ⟨some 44, (.mv (.c (.int .i64 (0)))), none⟩]
 [] [41])
 (.block 0
 (.loop
 (.seq
 (.ops [⟨some 45, (.bin .lss (.t 44) (.t 43)), none⟩]
 [] [])
 (.seq
 (.cond (.t 45)
 .skip
 (.exit 0))
 (.seq
 (.block 1
 (.seq
 (.ops [⟨some 46, (.mv (.t 44)), none⟩,
 ⟨some 47, (.iad 1 (.t 42) (.t 44)), none⟩,
 ⟨some 48, (.load false 1 (.t 47)), none⟩,
 ⟨some 11, (.mv (.t 46)), none⟩,
 ⟨some 12, (.mv (.t 48)), none⟩]
 [] [45, 46, 47, 48])
 (.seq
 (.ops [⟨some 49, (.fad 1 (.t 3)), none⟩,
 ⟨some 50, (.load false 1 (.t 49)), none⟩,
 ⟨some 51, (.mv (.t 11)), none⟩,
 ⟨some 52, (.bin .add (.t 51) (.c (.int .i64 (1)))), none⟩,
 ⟨some 53, (.iad 1 (.t 50) (.t 52)), none⟩,
 ⟨some 54, (.load false 1 (.t 53)), none⟩,
 ⟨some 55, (.call (.f 77) [(.t 54)]), none⟩,
 ⟨some 13, (.allocL (.agg [(.int .i64 (0)), (.int .i64 (0))])), none⟩,
 ⟨none, (.store 2 (.t 13) (.t 55)), none⟩]
 [] [11, 49, 50, 51, 52, 53, 54, 55])
 (.seq
 (.seq
 (.ops [⟨some 56, (.load true 2 (.t 5)), none⟩,
 ⟨some 57, (.load true 2 (.t 13)), none⟩,
 ⟨some 58, (.call (.f 76) [(.t 56), (.t 57)]), none⟩]
 [] [56, 57])
 (.cond (.t 58)
 (.ops [⟨some 59, (.load true 2 (.t 5)), none⟩,
 ⟨none, (.store 2 (.t 13) (.t 59)), none⟩]
 [] [58, 59])
 .skip))
 (.seq
 (.seq
 (.ops [⟨some 60, (.mv (.t 12)), none⟩,
 ⟨some 61, (.bin .eql (.t 60) (.c (.int .i64 (0)))), none⟩,
 ⟨some 62, (.mv (.t 61)), none⟩,
 ⟨some 63, (.load true 2 (.t 10)), some (62, false)⟩,
 ⟨some 64, (.load true 2 (.t 13)), some (62, false)⟩,
 ⟨some 65, (.call (.f 76) [(.t 63), (.t 64)]), some (62, false)⟩,
 ⟨some 66, (.un .not (.t 65)), some (62, false)⟩,
 ⟨some 67, (.pick (.t 62) (.c (.bool true)) (.t 66)), none⟩]
 [] [58, 60, 61, 62, 63, 64, 65, 66])
 (.cond (.t 67)
 (.seq
 (.seq
 (.ops [⟨some 68, (.load true 2 (.t 10)), none⟩,
 ⟨some 69, (.load true 2 (.t 13)), none⟩,
 ⟨some 70, (.call (.f 76) [(.t 68), (.t 69)]), none⟩]
 [] [12, 67, 68, 69])
 (.cond (.t 70)
 (.ops [⟨some 71, (.load true 2 (.t 13)), none⟩,
 ⟨none, (.store 2 (.t 10) (.t 71)), none⟩]
 [] [13, 70, 71])
 .skip))
 (.exit 1))
 .skip))
 (.seq
 (.ops [⟨some 73, (.load true 2 (.t 13)), none⟩,
 ⟨some 74, (.load true 2 (.t 10)), none⟩,
 ⟨some 75, (.call (.f 60) [(.t 73), (.t 74)]), none⟩,
 ⟨some 72, (.mv (.t 75)), none⟩,
 ⟨some 76, (.ext (.t 72) 0), none⟩,
 ⟨some 77, (.ext (.t 72) 1), none⟩,
 ⟨some 14, (.allocL (.agg [(.int .i64 (0)), (.int .i64 (0))])), none⟩,
 ⟨none, (.store 2 (.t 14) (.t 76)), none⟩,
 ⟨some 15, (.mv (.t 77)), none⟩]
 [] [67, 72, 73, 74, 75, 76, 77])
 (.seq
 (.seq
 (.ops [⟨some 78, (.mv (.t 15)), none⟩,
 ⟨some 79, (.bin .neq (.t 78) (.c (.int .i64 (0)))), none⟩]
 [] [78])
 (.cond (.t 79)
 (.seq
 (.ops [⟨some 80, (.build [(.int .i64 (0)), (.int .i64 (0))] []), none⟩,
 ⟨some 81, (.mv (.t 15)), none⟩,
 ⟨none, (.store 2 (.t 6) (.t 80)), none⟩,
 ⟨some 7, (.mv (.t 81)), none⟩]
 [] [3, 5, 9, 10, 12, 13, 14, 15, 42, 43, 44, 79, 80, 81])
 .ret)
 .skip))
 (.seq
 (.ops [⟨some 83, (.load true 2 (.t 14)), none⟩,
 ⟨some 84, (.mv (.t 12)), none⟩,
 ⟨some 85, (.call (.f 77) [(.t 84)]), none⟩,
 ⟨some 86, (.call (.f 78) [(.t 83), (.t 85)]), none⟩,
 ⟨some 82, (.mv (.t 86)), none⟩,
 ⟨some 87, (.ext (.t 82) 0), none⟩,
 ⟨some 88, (.ext (.t 82) 1), none⟩,
 ⟨some 16, (.allocL (.agg [(.int .i64 (0)), (.int .i64 (0))])), none⟩,
 ⟨none, (.store 2 (.t 16) (.t 87)), none⟩,
 ⟨some 15, (.mv (.t 88)), none⟩]
 [(0, 1), (0, 2), (5, 6), (0, 7), (1, 7), (2, 7), (3, 7), (4, 7), (5, 7), (6, 7), (6, 8)] [12, 14, 79, 82, 83, 84, 85, 86, 87, 88])
 (.seq
 (.seq
 (.ops [⟨some 89, (.mv (.t 15)), none⟩,
 ⟨some 90, (.bin .neq (.t 89) (.c (.int .i64 (0)))), none⟩]
 [] [89])
 (.cond (.t 90)
 (.seq
 (.ops [⟨some 91, (.build [(.int .i64 (0)), (.int .i64 (0))] []), none⟩,
 ⟨some 92, (.mv (.t 15)), none⟩,
 ⟨none, (.store 2 (.t 6) (.t 91)), none⟩,
 ⟨some 7, (.mv (.t 92)), none⟩]
 [] [3, 5, 9, 10, 13, 15, 16, 42, 43, 44, 90, 91, 92])
 .ret)
 .skip))
 (.seq
 (.seq
 (.ops [⟨some 94, (.load true 2 (.t 9)), none⟩,
 ⟨some 95, (.load true 2 (.t 16)), none⟩,
 ⟨some 96, (.call (.f 61) [(.t 94), (.t 95)]), none⟩,
 ⟨some 93, (.mv (.t 96)), none⟩,
 ⟨some 97, (.ext (.t 93) 0), none⟩,
 ⟨some 98, (.ext (.t 93) 1), none⟩,
 ⟨none, (.store 2 (.t 9) (.t 97)), none⟩,
 ⟨some 15, (.mv (.t 98)), none⟩]
 [] [16, 90, 93, 94, 95, 96, 97, 98])
 (.seq
 (.ops [⟨some 99, (.mv (.t 15)), none⟩,
 ⟨some 100, (.bin .neq (.t 99) (.c (.int .i64 (0)))), none⟩]
 [] [99])
 (.cond (.t 100)
 (.seq
 (.ops [⟨some 101, (.build [(.int .i64 (0)), (.int .i64 (0))] []), none⟩,
 ⟨some 102, (.mv (.t 15)), none⟩,
 ⟨none, (.store 2 (.t 6) (.t 101)), none⟩,
 ⟨some 7, (.mv (.t 102)), none⟩]
 [] [3, 5, 9, 10, 13, 15, 42, 43, 44, 100, 101, 102])
 .ret)
 .skip)))
 (.ops [⟨some 103, (.load true 2 (.t 13)), none⟩,
 ⟨none, (.store 2 (.t 10) (.t 103)), none⟩]
 [] [13, 15, 100, 103])))))))))))
 (.ops [⟨some 104, (.bin .add (.t 44) (.c (.int .i64 (1)))), none⟩,
 ⟨some 44, (.mv (.t 104)), none⟩]
 [] [13, 70, 104])))))))
 (.seq
 (.ops [⟨some 105, (.load true 2 (.t 9)), none⟩,
 ⟨none, (.store 2 (.t 6) (.t 105)), none⟩,
 ⟨some 7, (.mv (.c (.int .i64 (0)))), none⟩]
 [] [3, 5, 9, 10, 42, 43, 44, 45, 105])
 .ret)))))))⟩
def loc58 : List Nat := [3, 4, 5, 6, 9, 10, 13, 14, 16]
def fg58 : List (Nat × List Nat) := [(28, [3, 5, 9, 10, 42, 43, 44, 45, 105]), (27, [13, 70, 104]), (26, [13, 15, 100, 103]), (25, [3, 5, 9, 10, 13, 15, 42, 43, 44, 100, 101, 102]), (24, [99]), (23, [16, 90, 93, 94, 95, 96, 97, 98]), (22, [3, 5, 9, 10, 13, 15, 16, 42, 43, 44, 90, 91, 92]), (21, [89]), (20, [12, 14, 79, 82, 83, 84, 85, 86, 87, 88]), (19, [3, 5, 9, 10, 12, 13, 14, 15, 42, 43, 44, 79, 80, 81]), (18, [78]), (17, [67, 72, 73, 74, 75, 76, 77]), (16, [13, 70, 71]), (15, [12, 67, 68, 69]), (14, [58, 60, 61, 62, 63, 64, 65, 66]), (13, [58, 59]), (12, [56, 57]), (11, [11, 49, 50, 51, 52, 53, 54, 55]), (10, [45, 46, 47, 48]), (8, [41]), (7, [4, 40]), (6, [37, 39]), (5, [3, 4, 5, 37, 38]), (4, [8, 20, 23, 24, 25, 26, 27, 28, 29, 30, 31, 32, 33, 34, 35, 36]), (3, [3, 4, 5, 8, 20, 21, 22]), (2, [19]), (1, [17, 18]), (0, [0, 1, 2, 7])]
theorem comp58 : compFn Try.prog loc58 (fun i => (fg58.lookup i).getD []) Try.f58 = some lit58 := by kernel_rfl

-- parcener/piece.Length$1
def lit59 : AFn := ⟨1, [.cell 2 true 2, .tmp 3],
 (.seq
 (.ops [⟨some 1, (.boxL (.t 0)), none⟩,
 ⟨some 2, (.allocL (.agg [(.int .i64 (0)), (.int .i64 (0))])), none⟩,
 ⟨some 3, (.mv (.c (.int .i64 (0)))), none⟩]
 [] [0, 3])
 (.seq
 (.ops [⟨some 4, (.fad 2 (.t 1)), none⟩,
 ⟨some 5, (.load true 2 (.t 4)), none⟩,
 ⟨some 6, (.fad 0 (.t 1)), none⟩,
 ⟨some 7, (.load true 2 (.t 6)), none⟩,
 ⟨some 8, (.call (.f 60) [(.t 5), (.t 7)]), none⟩,
 ⟨some 9, (.ext (.t 8) 0), none⟩,
 ⟨some 10, (.ext (.t 8) 1), none⟩,
 ⟨none, (.store 2 (.t 2) (.t 9)), none⟩,
 ⟨some 3, (.mv (.t 10)), none⟩]
 [] [1, 4, 5, 6, 7, 8, 9, 10])
 .ret))⟩
def loc59 : List Nat := [1, 2]
def fg59 : List (Nat × List Nat) := [(1, [1, 4, 5, 6, 7, 8, 9, 10]), (0, [0, 3])]
theorem comp59 : compFn Try.prog loc59 (fun i => (fg59.lookup i).getD []) Try.f59 = some lit59 := by kernel_rfl

-- parcener/ratio.Sub
def lit60 : AFn := ⟨2, [.cell 4 true 2, .tmp 5],
 (.seq
 (.ops [⟨some 2, (.boxL (.t 0)), none⟩,
 ⟨some 3, (.boxL (.t 1)), none⟩,
 ⟨some 4, (.allocL (.agg [(.int .i64 (0)), (.int .i64 (0))])), none⟩,
 ⟨some 5, (.mv (.c (.int .i64 (0)))), none⟩]
 [] [0, 1, 5])
 (.seq
 (.seq
 (.ops [⟨some 7, (.load true 2 (.t 2)), none⟩,
 ⟨some 8, (.load true 2 (.t 3)), none⟩,
 ⟨some 9, (.call (.f 79) [(.t 7), (.t 8)]), none⟩,
 ⟨some 6, (.mv (.t 9)), none⟩]
 [] [7, 8, 9])
 (.seq
 (.ops [⟨some 10, (.mv (.t 6)), none⟩,
 ⟨some 11, (.bin .neq (.t 10) (.c (.int .i64 (0)))), none⟩]
 [] [10])
 (.cond (.t 11)
 (.seq
 (.ops [⟨some 12, (.build [(.int .i64 (0)), (.int .i64 (0))] []), none⟩,
 ⟨some 13, (.mv (.t 6)), none⟩,
 ⟨none, (.store 2 (.t 4) (.t 12)), none⟩,
 ⟨some 5, (.mv (.t 13)), none⟩]
 [] [2, 3, 6, 11, 12, 13])
 .ret)
 .skip)))
 (.seq
 (.ops [⟨some 14, (.fad 0 (.t 3)), none⟩,
 ⟨some 15, (.load false 1 (.t 14)), none⟩,
 ⟨some 16, (.un .neg (.t 15)), none⟩,
 ⟨some 17, (.fad 0 (.t 3)), none⟩,
 ⟨none, (.store 1 (.t 17) (.t 16)), none⟩]
 [] [6, 11, 14, 15, 16, 17])
 (.seq
 (.ops [⟨some 18, (.load true 2 (.t 2)), none⟩,
 ⟨some 19, (.load true 2 (.t 3)), none⟩,
 ⟨some 20, (.call (.f 61) [(.t 18), (.t 19)]), none⟩,
 ⟨some 21, (.ext (.t 20) 0), none⟩,
 ⟨some 22, (.ext (.t 20) 1), none⟩,
 ⟨none, (.store 2 (.t 4) (.t 21)), none⟩,
 ⟨some 5, (.mv (.t 22)), none⟩]
 [] [2, 3, 18, 19, 20, 21, 22])
 .ret))))⟩
def loc60 : List Nat := [2, 3, 4]
def fg60 : List (Nat × List Nat) := [(5, [2, 3, 18, 19, 20, 21, 22]), (4, [6, 11, 14, 15, 16, 17]), (3, [2, 3, 6, 11, 12, 13]), (2, [10]), (1, [7, 8, 9]), (0, [0, 1, 5])]
theorem comp60 : compFn Try.prog loc60 (fun i => (fg60.lookup i).getD []) Try.f60 = some lit60 := by kernel_rfl

-- parcener/ratio.Add
def lit61 : AFn := ⟨2, [.cell 4 true 2, .tmp 5],
 (.seq
 (.ops [⟨some 2, (.boxL (.t 0)), none⟩,
 ⟨some 3, (.boxL (.t 1)), none⟩,
 ⟨some 4, (.allocL (.agg [(.int .i64 (0)), (.int .i64 (0))])), none⟩,
 ⟨some 5, (.mv (.c (.int .i64 (0)))), none⟩]
 [] [0, 1, 5])
 (.seq
 (.seq
 (.ops [⟨some 21, (.load true 2 (.t 2)), none⟩,
 ⟨some 22, (.load true 2 (.t 3)), none⟩,
 ⟨some 23, (.call (.f 79) [(.t 21), (.t 22)]), none⟩,
 ⟨some 6, (.mv (.t 23)), none⟩]
 [] [21, 22, 23])
 (.seq
 (.ops [⟨some 24, (.mv (.t 6)), none⟩,
 ⟨some 25, (.bin .neq (.t 24) (.c (.int .i64 (0)))), none⟩]
 [] [24])
 (.cond (.t 25)
 (.seq
 (.ops [⟨some 26, (.build [(.int .i64 (0)), (.int .i64 (0))] []), none⟩,
 ⟨some 27, (.mv (.t 6)), none⟩,
 ⟨none, (.store 2 (.t 4) (.t 26)), none⟩,
 ⟨some 5, (.mv (.t 27)), none⟩]
 [] [2, 3, 6, 25, 26, 27])
 .ret)
 .skip)))
 (.seq
 (.ops [⟨some 28, (.fad 1 (.t 2)), none⟩,
 ⟨some 29, (.load false 1 (.t 28)), none⟩,
 ⟨some 30, (.conv .u64 (.t 29)), none⟩,
 ⟨some 31, (.fad 1 (.t 3)), none⟩,
 ⟨some 32, (.load false 1 (.t 31)), none⟩,
 ⟨some 33, (.conv .u64 (.t 32)), none⟩,
 ⟨some 34, (.call (.f 71) [(.t 30), (.t 33)]), none⟩,
 ⟨some 7, (.mv (.t 34)), none⟩]
 [] [6, 25, 28, 29, 30, 31, 32, 33, 34])
 (.seq
 (.ops [⟨some 36, (.fad 0 (.t 2)), none⟩,
 ⟨some 37, (.load false 1 (.t 36)), none⟩,
 ⟨some 38, (.call (.f 70) [(.t 37)]), none⟩,
 ⟨some 39, (.fad 1 (.t 3)), none⟩,
 ⟨some 40, (.load false 1 (.t 39)), none⟩,
 ⟨some 41, (.conv .u64 (.t 40)), none⟩,
 ⟨some 42, (.mv (.t 7)), none⟩,
 ⟨some 43, (.bin .quo (.t 41) (.t 42)), none⟩,
 ⟨some 44, (.call (.f 80) [(.t 38), (.t 43)]), none⟩,
 ⟨some 35, (.mv (.t 44)), none⟩,
 ⟨some 45, (.ext (.t 35) 0), none⟩,
 ⟨some 46, (.ext (.t 35) 1), none⟩,
 ⟨some 8, (.mv (.t 45)), none⟩,
 ⟨some 9, (.mv (.t 46)), none⟩]
 [(0, 3), (1, 3), (2, 3), (0, 4), (1, 4), (2, 4), (0, 5), (1, 5), (2, 5), (0, 6), (1, 6), (2, 6), (3, 6), (4, 6), (5, 6), (0, 7), (1, 7), (2, 7), (10, 11), (11, 12)] [35, 36, 37, 38, 39, 40, 41, 42, 43, 44, 45, 46])
 (.seq
 (.ops [⟨some 48, (.fad 0 (.t 3)), none⟩,
 ⟨some 49, (.load false 1 (.t 48)), none⟩,
 ⟨some 50, (.call (.f 70) [(.t 49)]), none⟩,
 ⟨some 51, (.fad 1 (.t 2)), none⟩,
 ⟨some 52, (.load false 1 (.t 51)), none⟩,
 ⟨some 53, (.conv .u64 (.t 52)), none⟩,
 ⟨some 54, (.mv (.t 7)), none⟩,
 ⟨some 55, (.bin .quo (.t 53) (.t 54)), none⟩,
 ⟨some 56, (.call (.f 80) [(.t 50), (.t 55)]), none⟩,
 ⟨some 47, (.mv (.t 56)), none⟩,
 ⟨some 57, (.ext (.t 47) 0), none⟩,
 ⟨some 58, (.ext (.t 47) 1), none⟩,
 ⟨some 10, (.mv (.t 57)), none⟩,
 ⟨some 11, (.mv (.t 58)), none⟩]
 [(0, 3), (1, 3), (2, 3), (0, 4), (1, 4), (2, 4), (0, 5), (1, 5), (2, 5), (0, 6), (1, 6), (2, 6), (3, 6), (4, 6), (5, 6), (0, 7), (1, 7), (2, 7), (10, 11), (11, 12)] [47, 48, 49, 50, 51, 52, 53, 54, 55, 56, 57, 58])
 (.seq
 (.ops [⟨some 59, (.fad 0 (.t 2)), none⟩,
 ⟨some 60, (.load false 1 (.t 59)), none⟩,
 ⟨some 61, (.bin .lss (.t 60) (.c (.int .i64 (0)))), none⟩,
 ⟨some 12, (.mv (.t 61)), none⟩]
 [] [59, 60, 61])
 (.seq
 (.ops [⟨some 13, (.mv (.c (.int .u64 (0)))), none⟩,
 ⟨some 14, (.mv (.c (.int .u64 (0)))), none⟩,
 ⟨some 15, (.mv (.c (.int .u64 (0)))), none⟩]
 [] [13, 14, 15])
 (.seq
 (.seq
 (.ops [⟨some 62, (.fad 0 (.t 2)), none⟩,
 ⟨some 63, (.load false 1 (.t 62)), none⟩,
 ⟨some 64, (.bin .lss (.t 63) (.c (.int .i64 (0)))), none⟩,
 ⟨some 65, (.fad 0 (.t 3)), none⟩,
 ⟨some 66, (.load false 1 (.t 65)), none⟩,
 ⟨some 67, (.bin .lss (.t 66) (.c (.int .i64 (0)))), none⟩,
 ⟨some 68, (.eqB false (.t 64) (.t 67)), none⟩]
 [] [62, 63, 64, 65, 66, 67])
 (.cond (.t 68)
 (.seq
 (.ops [⟨some 70, (.mv (.t 9)), none⟩,
 ⟨some 71, (.mv (.t 11)), none⟩,
 ⟨some 72, (.call (.f 81) [(.t 70), (.t 71), (.c (.int .u64 (0)))]), none⟩,
 ⟨some 69, (.mv (.t 72)), none⟩,
 ⟨some 73, (.ext (.t 69) 0), none⟩,
 ⟨some 74, (.ext (.t 69) 1), none⟩,
 ⟨some 14, (.mv (.t 73)), none⟩,
 ⟨some 15, (.mv (.t 74)), none⟩]
 [] [9, 11, 68, 69, 70, 71, 72, 73, 74])
 (.ops [⟨some 76, (.mv (.t 8)), none⟩,
 ⟨some 77, (.mv (.t 10)), none⟩,
 ⟨some 78, (.mv (.t 15)), none⟩,
 ⟨some 79, (.call (.f 81) [(.t 76), (.t 77), (.t 78)]), none⟩,
 ⟨some 75, (.mv (.t 79)), none⟩,
 ⟨some 80, (.ext (.t 75) 0), none⟩,
 ⟨some 81, (.ext (.t 75) 1), none⟩,
 ⟨some 13, (.mv (.t 80)), none⟩]
 [] [8, 10, 15, 75, 76, 77, 78, 79, 80, 81]))
 (.seq
 (.seq
 (.ops [⟨some 82, (.mv (.t 8)), none⟩,
 ⟨some 83, (.mv (.t 10)), none⟩,
 ⟨some 84, (.bin .lss (.t 82) (.t 83)), none⟩,
 ⟨some 85, (.mv (.t 84)), none⟩,
 ⟨some 86, (.mv (.t 8)), some (85, false)⟩,
 ⟨some 87, (.mv (.t 10)), some (85, false)⟩,
 ⟨some 88, (.bin .eql (.t 86) (.t 87)), some (85, false)⟩,
 ⟨some 89, (.mv (.t 88)), some (85, false)⟩,
 ⟨some 90, (.mv (.t 9)), some (89, true)⟩,
 ⟨some 91, (.mv (.t 11)), some (89, true)⟩,
 ⟨some 92, (.bin .lss (.t 90) (.t 91)), some (89, true)⟩,
 ⟨some 93, (.pick (.t 89) (.t 92) (.c (.bool false))), some (85, false)⟩,
 ⟨some 94, (.pick (.t 85) (.c (.bool true)) (.t 93)), none⟩]
 [] [68, 82, 83, 84, 85, 86, 87, 88, 89, 90, 91, 92, 93])
 (.cond (.t 94)
 (.seq
 (.ops [⟨some 95, (.mv (.t 10)), none⟩,
 ⟨some 96, (.mv (.t 11)), none⟩,
 ⟨some 97, (.mv (.t 8)), none⟩,
 ⟨some 98, (.mv (.t 9)), none⟩,
 ⟨some 8, (.mv (.t 95)), none⟩,
 ⟨some 9, (.mv (.t 96)), none⟩,
 ⟨some 10, (.mv (.t 97)), none⟩,
 ⟨some 11, (.mv (.t 98)), none⟩]
 [] [94, 95, 96, 97, 98])
 (.ops [⟨some 99, (.mv (.t 12)), none⟩,
 ⟨some 100, (.un .not (.t 99)), none⟩,
 ⟨some 12, (.mv (.t 100)), none⟩]
 [] [99, 100]))
 .skip))
 (.seq
 (.ops [⟨some 102, (.mv (.t 9)), none⟩,
 ⟨some 103, (.mv (.t 11)), none⟩,
 ⟨some 104, (.call (.f 82) [(.t 102), (.t 103), (.c (.int .u64 (0)))]), none⟩,
 ⟨some 101, (.mv (.t 104)), none⟩,
 ⟨some 105, (.ext (.t 101) 0), none⟩,
 ⟨some 106, (.ext (.t 101) 1), none⟩,
 ⟨some 14, (.mv (.t 105)), none⟩,
 ⟨some 15, (.mv (.t 106)), none⟩]
 [] [9, 11, 94, 101, 102, 103, 104, 105, 106])
 (.ops [⟨some 108, (.mv (.t 8)), none⟩,
 ⟨some 109, (.mv (.t 10)), none⟩,
 ⟨some 110, (.mv (.t 15)), none⟩,
 ⟨some 111, (.call (.f 82) [(.t 108), (.t 109), (.t 110)]), none⟩,
 ⟨some 107, (.mv (.t 111)), none⟩,
 ⟨some 112, (.ext (.t 107) 0), none⟩,
 ⟨some 113, (.ext (.t 107) 1), none⟩,
 ⟨some 13, (.mv (.t 112)), none⟩]
 [] [8, 10, 15, 107, 108, 109, 110, 111, 112, 113])))))
 (.seq
 (.seq
 (.ops [⟨some 114, (.mv (.t 13)), none⟩,
 ⟨some 115, (.bin .eql (.t 114) (.c (.int .u64 (0)))), none⟩,
 ⟨some 116, (.mv (.t 115)), none⟩,
 ⟨some 117, (.mv (.t 14)), some (116, true)⟩,
 ⟨some 118, (.bin .eql (.t 117) (.c (.int .u64 (0)))), some (116, true)⟩,
 ⟨some 119, (.pick (.t 116) (.t 118) (.c (.bool false))), none⟩]
 [] [114, 115, 116, 117, 118])
 (.cond (.t 119)
 (.seq
 (.ops [⟨some 120, (.build [(.int .i64 (0)), (.int .i64 (0))] [(1, 1, (.c (.int .i64 (1))))]), none⟩,
 ⟨none, (.store 2 (.t 4) (.t 120)), none⟩,
 ⟨some 5, (.mv (.c (.int .i64 (0)))), none⟩]
 [] [2, 3, 7, 12, 13, 14, 119, 120])
 .ret)
 .skip))
 (.seq
 (.ops [⟨some 121, (.mv (.t 13)), none⟩,
 ⟨some 122, (.mv (.t 14)), none⟩,
 ⟨some 123, (.mv (.t 7)), none⟩,
 ⟨some 124, (.call (.f 83) [(.t 121), (.t 122), (.t 123)]), none⟩,
 ⟨some 125, (.mv (.t 7)), none⟩,
 ⟨some 126, (.call (.f 71) [(.t 124), (.t 125)]), none⟩,
 ⟨some 16, (.mv (.t 126)), none⟩]
 [] [119, 121, 122, 123, 124, 125, 126])
 (.seq
 (.seq
 (.ops [⟨some 127, (.mv (.t 13)), none⟩,
 ⟨some 128, (.mv (.t 16)), none⟩,
 ⟨some 129, (.bin .geq (.t 127) (.t 128)), none⟩]
 [] [127, 128])
 (.cond (.t 129)
 (.seq
 (.ops [⟨some 130, (.build [(.int .i64 (0)), (.int .i64 (0))] []), none⟩,
 ⟨none, (.store 2 (.t 4) (.t 130)), none⟩,
 ⟨some 5, (.mv (.c (.int .i64 (16)))), none⟩]
 [] [2, 3, 7, 12, 13, 14, 16, 129, 130])
 .ret)
 .skip))
 (.seq
 (.ops [⟨some 132, (.mv (.t 13)), none⟩,
 ⟨some 133, (.mv (.t 14)), none⟩,
 ⟨some 134, (.mv (.t 16)), none⟩,
 ⟨some 135, (.call (.f 84) [(.t 132), (.t 133), (.t 134)]), none⟩,
 ⟨some 131, (.mv (.t 135)), none⟩,
 ⟨some 136, (.ext (.t 131) 0), none⟩,
 ⟨some 137, (.ext (.t 131) 1), none⟩,
 ⟨some 17, (.mv (.t 136)), none⟩,
 ⟨some 18, (.mv (.t 137)), none⟩]
 [] [13, 14, 18, 129, 131, 132, 133, 134, 135, 136, 137])
 (.seq
 (.ops [⟨some 139, (.fad 1 (.t 2)), none⟩,
 ⟨some 140, (.load false 1 (.t 139)), none⟩,
 ⟨some 141, (.conv .u64 (.t 140)), none⟩,
 ⟨some 142, (.mv (.t 7)), none⟩,
 ⟨some 143, (.bin .quo (.t 141) (.t 142)), none⟩,
 ⟨some 144, (.fad 1 (.t 3)), none⟩,
 ⟨some 145, (.load false 1 (.t 144)), none⟩,
 ⟨some 146, (.conv .u64 (.t 145)), none⟩,
 ⟨some 147, (.mv (.t 16)), none⟩,
 ⟨some 148, (.bin .quo (.t 146) (.t 147)), none⟩,
 ⟨some 149, (.call (.f 80) [(.t 143), (.t 148)]), none⟩,
 ⟨some 138, (.mv (.t 149)), none⟩,
 ⟨some 150, (.ext (.t 138) 0), none⟩,
 ⟨some 151, (.ext (.t 138) 1), none⟩,
 ⟨some 19, (.mv (.t 150)), none⟩,
 ⟨some 20, (.mv (.t 151)), none⟩]
 [(0, 3), (1, 3), (2, 3), (0, 5), (1, 5), (2, 5), (3, 5), (4, 5), (0, 6), (1, 6), (2, 6), (3, 6), (4, 6), (0, 7), (1, 7), (2, 7), (3, 7), (4, 7), (0, 8), (1, 8), (2, 8), (3, 8), (4, 8), (5, 8), (6, 8), (7, 8), (0, 9), (1, 9), (2, 9), (3, 9), (4, 9), (12, 13), (13, 14)] [2, 3, 7, 16, 138, 139, 140, 141, 142, 143, 144, 145, 146, 147, 148, 149, 150, 151])
 (.seq
 (.seq
 (.ops [⟨some 152, (.mv (.t 19)), none⟩,
 ⟨some 153, (.bin .gtr (.t 152) (.c (.int .u64 (0)))), none⟩]
 [] [19, 152])
 (.cond (.t 153)
 (.seq
 (.ops [⟨some 154, (.build [(.int .i64 (0)), (.int .i64 (0))] []), none⟩,
 ⟨none, (.store 2 (.t 4) (.t 154)), none⟩,
 ⟨some 5, (.mv (.c (.int .i64 (16)))), none⟩]
 [] [12, 17, 20, 153, 154])
 .ret)
 .skip))
 (.seq
 (.ops [⟨some 155, (.mv (.t 12)), none⟩,
 ⟨some 156, (.mv (.t 17)), none⟩,
 ⟨some 157, (.mv (.t 20)), none⟩,
 ⟨some 158, (.call (.f 85) [(.t 155), (.t 156), (.t 157)]), none⟩,
 ⟨some 159, (.ext (.t 158) 0), none⟩,
 ⟨some 160, (.ext (.t 158) 1), none⟩,
 ⟨none, (.store 2 (.t 4) (.t 159)), none⟩,
 ⟨some 5, (.mv (.t 160)), none⟩]
 [] [12, 17, 20, 153, 155, 156, 157, 158, 159, 160])
 .ret)))))))))))))))⟩
def loc61 : List Nat := [2, 3, 4]
def fg61 : List (Nat × List Nat) := [(26, [12, 17, 20, 153, 155, 156, 157, 158, 159, 160]), (25, [12, 17, 20, 153, 154]), (24, [19, 152]), (23, [2, 3, 7, 16, 138, 139, 140, 141, 142, 143, 144, 145, 146, 147, 148, 149, 150, 151]), (22, [13, 14, 18, 129, 131, 132, 133, 134, 135, 136, 137]), (21, [2, 3, 7, 12, 13, 14, 16, 129, 130]), (20, [127, 128]), (19, [119, 121, 122, 123, 124, 125, 126]), (18, [2, 3, 7, 12, 13, 14, 119, 120]), (17, [114, 115, 116, 117, 118]), (16, [8, 10, 15, 107, 108, 109, 110, 111, 112, 113]), (15, [9, 11, 94, 101, 102, 103, 104, 105, 106]), (14, [99, 100]), (13, [94, 95, 96, 97, 98]), (12, [68, 82, 83, 84, 85, 86, 87, 88, 89, 90, 91, 92, 93]), (11, [8, 10, 15, 75, 76, 77, 78, 79, 80, 81]), (10, [9, 11, 68, 69, 70, 71, 72, 73, 74]), (9, [62, 63, 64, 65, 66, 67]), (8, [13, 14, 15]), (7, [59, 60, 61]), (6, [47, 48, 49, 50, 51, 52, 53, 54, 55, 56, 57, 58]), (5, [35, 36, 37, 38, 39, 40, 41, 42, 43, 44, 45, 46]), (4, [6, 25, 28, 29, 30, 31, 32, 33, 34]), (3, [2, 3, 6, 25, 26, 27]), (2, [24]), (1, [21, 22, 23]), (0, [0, 1, 5])]
theorem comp61 : compFn Try.prog loc61 (fun i => (fg61.lookup i).getD []) Try.f61 = some lit61 := by kernel_rfl

-- slices.Clone[[]parcener/api.Span,parcener/api.Span]
def lit63 : AFn := ⟨1, [.tmp 2],
 (.seq
 (.ops [⟨some 2, (.mv (.c .nils)), none⟩]
 [] [2])
 (.seq
 (.seq
 (.ops [⟨some 3, (.mv (.t 0)), none⟩,
 ⟨some 4, (.eqN false (.t 3)), none⟩]
 [] [3])
 (.cond (.t 4)
 (.seq
 (.ops [⟨some 2, (.mv (.c .nils)), none⟩]
 [] [0, 4])
 .ret)
 .skip))
 (.seq
 (.ops [⟨some 5, (.buildSl true 4 (.agg [(.int .i64 (0)), (.int .i64 (0)), (.int .i64 (0)), (.int .i64 (0))]) 0 []), none⟩,
 ⟨some 6, (.mv (.t 0)), none⟩,
 ⟨some 7, (.app true 4 32 (.t 5) (.t 6)), none⟩,
 ⟨some 2, (.mv (.t 7)), none⟩]
 [] [0, 4, 5, 6, 7])
 .ret)))⟩
def loc63 : List Nat := []
def fg63 : List (Nat × List Nat) := [(3, [0, 4, 5, 6, 7]), (2, [0, 4]), (1, [3]), (0, [2])]
theorem comp63 : compFn Try.prog loc63 (fun i => (fg63.lookup i).getD []) Try.f63 = some lit63 := by kernel_rfl

-- slices.SortFunc[[]parcener/api.Span,parcener/api.Span]
def lit64 : AFn := ⟨2, [],
 (.seq
 (.ops [⟨some 5, (.mv (.t 0)), none⟩,
 ⟨some 6, (.len (.t 5)), none⟩,
 ⟨some 4, (.mv (.t 6)), none⟩]
 [] [5, 6])
 (.ops [⟨some 7, (.mv (.t 0)), none⟩,
 ⟨some 8, (.mv (.t 4)), none⟩,
 ⟨some 9, (.mv (.t 4)), none⟩,
 ⟨some 10, (.conv .u64 (.t 9)), none⟩,
 ⟨some 11, (.call (.f 88) [(.t 10)]), none⟩,
 ⟨some 12, (.mv (.t 1)), none⟩,
 ⟨some 13, (.call (.f 87) [(.t 7), (.c (.int .i64 (0))), (.t 8), (.t 11), (.t 12)]), none⟩]
 [] [0, 1, 4, 7, 8, 9, 10, 11, 12, 13]))⟩
def loc64 : List Nat := []
def fg64 : List (Nat × List Nat) := [(1, [0, 1, 4, 7, 8, 9, 10, 11, 12, 13]), (0, [5, 6])]
theorem comp64 : compFn Try.prog loc64 (fun i => (fg64.lookup i).getD []) Try.f64 = some lit64 := by kernel_rfl

-- parcener/piece.merged$1
def lit65 : AFn := ⟨2, [.tmp 4],
 (.seq
 (.ops [⟨some 2, (.boxL (.t 0)), none⟩,
 ⟨some 3, (.boxL (.t 1)), none⟩,
 ⟨some 4, (.mv (.c (.int .i64 (0)))), none⟩]
 [] [0, 1, 4])
 (.seq
 (.ops [⟨some 5, (.fad 0 (.t 2)), none⟩,
 ⟨some 6, (.load true 2 (.t 5)), none⟩,
 ⟨some 7, (.fad 0 (.t 3)), none⟩,
 ⟨some 8, (.load true 2 (.t 7)), none⟩,
 ⟨some 9, (.call (.f 45) [(.t 6), (.t 8)]), none⟩,
 ⟨some 4, (.mv (.t 9)), none⟩]
 [] [2, 3, 5, 6, 7, 8, 9])
 .ret))⟩
def loc65 : List Nat := [2, 3]
def fg65 : List (Nat × List Nat) := [(1, [2, 3, 5, 6, 7, 8, 9]), (0, [0, 1, 4])]
theorem comp65 : compFn Try.prog loc65 (fun i => (fg65.lookup i).getD []) Try.f65 = some lit65 := by kernel_rfl

-- slices.Grow[[]parcener/api.Span,parcener/api.Span]
def lit66 : AFn := ⟨2, [.tmp 4],
 (.seq
 (.ops [⟨some 4, (.mv (.c .nils)), none⟩]
 [] [4])
 (.seq
 (.seq
 (.ops [⟨some 5, (.mv (.t 1)), none⟩,
 ⟨some 6, (.bin .lss (.t 5) (.c (.int .i64 (0)))), none⟩]
 [] [5])
 (.cond (.t 6)
 (.ops [⟨some 7, .bad, none⟩,
 ⟨none, .bad, none⟩]
 [] [6, 7])
 .skip))
 (.seq
 (.seq
 (.ops [⟨some 8, (.mv (.t 1)), none⟩,
 ⟨some 9, (.mv (.t 0)), none⟩,
 ⟨some 10, (.cap (.t 9)), none⟩,
 ⟨some 11, (.mv (.t 0)), none⟩,
 ⟨some 12, (.len (.t 11)), none⟩,
 ⟨some 13, (.bin .sub (.t 10) (.t 12)), none⟩,
 ⟨some 14, (.bin .sub (.t 8) (.t 13)), none⟩,
 ⟨some 1, (.mv (.t 14)), none⟩]
 [] [6, 8, 9, 10, 11, 12, 13, 14])
 (.seq
 (.ops [⟨some 15, (.mv (.t 1)), none⟩,
 ⟨some 16, (.bin .gtr (.t 15) (.c (.int .i64 (0)))), none⟩]
 [] [15])
 (.cond (.t 16)
 (.ops [⟨some 17, (.mv (.t 0)), none⟩,
 ⟨some 18, (.mv (.t 0)), none⟩,
 ⟨some 19, (.cap (.t 18)), none⟩,
 ⟨some 20, (.slc 4 (.t 17) none (some (.t 19)) none), none⟩,
 ⟨some 21, (.mv (.t 1)), none⟩,
 ⟨some 22, (.appZ true 4 32 (.agg [(.int .i64 (0)), (.int .i64 (0)), (.int .i64 (0)), (.int .i64 (0))]) (.t 20) (.t 21)), none⟩,
 ⟨some 23, (.mv (.t 0)), none⟩,
 ⟨some 24, (.len (.t 23)), none⟩,
 ⟨some 25, (.slc 4 (.t 22) none (some (.t 24)) none), none⟩,
 ⟨some 0, (.mv (.t 25)), none⟩]
 [] [1, 16, 17, 18, 19, 20, 21, 22, 23, 24, 25])
 .skip)))
 (.seq
 (.ops [⟨some 26, (.mv (.t 0)), none⟩,
 ⟨some 4, (.mv (.t 26)), none⟩]
 [] [0, 1, 16, 26])
 .ret))))⟩
def loc66 : List Nat := []
def fg66 : List (Nat × List Nat) := [(6, [0, 1, 16, 26]), (5, [1, 16, 17, 18, 19, 20, 21, 22, 23, 24, 25]), (4, [15]), (3, [6, 8, 9, 10, 11, 12, 13, 14]), (2, [6, 7]), (1, [5]), (0, [4])]
theorem comp66 : compFn Try.prog loc66 (fun i => (fg66.lookup i).getD []) Try.f66 = some lit66 := by kernel_rfl

-- parcener/ratio.Cmp
def lit69 : AFn := ⟨2, [.tmp 4, .tmp 5],
 (.seq
 (.ops [⟨some 2, (.boxL (.t 0)), none⟩,
 ⟨some 3, (.boxL (.t 1)), none⟩,
 ⟨some 4, (.mv (.c (.int .i64 (0)))), none⟩,
 ⟨some 5, (.mv (.c (.int .i64 (0)))), none⟩]
 [] [0, 1, 4, 5])
 (.seq
 (.seq
 (.ops [⟨some 12, (.load true 2 (.t 2)), none⟩,
 ⟨some 13, (.load true 2 (.t 3)), none⟩,
 ⟨some 14, (.call (.f 79) [(.t 12), (.t 13)]), none⟩,
 ⟨some 6, (.mv (.t 14)), none⟩]
 [] [12, 13, 14])
 (.seq
 (.ops [⟨some 15, (.mv (.t 6)), none⟩,
 ⟨some 16, (.bin .neq (.t 15) (.c (.int .i64 (0)))), none⟩]
 [] [15])
 (.cond (.t 16)
 (.seq
 (.ops [⟨some 17, (.mv (.t 6)), none⟩,
 ⟨some 4, (.mv (.c (.int .i64 (0)))), none⟩,
 ⟨some 5, (.mv (.t 17)), none⟩]
 [] [2, 3, 6, 16, 17])
 .ret)
 .skip)))
 (.seq
 (.seq
 (.ops [⟨some 18, (.fad 0 (.t 2)), none⟩,
 ⟨some 19, (.load false 1 (.t 18)), none⟩,
 ⟨some 20, (.bin .lss (.t 19) (.c (.int .i64 (0)))), none⟩,
 ⟨some 21, (.fad 0 (.t 3)), none⟩,
 ⟨some 22, (.load false 1 (.t 21)), none⟩,
 ⟨some 23, (.bin .lss (.t 22) (.c (.int .i64 (0)))), none⟩,
 ⟨some 24, (.eqB true (.t 20) (.t 23)), none⟩]
 [] [6, 16, 18, 19, 20, 21, 22, 23])
 (.cond (.t 24)
 (.seq
 (.ops [⟨some 25, (.fad 0 (.t 2)), none⟩,
 ⟨some 26, (.load false 1 (.t 25)), none⟩,
 ⟨some 27, (.fad 0 (.t 3)), none⟩,
 ⟨some 28, (.load false 1 (.t 27)), none⟩,
 ⟨some 29, (.call (.f 91) [(.t 26), (.t 28)]), none⟩,
 ⟨some 4, (.mv (.t 29)), none⟩,
 ⟨some 5, (.mv (.c (.int .i64 (0)))), none⟩]
 [] [2, 3, 24, 25, 26, 27, 28, 29])
 .ret)
 .skip))
 (.seq
 (.ops [⟨some 31, (.fad 0 (.t 2)), none⟩,
 ⟨some 32, (.load false 1 (.t 31)), none⟩,
 ⟨some 33, (.call (.f 70) [(.t 32)]), none⟩,
 ⟨some 34, (.fad 1 (.t 3)), none⟩,
 ⟨some 35, (.load false 1 (.t 34)), none⟩,
 ⟨some 36, (.conv .u64 (.t 35)), none⟩,
 ⟨some 37, (.call (.f 80) [(.t 33), (.t 36)]), none⟩,
 ⟨some 30, (.mv (.t 37)), none⟩,
 ⟨some 38, (.ext (.t 30) 0), none⟩,
 ⟨some 39, (.ext (.t 30) 1), none⟩,
 ⟨some 7, (.mv (.t 38)), none⟩,
 ⟨some 8, (.mv (.t 39)), none⟩]
 [(0, 3), (1, 3), (2, 3), (0, 4), (1, 4), (2, 4), (0, 5), (1, 5), (2, 5), (8, 9), (9, 10)] [24, 30, 31, 32, 33, 34, 35, 36, 37, 38, 39])
 (.seq
 (.ops [⟨some 41, (.fad 0 (.t 3)), none⟩,
 ⟨some 42, (.load false 1 (.t 41)), none⟩,
 ⟨some 43, (.call (.f 70) [(.t 42)]), none⟩,
 ⟨some 44, (.fad 1 (.t 2)), none⟩,
 ⟨some 45, (.load false 1 (.t 44)), none⟩,
 ⟨some 46, (.conv .u64 (.t 45)), none⟩,
 ⟨some 47, (.call (.f 80) [(.t 43), (.t 46)]), none⟩,
 ⟨some 40, (.mv (.t 47)), none⟩,
 ⟨some 48, (.ext (.t 40) 0), none⟩,
 ⟨some 49, (.ext (.t 40) 1), none⟩,
 ⟨some 9, (.mv (.t 48)), none⟩,
 ⟨some 10, (.mv (.t 49)), none⟩]
 [(0, 3), (1, 3), (2, 3), (0, 4), (1, 4), (2, 4), (0, 5), (1, 5), (2, 5), (8, 9), (9, 10)] [3, 40, 41, 42, 43, 44, 45, 46, 47, 48, 49])
 (.seq
 (.ops [⟨some 50, (.mv (.t 7)), none⟩,
 ⟨some 51, (.mv (.t 9)), none⟩,
 ⟨some 52, (.call (.f 93) [(.t 50), (.t 51)]), none⟩,
 ⟨some 53, (.mv (.t 8)), none⟩,
 ⟨some 54, (.mv (.t 10)), none⟩,
 ⟨some 55, (.call (.f 93) [(.t 53), (.t 54)]), none⟩,
 ⟨some 56, (.buildD 1 (.int .i64 (0)) 2 [(0, (.t 52)), (1, (.t 55))]), none⟩,
 ⟨some 57, (.call (.f 92) [(.t 56)]), none⟩,
 ⟨some 11, (.mv (.t 57)), none⟩]
 [] [7, 8, 9, 10, 50, 51, 52, 53, 54, 55, 56, 57])
 (.seq
 (.seq
 (.ops [⟨some 58, (.fad 0 (.t 2)), none⟩,
 ⟨some 59, (.load false 1 (.t 58)), none⟩,
 ⟨some 60, (.bin .lss (.t 59) (.c (.int .i64 (0)))), none⟩]
 [] [2, 58, 59])
 (.cond (.t 60)
 (.ops [⟨some 61, (.mv (.t 11)), none⟩,
 ⟨some 62, (.un .neg (.t 61)), none⟩,
 ⟨some 11, (.mv (.t 62)), none⟩]
 [] [60, 61, 62])
 .skip))
 (.seq
 (.ops [⟨some 63, (.mv (.t 11)), none⟩,
 ⟨some 4, (.mv (.t 63)), none⟩,
 ⟨some 5, (.mv (.c (.int .i64 (0)))), none⟩]
 [] [11, 60, 63])
 .ret))))))))⟩
def loc69 : List Nat := [56, 2, 3]
def fg69 : List (Nat × List Nat) := [(11, [11, 60, 63]), (10, [60, 61, 62]), (9, [2, 58, 59]), (8, [7, 8, 9, 10, 50, 51, 52, 53, 54, 55, 56, 57]), (7, [3, 40, 41, 42, 43, 44, 45, 46, 47, 48, 49]), (6, [24, 30, 31, 32, 33, 34, 35, 36, 37, 38, 39]), (5, [2, 3, 24, 25, 26, 27, 28, 29]), (4, [6, 16, 18, 19, 20, 21, 22, 23]), (3, [2, 3, 6, 16, 17]), (2, [15]), (1, [12, 13, 14]), (0, [0, 1, 4, 5])]
theorem comp69 : compFn Try.prog loc69 (fun i => (fg69.lookup i).getD []) Try.f69 = some lit69 := by kernel_rfl

-- parcener/ratio.size
def lit70 : AFn := ⟨1, [.tmp 2],
 (.seq
 (.ops [⟨some 2, (.mv (.c (.int .u64 (0)))), none⟩]
 [] [2])
 (.seq
 (.seq
 (.ops [⟨some 3, (.mv (.t 0)), none⟩,
 ⟨some 4, (.bin .lss (.t 3) (.c (.int .i64 (0)))), none⟩]
 [] [3])
 (.cond (.t 4)
 (.seq
 (.ops [⟨some 5, (.mv (.t 0)), none⟩,
 ⟨some 6, (.conv .u64 (.t 5)), none⟩,
 ⟨some 7, (.un .neg (.t 6)), none⟩,
 ⟨some 2, (.mv (.t 7)), none⟩]
 [] [0, 4, 5, 6, 7])
 .ret)
 .skip))
 (.seq
 (.ops [⟨some 8, (.mv (.t 0)), none⟩,
 ⟨some 9, (.conv .u64 (.t 8)), none⟩,
 ⟨some 2, (.mv (.t 9)), none⟩]
 [] [0, 4, 8, 9])
 .ret)))⟩
def loc70 : List Nat := []
def fg70 : List (Nat × List Nat) := [(3, [0, 4, 8, 9]), (2, [0, 4, 5, 6, 7]), (1, [3]), (0, [2])]
theorem comp70 : compFn Try.prog loc70 (fun i => (fg70.lookup i).getD []) Try.f70 = some lit70 := by kernel_rfl

-- parcener/ratio.gcd
def lit71 : AFn := ⟨2, [.tmp 4],
 (.seq
 (.ops [⟨some 4, (.mv (.c (.int .u64 (0)))), none⟩]
 [] [4])
 (.seq
 (.block 0
 (.loop
 (.seq
 (.seq
 (.ops [⟨some 5, (.mv (.t 1)), none⟩,
 ⟨some 6, (.bin .gtr (.t 5) (.c (.int .u64 (0)))), none⟩]
 [] [5])
 (.cond (.t 6)
 .skip
 (.exit 0)))
 (.block 1
 (.ops [⟨some 7, (.mv (.t 1)), none⟩,
 ⟨some 8, (.mv (.t 0)), none⟩,
 ⟨some 9, (.mv (.t 1)), none⟩,
 ⟨some 10, (.bin .rem (.t 8) (.t 9)), none⟩,
 ⟨some 0, (.mv (.t 7)), none⟩,
 ⟨some 1, (.mv (.t 10)), none⟩]
 [(0, 1), (0, 2), (1, 2), (0, 3), (2, 4), (3, 4)] [6, 7, 8, 9, 10])))))
 (.seq
 (.ops [⟨some 11, (.mv (.t 0)), none⟩,
 ⟨some 4, (.mv (.t 11)), none⟩]
 [] [0, 1, 6, 11])
 .ret)))⟩
def loc71 : List Nat := []
def fg71 : List (Nat × List Nat) := [(3, [0, 1, 6, 11]), (2, [6, 7, 8, 9, 10]), (1, [5]), (0, [4])]
theorem comp71 : compFn Try.prog loc71 (fun i => (fg71.lookup i).getD []) Try.f71 = some lit71 := by kernel_rfl

-- slices.IndexFunc[[]parcener/api.Span,parcener/api.Span]
def lit72 : AFn := ⟨2, [.tmp 4],
 (.seq
 (.ops [⟨some 4, (.mv (.c (.int .i64 (0)))), none⟩]
 [] [4])
 (.seq
 (.seq
 (.ops [⟨some 6, (.mv (.t 0)), none⟩,
 ⟨some 7, (.len (.t 6)), none⟩,
 ⟨some 8, (.mv (.c (.int .i64 (0)))), none⟩]
 [] [6])
 (.block 0
 (.loop
 (.seq
 (.ops [⟨some 9, (.bin .lss (.t 8) (.t 7)), none⟩]
 [] [])
 (.seq
 (.cond (.t 9)
 .skip
 (.exit 0))
 (.seq
 (.block 1
 (.seq
 (.ops [⟨some 10, (.mv (.t 8)), none⟩,
 ⟨some 5, (.mv (.t 10)), none⟩]
 [] [9, 10])
 (.seq
 (.ops [⟨some 11, (.mv (.t 1)), none⟩,
 ⟨some 12, (.mv (.t 0)), none⟩,
 ⟨some 13, (.mv (.t 5)), none⟩,
 ⟨some 14, (.iad 4 (.t 12) (.t 13)), none⟩,
 ⟨some 15, (.load true 4 (.t 14)), none⟩,
 ⟨some 16, (.call (.t 11) [(.t 15)]), none⟩]
 [] [11, 12, 13, 14, 15])
 (.cond (.t 16)
 (.seq
 (.ops [⟨some 17, (.mv (.t 5)), none⟩,
 ⟨some 4, (.mv (.t 17)), none⟩]
 [] [0, 1, 5, 7, 8, 16, 17])
 .ret)
 .skip))))
 (.ops [⟨some 18, (.bin .add (.t 8) (.c (.int .i64 (1)))), none⟩,
 ⟨some 8, (.mv (.t 18)), none⟩]
 [] [5, 16, 18])))))))
 (.seq
 (.ops [⟨some 4, (.mv (.c (.int .i64 (-1)))), none⟩]
 [] [0, 1, 7, 8, 9])
 .ret)))⟩
def loc72 : List Nat := []
def fg72 : List (Nat × List Nat) := [(7, [0, 1, 7, 8, 9]), (6, [5, 16, 18]), (5, [0, 1, 5, 7, 8, 16, 17]), (4, [11, 12, 13, 14, 15]), (3, [9, 10]), (1, [6]), (0, [4])]
theorem comp72 : compFn Try.prog loc72 (fun i => (fg72.lookup i).getD []) Try.f72 = some lit72 := by kernel_rfl

-- slices.Min[[]int,int]
def lit73 : AFn := ⟨1, [.tmp 2],
 (.seq
 (.ops [⟨some 2, (.mv (.c (.int .i64 (0)))), none⟩]
 [] [2])
 (.seq
 (.seq
 (.ops [⟨some 5, (.mv (.t 0)), none⟩,
 ⟨some 6, (.len (.t 5)), none⟩,
 ⟨some 7, (.bin .lss (.t 6) (.c (.int .i64 (1)))), none⟩]
 [] [5, 6])
 (.cond (.t 7)
 (.ops [⟨some 8, .bad, none⟩,
 ⟨none, .bad, none⟩]
 [] [7, 8])
 .skip))
 (.seq
 (.ops [⟨some 9, (.mv (.t 0)), none⟩,
 ⟨some 10, (.iad 1 (.t 9) (.c (.int .i64 (0)))), none⟩,
 ⟨some 11, (.load false 1 (.t 10)), none⟩,
 ⟨some 3, (.mv (.t 11)), none⟩]
 [] [7, 9, 10, 11])
 (.seq
 (.seq
 (.ops [⟨some 4, (.mv (.c (.int .i64 (1)))), none⟩]
 [] [])
 (.block 0
 (.loop
 (.seq
 (.seq
 (.ops [⟨some 12, (.mv (.t 4)), none⟩,
 ⟨some 13, (.mv (.t 0)), none⟩,
 ⟨some 14, (.len (.t 13)), none⟩,
 ⟨some 15, (.bin .lss (.t 12) (.t 14)), none⟩]
 [] [12, 13, 14])
 (.cond (.t 15)
 .skip
 (.exit 0)))
 (.seq
 (.block 1
 (.ops [⟨some 18, (.mv (.t 3)), none⟩,
 ⟨some 19, (.mv (.t 0)), none⟩,
 ⟨some 20, (.mv (.t 4)), none⟩,
 ⟨some 21, (.iad 1 (.t 19) (.t 20)), none⟩,
 ⟨some 22, (.load false 1 (.t 21)), none⟩,
 ⟨some 23, (.minmax false [(.t 18), (.t 22)]), none⟩,
 ⟨some 3, (.mv (.t 23)), none⟩]
 [] [15, 18, 19, 20, 21, 22, 23]))
 (.ops [⟨some 16, (.mv (.t 4)), none⟩,
 ⟨some 17, (.bin .add (.t 16) (.c (.int .i64 (1)))), none⟩,
 ⟨some 4, (.mv (.t 17)), none⟩]
 [] [16, 17]))))))
 (.seq
 (.ops [⟨some 24, (.mv (.t 3)), none⟩,
 ⟨some 2, (.mv (.t 24)), none⟩]
 [] [0, 3, 4, 15, 24])
 .ret)))))⟩
def loc73 : List Nat := []
def fg73 : List (Nat × List Nat) := [(8, [0, 3, 4, 15, 24]), (6, [16, 17]), (7, [15, 18, 19, 20, 21, 22, 23]), (5, [12, 13, 14]), (3, [7, 9, 10, 11]), (2, [7, 8]), (1, [5, 6]), (0, [2])]
theorem comp73 : compFn Try.prog loc73 (fun i => (fg73.lookup i).getD []) Try.f73 = some lit73 := by kernel_rfl

-- slices.Max[[]int,int]
def lit74 : AFn := ⟨1, [.tmp 2],
 (.seq
 (.ops [⟨some 2, (.mv (.c (.int .i64 (0)))), none⟩]
 [] [2])
 (.seq
 (.seq
 (.ops [⟨some 5, (.mv (.t 0)), none⟩,
 ⟨some 6, (.len (.t 5)), none⟩,
 ⟨some 7, (.bin .lss (.t 6) (.c (.int .i64 (1)))), none⟩]
 [] [5, 6])
 (.cond (.t 7)
 (.ops [⟨some 8, .bad, none⟩,
 ⟨none, .bad, none⟩]
 [] [7, 8])
 .skip))
 (.seq
 (.ops [⟨some 9, (.mv (.t 0)), none⟩,
 ⟨some 10, (.iad 1 (.t 9) (.c (.int .i64 (0)))), none⟩,
 ⟨some 11, (.load false 1 (.t 10)), none⟩,
 ⟨some 3, (.mv (.t 11)), none⟩]
 [] [7, 9, 10, 11])
 (.seq
 (.seq
 (.ops [⟨some 4, (.mv (.c (.int .i64 (1)))), none⟩]
 [] [])
 (.block 0
 (.loop
 (.seq
 (.seq
 (.ops [⟨some 12, (.mv (.t 4)), none⟩,
 ⟨some 13, (.mv (.t 0)), none⟩,
 ⟨some 14, (.len (.t 13)), none⟩,
 ⟨some 15, (.bin .lss (.t 12) (.t 14)), none⟩]
 [] [12, 13, 14])
 (.cond (.t 15)
 .skip
 (.exit 0)))
 (.seq
 (.block 1
 (.ops [⟨some 18, (.mv (.t 3)), none⟩,
 ⟨some 19, (.mv (.t 0)), none⟩,
 ⟨some 20, (.mv (.t 4)), none⟩,
 ⟨some 21, (.iad 1 (.t 19) (.t 20)), none⟩,
 ⟨some 22, (.load false 1 (.t 21)), none⟩,
 ⟨some 23, (.minmax true [(.t 18), (.t 22)]), none⟩,
 ⟨some 3, (.mv (.t 23)), none⟩]
 [] [15, 18, 19, 20, 21, 22, 23]))
 (.ops [⟨some 16, (.mv (.t 4)), none⟩,
 ⟨some 17, (.bin .add (.t 16) (.c (.int .i64 (1)))), none⟩,
 ⟨some 4, (.mv (.t 17)), none⟩]
 [] [16, 17]))))))
 (.seq
 (.ops [⟨some 24, (.mv (.t 3)), none⟩,
 ⟨some 2, (.mv (.t 24)), none⟩]
 [] [0, 3, 4, 15, 24])
 .ret)))))⟩
def loc74 : List Nat := []
def fg74 : List (Nat × List Nat) := [(8, [0, 3, 4, 15, 24]), (6, [16, 17]), (7, [15, 18, 19, 20, 21, 22, 23]), (5, [12, 13, 14]), (3, [7, 9, 10, 11]), (2, [7, 8]), (1, [5, 6]), (0, [2])]
theorem comp74 : compFn Try.prog loc74 (fun i => (fg74.lookup i).getD []) Try.f74 = some lit74 := by kernel_rfl

-- parcener/cake.point
def lit75 : AFn := ⟨2, [.tmp 4],
 (.seq
 (.ops [⟨some 2, (.boxL (.t 0)), none⟩,
 ⟨some 3, (.boxL (.t 1)), none⟩,
 ⟨some 4, (.mv (.c (.bool false))), none⟩]
 [] [0, 1, 4])
 (.seq
 (.ops [⟨some 5, (.load true 2 (.t 3)), none⟩,
 ⟨some 6, (.call (.f 51) [(.t 5)]), none⟩,
 ⟨some 7, (.bin .eql (.t 6) (.c (.int .i64 (0)))), none⟩,
 ⟨some 8, (.mv (.t 7)), none⟩,
 ⟨some 9, (.fad 0 (.t 3)), some (8, true)⟩,
 ⟨some 10, (.load false 1 (.t 9)), some (8, true)⟩,
 ⟨some 11, (.bin .geq (.t 10) (.c (.int .i64 (0)))), some (8, true)⟩,
 ⟨some 12, (.pick (.t 8) (.t 11) (.c (.bool false))), none⟩,
 ⟨some 13, (.mv (.t 12)), none⟩,
 ⟨some 14, (.fad 0 (.t 2)), some (13, true)⟩,
 ⟨some 15, (.load false 1 (.t 14)), some (13, true)⟩,
 ⟨some 16, (.call (.f 77) [(.t 15)]), some (13, true)⟩,
 ⟨some 17, (.load true 2 (.t 3)), some (13, true)⟩,
 ⟨some 18, (.call (.f 76) [(.t 16), (.t 17)]), some (13, true)⟩,
 ⟨some 19, (.un .not (.t 18)), some (13, true)⟩,
 ⟨some 20, (.pick (.t 13) (.t 19) (.c (.bool false))), none⟩,
 ⟨some 4, (.mv (.t 20)), none⟩]
 [(9, 12), (10, 12), (11, 12)] [2, 3, 5, 6, 7, 8, 9, 10, 11, 12, 13, 14, 15, 16, 17, 18, 19, 20])
 .ret))⟩
def loc75 : List Nat := [2, 3]
def fg75 : List (Nat × List Nat) := [(1, [2, 3, 5, 6, 7, 8, 9, 10, 11, 12, 13, 14, 15, 16, 17, 18, 19, 20]), (0, [0, 1, 4])]
theorem comp75 : compFn Try.prog loc75 (fun i => (fg75.lookup i).getD []) Try.f75 = some lit75 := by kernel_rfl

-- parcener/cake.less
def lit76 : AFn := ⟨2, [.tmp 4],
 (.seq
 (.ops [⟨some 2, (.boxL (.t 0)), none⟩,
 ⟨some 3, (.boxL (.t 1)), none⟩,
 ⟨some 4, (.mv (.c (.bool false))), none⟩]
 [] [0, 1, 4])
 (.seq
 (.ops [⟨some 8, (.load true 2 (.t 2)), none⟩,
 ⟨some 9, (.load true 2 (.t 3)), none⟩,
 ⟨some 10, (.call (.f 69) [(.t 8), (.t 9)]), none⟩,
 ⟨some 7, (.mv (.t 10)), none⟩,
 ⟨some 11, (.ext (.t 7) 0), none⟩,
 ⟨some 12, (.ext (.t 7) 1), none⟩,
 ⟨some 5, (.mv (.t 11)), none⟩,
 ⟨some 6, (.mv (.t 12)), none⟩]
 [] [2, 3, 6, 7, 8, 9, 10, 11, 12])
 (.seq
 (.ops [⟨some 13, (.mv (.t 5)), none⟩,
 ⟨some 14, (.bin .lss (.t 13) (.c (.int .i64 (0)))), none⟩,
 ⟨some 4, (.mv (.t 14)), none⟩]
 [] [5, 13, 14])
 .ret)))⟩
def loc76 : List Nat := [2, 3]
def fg76 : List (Nat × List Nat) := [(2, [5, 13, 14]), (1, [2, 3, 6, 7, 8, 9, 10, 11, 12]), (0, [0, 1, 4])]
theorem comp76 : compFn Try.prog loc76 (fun i => (fg76.lookup i).getD []) Try.f76 = some lit76 := by kernel_rfl

-- parcener/cake.whole
def lit77 : AFn := ⟨1, [.cell 2 true 2],
 (.seq
 (.ops [⟨some 2, (.allocL (.agg [(.int .i64 (0)), (.int .i64 (0))])), none⟩]
 [] [])
 (.seq
 (.ops [⟨some 3, (.mv (.t 0)), none⟩,
 ⟨some 4, (.build [(.int .i64 (0)), (.int .i64 (0))] [(0, 1, (.t 3)), (1, 1, (.c (.int .i64 (1))))]), none⟩,
 ⟨none, (.store 2 (.t 2) (.t 4)), none⟩]
 [] [0, 3, 4])
 .ret))⟩
def loc77 : List Nat := [2]
def fg77 : List (Nat × List Nat) := [(1, [0, 3, 4])]
theorem comp77 : compFn Try.prog loc77 (fun i => (fg77.lookup i).getD []) Try.f77 = some lit77 := by kernel_rfl

-- parcener/ratio.Mul
def lit78 : AFn := ⟨2, [.cell 4 true 2, .tmp 5],
 (.seq
 (.ops [⟨some 2, (.boxL (.t 0)), none⟩,
 ⟨some 3, (.boxL (.t 1)), none⟩,
 ⟨some 4, (.allocL (.agg [(.int .i64 (0)), (.int .i64 (0))])), none⟩,
 ⟨some 5, (.mv (.c (.int .i64 (0)))), none⟩]
 [] [0, 1, 5])
 (.seq
 (.seq
 (.ops [⟨some 17, (.load true 2 (.t 2)), none⟩,
 ⟨some 18, (.load true 2 (.t 3)), none⟩,
 ⟨some 19, (.call (.f 79) [(.t 17), (.t 18)]), none⟩,
 ⟨some 6, (.mv (.t 19)), none⟩]
 [] [17, 18, 19])
 (.seq
 (.ops [⟨some 20, (.mv (.t 6)), none⟩,
 ⟨some 21, (.bin .neq (.t 20) (.c (.int .i64 (0)))), none⟩]
 [] [20])
 (.cond (.t 21)
 (.seq
 (.ops [⟨some 22, (.build [(.int .i64 (0)), (.int .i64 (0))] []), none⟩,
 ⟨some 23, (.mv (.t 6)), none⟩,
 ⟨none, (.store 2 (.t 4) (.t 22)), none⟩,
 ⟨some 5, (.mv (.t 23)), none⟩]
 [] [2, 3, 6, 21, 22, 23])
 .ret)
 .skip)))
 (.seq
 (.ops [⟨some 24, (.fad 0 (.t 2)), none⟩,
 ⟨some 25, (.load false 1 (.t 24)), none⟩,
 ⟨some 26, (.call (.f 70) [(.t 25)]), none⟩,
 ⟨some 27, (.fad 1 (.t 2)), none⟩,
 ⟨some 28, (.load false 1 (.t 27)), none⟩,
 ⟨some 29, (.conv .u64 (.t 28)), none⟩,
 ⟨some 30, (.fad 0 (.t 3)), none⟩,
 ⟨some 31, (.load false 1 (.t 30)), none⟩,
 ⟨some 32, (.call (.f 70) [(.t 31)]), none⟩,
 ⟨some 33, (.fad 1 (.t 3)), none⟩,
 ⟨some 34, (.load false 1 (.t 33)), none⟩,
 ⟨some 35, (.conv .u64 (.t 34)), none⟩,
 ⟨some 7, (.mv (.t 26)), none⟩,
 ⟨some 8, (.mv (.t 29)), none⟩,
 ⟨some 9, (.mv (.t 32)), none⟩,
 ⟨some 10, (.mv (.t 35)), none⟩]
 [(0, 3), (1, 3), (2, 3), (0, 4), (1, 4), (2, 4), (0, 5), (1, 5), (2, 5), (0, 6), (1, 6), (2, 6), (3, 6), (4, 6), (5, 6), (0, 7), (1, 7), (2, 7), (3, 7), (4, 7), (5, 7), (3, 8), (4, 8), (5, 8), (0, 9), (1, 9), (2, 9), (3, 9), (4, 9), (5, 9), (6, 9), (7, 9), (8, 9), (0, 10), (1, 10), (2, 10), (3, 10), (4, 10), (5, 10), (6, 10), (7, 10), (8, 10), (0, 11), (1, 11), (2, 11), (3, 11), (4, 11), (5, 11), (6, 11), (7, 11), (8, 11), (3, 12), (4, 12), (5, 12), (9, 12), (10, 12), (11, 12), (9, 13), (10, 13), (11, 13), (9, 14), (10, 14), (11, 14)] [6, 21, 24, 25, 26, 27, 28, 29, 30, 31, 32, 33, 34, 35])
 (.seq
 (.ops [⟨some 36, (.mv (.t 7)), none⟩,
 ⟨some 37, (.mv (.t 10)), none⟩,
 ⟨some 38, (.call (.f 71) [(.t 36), (.t 37)]), none⟩,
 ⟨some 39, (.mv (.t 9)), none⟩,
 ⟨some 40, (.mv (.t 8)), none⟩,
 ⟨some 41, (.call (.f 71) [(.t 39), (.t 40)]), none⟩,
 ⟨some 11, (.mv (.t 38)), none⟩,
 ⟨some 12, (.mv (.t 41)), none⟩]
 [] [36, 37, 38, 39, 40, 41])
 (.seq
 (.ops [⟨some 43, (.mv (.t 7)), none⟩,
 ⟨some 44, (.mv (.t 11)), none⟩,
 ⟨some 45, (.bin .quo (.t 43) (.t 44)), none⟩,
 ⟨some 46, (.mv (.t 9)), none⟩,
 ⟨some 47, (.mv (.t 12)), none⟩,
 ⟨some 48, (.bin .quo (.t 46) (.t 47)), none⟩,
 ⟨some 49, (.call (.f 80) [(.t 45), (.t 48)]), none⟩,
 ⟨some 42, (.mv (.t 49)), none⟩,
 ⟨some 50, (.ext (.t 42) 0), none⟩,
 ⟨some 51, (.ext (.t 42) 1), none⟩,
 ⟨some 13, (.mv (.t 50)), none⟩,
 ⟨some 14, (.mv (.t 51)), none⟩]
 [(0, 1), (0, 3), (1, 3), (2, 3), (0, 4), (1, 4), (2, 4), (3, 4), (0, 5), (1, 5), (2, 5), (8, 9), (9, 10)] [7, 9, 42, 43, 44, 45, 46, 47, 48, 49, 50, 51])
 (.seq
 (.ops [⟨some 53, (.mv (.t 8)), none⟩,
 ⟨some 54, (.mv (.t 12)), none⟩,
 ⟨some 55, (.bin .quo (.t 53) (.t 54)), none⟩,
 ⟨some 56, (.mv (.t 10)), none⟩,
 ⟨some 57, (.mv (.t 11)), none⟩,
 ⟨some 58, (.bin .quo (.t 56) (.t 57)), none⟩,
 ⟨some 59, (.call (.f 80) [(.t 55), (.t 58)]), none⟩,
 ⟨some 52, (.mv (.t 59)), none⟩,
 ⟨some 60, (.ext (.t 52) 0), none⟩,
 ⟨some 61, (.ext (.t 52) 1), none⟩,
 ⟨some 15, (.mv (.t 60)), none⟩,
 ⟨some 16, (.mv (.t 61)), none⟩]
 [(0, 1), (0, 3), (1, 3), (2, 3), (0, 4), (1, 4), (2, 4), (3, 4), (0, 5), (1, 5), (2, 5), (8, 9), (9, 10)] [8, 10, 11, 12, 52, 53, 54, 55, 56, 57, 58, 59, 60, 61])
 (.seq
 (.seq
 (.ops [⟨some 62, (.mv (.t 13)), none⟩,
 ⟨some 63, (.mv (.t 15)), none⟩,
 ⟨some 64, (.bin .add (.t 62) (.t 63)), none⟩,
 ⟨some 65, (.bin .gtr (.t 64) (.c (.int .u64 (0)))), none⟩]
 [] [13, 15, 62, 63, 64])
 (.cond (.t 65)
 (.seq
 (.ops [⟨some 66, (.build [(.int .i64 (0)), (.int .i64 (0))] []), none⟩,
 ⟨none, (.store 2 (.t 4) (.t 66)), none⟩,
 ⟨some 5, (.mv (.c (.int .i64 (16)))), none⟩]
 [] [2, 3, 14, 16, 65, 66])
 .ret)
 .skip))
 (.seq
 (.ops [⟨some 67, (.mv (.t 14)), none⟩,
 ⟨some 68, (.bin .gtr (.t 67) (.c (.int .u64 (0)))), none⟩,
 ⟨some 69, (.mv (.t 68)), none⟩,
 ⟨some 70, (.fad 0 (.t 2)), some (69, true)⟩,
 ⟨some 71, (.load false 1 (.t 70)), some (69, true)⟩,
 ⟨some 72, (.bin .lss (.t 71) (.c (.int .i64 (0)))), some (69, true)⟩,
 ⟨some 73, (.fad 0 (.t 3)), some (69, true)⟩,
 ⟨some 74, (.load false 1 (.t 73)), some (69, true)⟩,
 ⟨some 75, (.bin .lss (.t 74) (.c (.int .i64 (0)))), some (69, true)⟩,
 ⟨some 76, (.eqB true (.t 72) (.t 75)), some (69, true)⟩,
 ⟨some 77, (.pick (.t 69) (.t 76) (.c (.bool false))), none⟩,
 ⟨some 78, (.mv (.t 14)), none⟩,
 ⟨some 79, (.mv (.t 16)), none⟩,
 ⟨some 80, (.call (.f 85) [(.t 77), (.t 78), (.t 79)]), none⟩,
 ⟨some 81, (.ext (.t 80) 0), none⟩,
 ⟨some 82, (.ext (.t 80) 1), none⟩,
 ⟨none, (.store 2 (.t 4) (.t 81)), none⟩,
 ⟨some 5, (.mv (.t 82)), none⟩]
 [] [2, 3, 14, 16, 65, 67, 68, 69, 70, 71, 72, 73, 74, 75, 76, 77, 78, 79, 80, 81, 82])
 .ret))))))))⟩
def loc78 : List Nat := [2, 3, 4]
def fg78 : List (Nat × List Nat) := [(10, [2, 3, 14, 16, 65, 67, 68, 69, 70, 71, 72, 73, 74, 75, 76, 77, 78, 79, 80, 81, 82]), (9, [2, 3, 14, 16, 65, 66]), (8, [13, 15, 62, 63, 64]), (7, [8, 10, 11, 12, 52, 53, 54, 55, 56, 57, 58, 59, 60, 61]), (6, [7, 9, 42, 43, 44, 45, 46, 47, 48, 49, 50, 51]), (5, [36, 37, 38, 39, 40, 41]), (4, [6, 21, 24, 25, 26, 27, 28, 29, 30, 31, 32, 33, 34, 35]), (3, [2, 3, 6, 21, 22, 23]), (2, [20]), (1, [17, 18, 19]), (0, [0, 1, 5])]
theorem comp78 : compFn Try.prog loc78 (fun i => (fg78.lookup i).getD []) Try.f78 = some lit78 := by kernel_rfl

-- parcener/ratio.check
def lit79 : AFn := ⟨2, [.tmp 4],
 (.seq
 (.ops [⟨some 2, (.boxL (.t 0)), none⟩,
 ⟨some 3, (.boxL (.t 1)), none⟩,
 ⟨some 4, (.mv (.c (.int .i64 (0)))), none⟩]
 [] [0, 1, 4])
 (.seq
 (.ops [⟨some 5, (.load true 2 (.t 2)), none⟩,
 ⟨some 6, (.call (.f 51) [(.t 5)]), none⟩,
 ⟨some 7, (.load true 2 (.t 3)), none⟩,
 ⟨some 8, (.call (.f 51) [(.t 7)]), none⟩,
 ⟨some 9, (.buildD 1 (.int .i64 (0)) 2 [(0, (.t 6)), (1, (.t 8))]), none⟩,
 ⟨some 10, (.call (.f 94) [(.t 9)]), none⟩,
 ⟨some 4, (.mv (.t 10)), none⟩]
 [(0, 2), (1, 2)] [2, 3, 5, 6, 7, 8, 9, 10])
 .ret))⟩
def loc79 : List Nat := [9, 2, 3]
def fg79 : List (Nat × List Nat) := [(1, [2, 3, 5, 6, 7, 8, 9, 10]), (0, [0, 1, 4])]
theorem comp79 : compFn Try.prog loc79 (fun i => (fg79.lookup i).getD []) Try.f79 = some lit79 := by kernel_rfl

-- math/bits.Mul64
def lit80 : AFn := ⟨2, [.tmp 4, .tmp 5],
 (.seq
 (.ops [⟨some 4, (.mv (.c (.int .u64 (0)))), none⟩,
 ⟨some 5, (.mv (.c (.int .u64 (0)))), none⟩]
 [] [4, 5])
 (.seq
 (.ops [⟨some 14, (.mv (.t 0)), none⟩,
 ⟨some 15, (.bin .and (.t 14) (.c (.int .u64 (4294967295)))), none⟩,
 ⟨some 6, (.mv (.t 15)), none⟩]
 [] [14, 15])
 (.seq
 (.ops [⟨some 16, (.mv (.t 0)), none⟩,
 ⟨some 17, (.bin .shr (.t 16) (.c (.int .u64 (32)))), none⟩,
 ⟨some 7, (.mv (.t 17)), none⟩]
 [] [16, 17])
 (.seq
 (.ops [⟨some 18, (.mv (.t 1)), none⟩,
 ⟨some 19, (.bin .and (.t 18) (.c (.int .u64 (4294967295)))), none⟩,
 ⟨some 8, (.mv (.t 19)), none⟩]
 [] [18, 19])
 (.seq
 (.ops [⟨some 20, (.mv (.t 1)), none⟩,
 ⟨some 21, (.bin .shr (.t 20) (.c (.int .u64 (32)))), none⟩,
 ⟨some 9, (.mv (.t 21)), none⟩]
 [] [20, 21])
 (.seq
 (.ops [⟨some 22, (.mv (.t 6)), none⟩,
 ⟨some 23, (.mv (.t 8)), none⟩,
 ⟨some 24, (.bin .mul (.t 22) (.t 23)), none⟩,
 ⟨some 10, (.mv (.t 24)), none⟩]
 [] [22, 23, 24])
 (.seq
 (.ops [⟨some 25, (.mv (.t 7)), none⟩,
 ⟨some 26, (.mv (.t 8)), none⟩,
 ⟨some 27, (.bin .mul (.t 25) (.t 26)), none⟩,
 ⟨some 28, (.mv (.t 10)), none⟩,
 ⟨some 29, (.bin .shr (.t 28) (.c (.int .u64 (32)))), none⟩,
 ⟨some 30, (.bin .add (.t 27) (.t 29)), none⟩,
 ⟨some 11, (.mv (.t 30)), none⟩]
 [] [8, 10, 25, 26, 27, 28, 29, 30])
 (.seq
 (.ops [⟨some 31, (.mv (.t 11)), none⟩,
 ⟨some 32, (.bin .and (.t 31) (.c (.int .u64 (4294967295)))), none⟩,
 ⟨some 12, (.mv (.t 32)), none⟩]
 [] [31, 32])
 (.seq
 (.ops [⟨some 33, (.mv (.t 11)), none⟩,
 ⟨some 34, (.bin .shr (.t 33) (.c (.int .u64 (32)))), none⟩,
 ⟨some 13, (.mv (.t 34)), none⟩]
 [] [11, 33, 34])
 (.seq
 (.ops [⟨some 35, (.mv (.t 12)), none⟩,
 ⟨some 36, (.mv (.t 6)), none⟩,
 ⟨some 37, (.mv (.t 9)), none⟩,
 ⟨some 38, (.bin .mul (.t 36) (.t 37)), none⟩,
 ⟨some 39, (.bin .add (.t 35) (.t 38)), none⟩,
 ⟨some 12, (.mv (.t 39)), none⟩]
 [] [6, 35, 36, 37, 38, 39])
 (.seq
 (.ops [⟨some 40, (.mv (.t 7)), none⟩,
 ⟨some 41, (.mv (.t 9)), none⟩,
 ⟨some 42, (.bin .mul (.t 40) (.t 41)), none⟩,
 ⟨some 43, (.mv (.t 13)), none⟩,
 ⟨some 44, (.bin .add (.t 42) (.t 43)), none⟩,
 ⟨some 45, (.mv (.t 12)), none⟩,
 ⟨some 46, (.bin .shr (.t 45) (.c (.int .u64 (32)))), none⟩,
 ⟨some 47, (.bin .add (.t 44) (.t 46)), none⟩,
 ⟨some 4, (.mv (.t 47)), none⟩]
 [] [7, 9, 12, 13, 40, 41, 42, 43, 44, 45, 46, 47])
 (.seq
 (.ops [⟨some 48, (.mv (.t 0)), none⟩,
 ⟨some 49, (.mv (.t 1)), none⟩,
 ⟨some 50, (.bin .mul (.t 48) (.t 49)), none⟩,
 ⟨some 5, (.mv (.t 50)), none⟩]
 [] [0, 1, 48, 49, 50])
 .ret))))))))))))⟩
def loc80 : List Nat := []
def fg80 : List (Nat × List Nat) := [(11, [0, 1, 48, 49, 50]), (10, [7, 9, 12, 13, 40, 41, 42, 43, 44, 45, 46, 47]), (9, [6, 35, 36, 37, 38, 39]), (8, [11, 33, 34]), (7, [31, 32]), (6, [8, 10, 25, 26, 27, 28, 29, 30]), (5, [22, 23, 24]), (4, [20, 21]), (3, [18, 19]), (2, [16, 17]), (1, [14, 15]), (0, [4, 5])]
theorem comp80 : compFn Try.prog loc80 (fun i => (fg80.lookup i).getD []) Try.f80 = some lit80 := by kernel_rfl

-- math/bits.Rem64
def lit83 : AFn := ⟨3, [.tmp 6],
 (.seq
 (.ops [⟨some 6, (.mv (.c (.int .u64 (0)))), none⟩]
 [] [6])
 (.seq
 (.ops [⟨some 10, (.mv (.t 0)), none⟩,
 ⟨some 11, (.mv (.t 2)), none⟩,
 ⟨some 12, (.bin .rem (.t 10) (.t 11)), none⟩,
 ⟨some 13, (.mv (.t 1)), none⟩,
 ⟨some 14, (.mv (.t 2)), none⟩,
 ⟨some 15, (.call (.f 84) [(.t 12), (.t 13), (.t 14)]), none⟩,
 ⟨some 9, (.mv (.t 15)), none⟩,
 ⟨some 16, (.ext (.t 9) 0), none⟩,
 ⟨some 17, (.ext (.t 9) 1), none⟩,
 ⟨some 7, (.mv (.t 16)), none⟩,
 ⟨some 8, (.mv (.t 17)), none⟩]
 [] [0, 1, 2, 7, 9, 10, 11, 12, 13, 14, 15, 16, 17])
 (.seq
 (.ops [⟨some 18, (.mv (.t 8)), none⟩,
 ⟨some 6, (.mv (.t 18)), none⟩]
 [] [8, 18])
 .ret)))⟩
def loc83 : List Nat := []
def fg83 : List (Nat × List Nat) := [(2, [8, 18]), (1, [0, 1, 2, 7, 9, 10, 11, 12, 13, 14, 15, 16, 17]), (0, [6])]
theorem comp83 : compFn Try.prog loc83 (fun i => (fg83.lookup i).getD []) Try.f83 = some lit83 := by kernel_rfl

def tab0 : List (Nat × AFn) := [(7, lit7), (10, lit10), (12, lit12), (14, lit14), (16, lit16), (18, lit18), (19, lit19), (22, lit22), (25, lit25), (26, lit26), (27, lit27), (28, lit28), (29, lit29), (30, lit30), (37, lit37), (38, lit38), (39, lit39), (40, lit40), (42, lit42), (43, lit43), (44, lit44), (45, lit45), (46, lit46), (51, lit51), (52, lit52), (53, lit53), (55, lit55), (56, lit56), (57, lit57), (58, lit58), (59, lit59), (60, lit60), (61, lit61), (63, lit63), (64, lit64), (65, lit65), (66, lit66), (69, lit69), (70, lit70), (71, lit71), (72, lit72), (73, lit73), (74, lit74), (75, lit75), (76, lit76), (77, lit77), (78, lit78), (79, lit79), (80, lit80), (83, lit83)]
theorem tabOk0 : AllOk Try.prog tab0 := ⟨⟨_, _, _, Try.func7, comp7⟩, ⟨_, _, _, Try.func10, comp10⟩, ⟨_, _, _, Try.func12, comp12⟩, ⟨_, _, _, Try.func14, comp14⟩, ⟨_, _, _, Try.func16, comp16⟩, ⟨_, _, _, Try.func18, comp18⟩, ⟨_, _, _, Try.func19, comp19⟩, ⟨_, _, _, Try.func22, comp22⟩, ⟨_, _, _, Try.func25, comp25⟩, ⟨_, _, _, Try.func26, comp26⟩, ⟨_, _, _, Try.func27, comp27⟩, ⟨_, _, _, Try.func28, comp28⟩, ⟨_, _, _, Try.func29, comp29⟩, ⟨_, _, _, Try.func30, comp30⟩, ⟨_, _, _, Try.func37, comp37⟩, ⟨_, _, _, Try.func38, comp38⟩, ⟨_, _, _, Try.func39, comp39⟩, ⟨_, _, _, Try.func40, comp40⟩, ⟨_, _, _, Try.func42, comp42⟩, ⟨_, _, _, Try.func43, comp43⟩, ⟨_, _, _, Try.func44, comp44⟩, ⟨_, _, _, Try.func45, comp45⟩, ⟨_, _, _, Try.func46, comp46⟩, ⟨_, _, _, Try.func51, comp51⟩, ⟨_, _, _, Try.func52, comp52⟩, ⟨_, _, _, Try.func53, comp53⟩, ⟨_, _, _, Try.func55, comp55⟩, ⟨_, _, _, Try.func56, comp56⟩, ⟨_, _, _, Try.func57, comp57⟩, ⟨_, _, _, Try.func58, comp58⟩, ⟨_, _, _, Try.func59, comp59⟩, ⟨_, _, _, Try.func60, comp60⟩, ⟨_, _, _, Try.func61, comp61⟩, ⟨_, _, _, Try.func63, comp63⟩, ⟨_, _, _, Try.func64, comp64⟩, ⟨_, _, _, Try.func65, comp65⟩, ⟨_, _, _, Try.func66, comp66⟩, ⟨_, _, _, Try.func69, comp69⟩, ⟨_, _, _, Try.func70, comp70⟩, ⟨_, _, _, Try.func71, comp71⟩, ⟨_, _, _, Try.func72, comp72⟩, ⟨_, _, _, Try.func73, comp73⟩, ⟨_, _, _, Try.func74, comp74⟩, ⟨_, _, _, Try.func75, comp75⟩, ⟨_, _, _, Try.func76, comp76⟩, ⟨_, _, _, Try.func77, comp77⟩, ⟨_, _, _, Try.func78, comp78⟩, ⟨_, _, _, Try.func79, comp79⟩, ⟨_, _, _, Try.func80, comp80⟩, ⟨_, _, _, Try.func83, comp83⟩, trivial⟩
end Go.Proofs.Ytnbebjhmfpchcaa.Pn
