/- The statement KnifeFair: what the conditions and their plain laws say of the program's functions, joined with the program. -/
import Derived.Test.YtegkpannhahmcaaGreatRows

import Derived.Test.YtegkpannhahmcaaGreatKfW7
import Derived.WalkKit
import Derived.ProofKit
import Derived.OpenShut
import Derived.ReadAgain
import Derived.ChangeBears




import Derived.Shelf.SlSortCmp.WholeK
import Derived.Test.YtegkpannhahmcaaGreatShelf
namespace Go.Proofs.YtegkpannhahmcaaGreat.Kf
open Go Go.Pf Go.Pf.Vc Go.ChangeShapes Go.WideShapes Go.ChangeAt Go.RowKit Go.Shelf Go.Sort Go.Lib Go.Proofs
set_option maxRecDepth 100000
def ySL:List (Nat×List Nat):=[(1,[1,3,4,5,6,7,8,9,10,11,12]),(0,[0,2])]
theorem yLi:yar Tryz.prog [1] (fun i=>(ySL.lookup i).getD []) Tryz.f74=some yJ3.fn:=by kernel_rfl
def yOj:List (Nat×List Nat):=[(6,[0,3,7,15,16,17]),(3,[8,9,14]),(5,[0,3,14]),(4,[7,10,11,12,13]),(2,[4,5,6]),(0,[2])]
theorem yBB:yar Tryz.prog [] (fun i=>(yOj.lookup i).getD []) Tryz.f23=some yAQ.fn:=by kernel_rfl
def ySM:List (Nat×List Nat):=[(14,[98]),(13,[98]),(12,[1,3,4,57,97]),(8,[58,59]),(11,[87,88,89,90,91,92,93,94,95,96]),(10,[1,3,4,87]),(9,[57,60,61,62,63,64,65,66,67,68,69,70,71,72,73,74,75,76,77,78,79,80,81,82,83,84,85,86]),(7,[53,54,55,56]),(5,[52]),(4,[1,52]),(3,[13,14,15,16,17,18,19,20,21,22,23,24,25,26,27,28,29,30,31,32,33,34,35,36,37,38,39,40,41,42,43,44,45,46,47,48,49,50,51]),(2,[1,13]),(1,[5,6,7,8,9,10,11,12]),(0,[0,2])]
theorem yLj:yar Tryz.prog [1] (fun i=>(ySM.lookup i).getD []) Tryz.f81=some yJ4.fn:=by kernel_rfl
def ySN:List (Nat×List Nat):=[(15,[1,4,43]),(12,[44,45,57]),(14,[1,4,57]),(13,[43,46,47,48,49,50,51,52,53,54,55,56]),(11,[39,40,41,42]),(10,[3,23]),(7,[24,25,32]),(9,[1,3,32,33,34,35,36,37,38]),(8,[23,26,27,28,29,30,31]),(6,[19,20,21,22]),(5,[18]),(4,[1,18]),(3,[14,15,16,17]),(2,[1,14]),(1,[5,6,7,8,9,10,11,12,13]),(0,[0,2])]
theorem yLk:yar Tryz.prog [1] (fun i=>(ySN.lookup i).getD []) Tryz.f31=some yJ5.fn:=by kernel_rfl
def yT4:List (Nat×List Nat):=[(1,[0,3,4,5,6,7,8,9,10,11]),(0,[2])]
theorem yPs:yar Tryz.prog [] (fun i=>(yT4.lookup i).getD []) Tryz.f39=some yOL.fn:=by kernel_rfl
def ySO:List (Nat×List Nat):=[(1,[1,2,3,4,5,6,7,8,9,10]),(0,[0])]
theorem yLl:yar Tryz.prog [1,2,4,5,7,8] (fun i=>(ySO.lookup i).getD []) Tryz.f99=some yJ6.fn:=by kernel_rfl
def yPt:List (Nat×List Nat):=[(8,[0,3,4,15,24]),(6,[16,17]),(7,[15,18,19,20,21,22,23]),(5,[12,13,14]),(3,[7,9,10,11]),(2,[7,8]),(1,[5,6]),(0,[2])]
theorem yCY:yar Tryz.prog [] (fun i=>(yPt.lookup i).getD []) Tryz.f130=some yCl.fn:=by kernel_rfl
def yPu:List (Nat×List Nat):=[(8,[0,3,4,15,24]),(6,[16,17]),(7,[15,18,19,20,21,22,23]),(5,[12,13,14]),(3,[7,9,10,11]),(2,[7,8]),(1,[5,6]),(0,[2])]
theorem yCZ:yar Tryz.prog [] (fun i=>(yPu.lookup i).getD []) Tryz.f131=some yCm.fn:=by kernel_rfl
def yRF:List (Nat×List Nat):=[(14,[81]),(13,[81]),(12,[1,49,50,51,66,67,68,69,70,71,72,73,74,75,76,77,78,79,80]),(11,[64,65]),(10,[1,49,50,64]),(9,[4,53,54,55,56,57,58,59,60,61,62,63]),(8,[51,52]),(6,[3,47,48]),(5,[1,3,47]),(4,[14,15,16,17,18,19,20,21,22,23,24,25,26,27,28,29,30,31,32,33,34,35,36,37,38,39,40,41,42,43,44,45,46]),(3,[1,3,14]),(2,[8,9,10,11,12,13]),(1,[5,6,7]),(0,[0,2])]
theorem yJh:yar Tryz.prog [1] (fun i=>(yRF.lookup i).getD []) Tryz.f55=some yIc.fn:=by kernel_rfl
def ySP:List (Nat×List Nat):=[(18,[1,36,37,38,39]),(17,[49,50]),(16,[1,36,37,38,49]),(15,[7,42,43,44,45,46,47,48]),(14,[39,40,41]),(12,[23,24,25,26,35]),(11,[5,32,34]),(10,[1,5,23,24,25,32,33]),(9,[31]),(8,[4,29,30]),(7,[26,27,28]),(5,[21,22]),(4,[1,21]),(3,[17,18,19,20]),(2,[1,17]),(1,[8,9,10,11,12,13,14,15,16]),(0,[0,2])]
theorem yLm:yar Tryz.prog [1,4,7] (fun i=>(ySP.lookup i).getD []) Tryz.f86=some yJ7.fn:=by kernel_rfl
def yNa:List (Nat×List Nat):=[(3,[0,4,5,6,7]),(2,[0,4]),(1,[3]),(0,[2])]
theorem yAr:yar Tryz.prog [] (fun i=>(yNa.lookup i).getD []) Tryz.f175=some yNK.fn:=by kernel_rfl
def yRG:List (Nat×List Nat):=[(7,[3,6,7,8,9,25]),(6,[24]),(5,[5,12,13,14,15,16,17,18,19,20,21,22,23]),(4,[9,10,11]),(2,[0]),(0,[2])]
theorem yJi:yar Tryz.prog [22,5] (fun i=>(yRG.lookup i).getD []) Tryz.f141=some yId.fn:=by kernel_rfl
def yTk:List (Nat×List Nat):=[(4,[0,4,9,12,13,14]),(3,[0,4,9,10,11]),(2,[8]),(1,[5,6,7]),(0,[3])]
theorem yNb:yar Tryz.prog [2] (fun i=>(yTk.lookup i).getD []) Tryz.f76=some yMh.fn:=by kernel_rfl
def yRm:List (Nat×List Nat):=[(1,[0,3,4])]
theorem yGC:yar Tryz.prog [2] (fun i=>(yRm.lookup i).getD []) Tryz.f104=some yFx.fn:=by kernel_rfl
def yRH:List (Nat×List Nat):=[(10,[1,5,14,15,16,17,38]),(9,[37]),(8,[6,7,21,22,23,24,25,26,27,28,29,30,31,32,33,34,35,36]),(7,[17,18,19,20]),(5,[13]),(4,[4,11]),(3,[1,4,11,12]),(2,[10]),(1,[8,9]),(0,[0,2,3])]
theorem yJj:yar Tryz.prog [1] (fun i=>(yRH.lookup i).getD []) Tryz.f115=some yIe.fn:=by kernel_rfl
def yRI:List (Nat×List Nat):=[(3,[0,4,8,9]),(2,[0,4,5,6,7]),(1,[3]),(0,[2])]
theorem yJk:yar Tryz.prog [] (fun i=>(yRI.lookup i).getD []) Tryz.f147=some yIf.fn:=by kernel_rfl
def ySQ:List (Nat×List Nat):=[(3,[0,1,6,11]),(2,[6,7,8,9,10]),(1,[5]),(0,[4])]
theorem yLn:yar Tryz.prog [] (fun i=>(ySQ.lookup i).getD []) Tryz.f150=some yJ8.fn:=by kernel_rfl
def yPH:List (Nat×List Nat):=[(5,[1,2,13,20,21,22,23,24]),(4,[1,2,13,14,15,16,17,18,19]),(3,[0,11]),(2,[0,1,2,11,12]),(1,[8,9,10]),(0,[7])]
theorem yFq:yar Tryz.prog [6] (fun i=>(yPH.lookup i).getD []) Tryz.f151=some yDY.fn:=by kernel_rfl
def yRJ:List (Nat×List Nat):=[(5,[0,1,6,7,8,19,20,21,22,23,24,25,26,27,28,29,30,31,32]),(4,[16,17,18]),(3,[10,12,13,14,15]),(2,[0,1,10,11]),(1,[9]),(0,[5])]
theorem yJl:yar Tryz.prog [4] (fun i=>(yRJ.lookup i).getD []) Tryz.f89=some yIg.fn:=by kernel_rfl
def yRK:List (Nat×List Nat):=[(3,[7,20]),(2,[1,5,8,14,15,16,17,18,19]),(1,[2,6,9,10,11,12,13]),(0,[0])]
theorem yJm:yar Tryz.prog [2,4,7] (fun i=>(yRK.lookup i).getD []) Tryz.f106=some yIh.fn:=by kernel_rfl
def yRn:List (Nat×List Nat):=[(3,[25]),(2,[25]),(1,[1,3,4,5,6,7,8,9,10,11,12,13,14,15,16,17,18,19,20,21,22,23,24]),(0,[0,2])]
theorem yGD:yar Tryz.prog [1] (fun i=>(yRn.lookup i).getD []) Tryz.f174=some yFy.fn:=by kernel_rfl
def yRL:List (Nat×List Nat):=[(1,[0,3,4])]
theorem yJn:yar Tryz.prog [2] (fun i=>(yRL.lookup i).getD []) Tryz.f136=some yIi.fn:=by kernel_rfl
def yLF:List (Nat×List Nat):=[(8,[3,6,7,8,9,17]),(7,[5,14,16]),(6,[3,5,6,7,8,14,15]),(5,[12,13]),(4,[9,10,11]),(2,[0]),(0,[2])]
theorem yyq:yar Tryz.prog [] (fun i=>(yLF.lookup i).getD []) Tryz.f179=some yxw.fn:=by kernel_rfl
def yRo:List (Nat×List Nat):=[(1,[2,3,5,6,7,8,9,10]),(0,[0,1,4])]
theorem yGE:yar Tryz.prog [9,2,3] (fun i=>(yRo.lookup i).getD []) Tryz.f144=some yFz.fn:=by kernel_rfl
def yNc:List (Nat×List Nat):=[(1,[0,3,4,5]),(0,[2])]
theorem yAs:yar Tryz.prog [] (fun i=>(yNc.lookup i).getD []) Tryz.f180=some yyY.fn:=by kernel_rfl
def yLo:List (Nat×List Nat):=[(13,[19]),(12,[19]),(11,[0,1,16,17,18]),(10,[0,1,16]),(9,[13,14,15]),(8,[0,1,13]),(7,[6,11]),(6,[12]),(5,[12]),(4,[0,1,6,11]),(3,[5]),(2,[9,10]),(1,[7,8]),(0,[4])]
theorem ywn:yar Tryz.prog [] (fun i=>(yLo.lookup i).getD []) Tryz.f145=some yvM.fn:=by kernel_rfl
def yT5:List (Nat×List Nat):=[(11,[0,1,48,49,50]),(10,[7,9,12,13,40,41,42,43,44,45,46,47]),(9,[6,35,36,37,38,39]),(8,[11,33,34]),(7,[31,32]),(6,[8,10,25,26,27,28,29,30]),(5,[22,23,24]),(4,[20,21]),(3,[18,19]),(2,[16,17]),(1,[14,15]),(0,[4,5])]
theorem yPv:yar Tryz.prog [] (fun i=>(yT5.lookup i).getD []) Tryz.f146=some yOM.fn:=by kernel_rfl
def yLG:List (Nat×List Nat):=[(1,[0,3,4,5]),(0,[2])]
theorem yyr:yar Tryz.prog [] (fun i=>(yLG.lookup i).getD []) Tryz.f181=some yxx.fn:=by kernel_rfl
def yJx:List (Nat×List Nat):=[(13,[19]),(12,[19]),(11,[0,1,16,17,18]),(10,[0,1,16]),(9,[13,14,15]),(8,[0,1,13]),(7,[6,11]),(6,[12]),(5,[12]),(4,[0,1,6,11]),(3,[5]),(2,[9,10]),(1,[7,8]),(0,[4])]
theorem yvk:yar Tryz.prog [] (fun i=>(yJx.lookup i).getD []) Tryz.f149=some ytW.fn:=by kernel_rfl
def yRM:List (Nat×List Nat):=[(8,[3,6,7,8,9,17]),(7,[5,14,16]),(6,[3,5,6,7,8,14,15]),(5,[12,13]),(4,[9,10,11]),(2,[0]),(0,[2])]
theorem yJo:yar Tryz.prog [] (fun i=>(yRM.lookup i).getD []) Tryz.f148=some yIj.fn:=by kernel_rfl
def ySR:List (Nat×List Nat):=[(11,[11,60,63]),(10,[60,61,62]),(9,[2,58,59]),(8,[7,8,9,10,50,51,52,53,54,55,56,57]),(7,[3,40,41,42,43,44,45,46,47,48,49]),(6,[24,30,31,32,33,34,35,36,37,38,39]),(5,[2,3,24,25,26,27,28,29]),(4,[6,16,18,19,20,21,22,23]),(3,[2,3,6,16,17]),(2,[15]),(1,[12,13,14]),(0,[0,1,4,5])]
theorem yLp:yar Tryz.prog [56,2,3] (fun i=>(ySR.lookup i).getD []) Tryz.f87=some yJ9.fn:=by kernel_rfl
def ySS:List (Nat×List Nat):=[(2,[5,13,14]),(1,[2,3,6,7,8,9,10,11,12]),(0,[0,1,4])]
theorem yLq:yar Tryz.prog [2,3] (fun i=>(ySS.lookup i).getD []) Tryz.f135=some yKa.fn:=by kernel_rfl
def yRN:List (Nat×List Nat):=[(1,[2,3,5,6,7,8,9,10,11,12,13,14,15,16,17,18,19,20]),(0,[0,1,4])]
theorem yJp:yar Tryz.prog [2,3] (fun i=>(yRN.lookup i).getD []) Tryz.f134=some yIk.fn:=by kernel_rfl
def yT6:List (Nat×List Nat):=[(10,[0,14,19,20,21,22,23,24]),(9,[17,18]),(8,[14,15,16]),(7,[8,13]),(6,[11,12]),(5,[8,9,10]),(4,[4,7]),(2,[2,4,5,6]),(1,[3])]
theorem yPw:yar Tryz.prog [] (fun i=>(yT6.lookup i).getD []) Tryz.f140=some yON.fn:=by kernel_rfl
def yLH:List (Nat×List Nat):=[(1,[0,3,4,5]),(0,[2])]
theorem yys:yar Tryz.prog [] (fun i=>(yLH.lookup i).getD []) Tryz.f199=some yxy.fn:=by kernel_rfl
def yT7:List (Nat×List Nat):=[(28,[2,8,9,10,14,15,16,17,18,113,120,121,122,123,124,125,126,127,128,129,130,131,132,133,134]),(27,[119]),(26,[116,117,118]),(25,[113,114,115]),(24,[102,103,104,105,106,107,108,109,110,111,112,120]),(23,[97,98,99,100,101]),(22,[94,95,96]),(21,[11,13,16,78,85,86,87,88,89,90,91,92,93]),(20,[84]),(19,[81,82,83]),(18,[78,79,80]),(17,[67,68,69,70,71,72,73,74,75,76,77,85]),(16,[62,63,64,65,66]),(15,[59,60,61]),(14,[12,57,58]),(13,[55,56]),(12,[1,52,53,54]),(11,[0,44,45,46,47,48,49,50,51]),(10,[42,43]),(9,[40,41]),(8,[37,38,39]),(7,[27,34,35,36]),(6,[0,1,2,27,28,29,30,31,32,33]),(5,[24,26]),(4,[24,25]),(3,[20,22,23]),(2,[20,21]),(1,[19]),(0,[6,7])]
theorem yPx:yar Tryz.prog [] (fun i=>(yT7.lookup i).getD []) Tryz.f173=some yOO.fn:=by kernel_rfl
def yT8:List (Nat×List Nat):=[(2,[8,18]),(1,[0,1,2,7,9,10,11,12,13,14,15,16,17]),(0,[6])]
theorem yPy:yar Tryz.prog [] (fun i=>(yT8.lookup i).getD []) Tryz.f172=some yOP.fn:=by kernel_rfl
def yST:List (Nat×List Nat):=[(26,[12,17,20,153,155,156,157,158,159,160]),(25,[12,17,20,153,154]),(24,[19,152]),(23,[2,3,7,16,138,139,140,141,142,143,144,145,146,147,148,149,150,151]),(22,[13,14,18,129,131,132,133,134,135,136,137]),(21,[2,3,7,12,13,14,16,129,130]),(20,[127,128]),(19,[119,121,122,123,124,125,126]),(18,[2,3,7,12,13,14,119,120]),(17,[114,115,116,117,118]),(16,[8,10,15,107,108,109,110,111,112,113]),(15,[9,11,94,101,102,103,104,105,106]),(14,[99,100]),(13,[94,95,96,97,98]),(12,[68,82,83,84,85,86,87,88,89,90,91,92,93]),(11,[8,10,15,75,76,77,78,79,80,81]),(10,[9,11,68,69,70,71,72,73,74]),(9,[62,63,64,65,66,67]),(8,[13,14,15]),(7,[59,60,61]),(6,[47,48,49,50,51,52,53,54,55,56,57,58]),(5,[35,36,37,38,39,40,41,42,43,44,45,46]),(4,[6,25,28,29,30,31,32,33,34]),(3,[2,3,6,25,26,27]),(2,[24]),(1,[21,22,23]),(0,[0,1,5])]
theorem yLr:yar Tryz.prog [2,3,4] (fun i=>(yST.lookup i).getD []) Tryz.f133=some yKb.fn:=by kernel_rfl
def ySU:List (Nat×List Nat):=[(5,[2,3,18,19,20,21,22]),(4,[6,11,14,15,16,17]),(3,[2,3,6,11,12,13]),(2,[10]),(1,[7,8,9]),(0,[0,1,5])]
theorem yLs:yar Tryz.prog [2,3,4] (fun i=>(ySU.lookup i).getD []) Tryz.f137=some yKc.fn:=by kernel_rfl
def ySV:List (Nat×List Nat):=[(10,[2,3,14,16,65,67,68,69,70,71,72,73,74,75,76,77,78,79,80,81,82]),(9,[2,3,14,16,65,66]),(8,[13,15,62,63,64]),(7,[8,10,11,12,52,53,54,55,56,57,58,59,60,61]),(6,[7,9,42,43,44,45,46,47,48,49,50,51]),(5,[36,37,38,39,40,41]),(4,[6,21,24,25,26,27,28,29,30,31,32,33,34,35]),(3,[2,3,6,21,22,23]),(2,[20]),(1,[17,18,19]),(0,[0,1,5])]
theorem yLt:yar Tryz.prog [2,3,4] (fun i=>(ySV.lookup i).getD []) Tryz.f138=some yKd.fn:=by kernel_rfl
def ySW:List (Nat×List Nat):=[(8,[2,3,19,34,35,36,37,38,39,40,41,42]),(7,[2,3,19,23,24,25,26,27,28,29,30,31,32,33]),(6,[14,20,21,22]),(5,[2,3,14,18]),(4,[6,11,15,16,17]),(3,[2,3,6,11,12,13]),(2,[10]),(1,[7,8,9]),(0,[0,1,5])]
theorem yLu:yar Tryz.prog [2,3,4] (fun i=>(ySW.lookup i).getD []) Tryz.f116=some yKe.fn:=by kernel_rfl
def yRp:List (Nat×List Nat):=[(12,[5,6,7,14,15,41,48]),(11,[6,7,14,41,42,43,44,45,46,47]),(10,[40]),(9,[3,4,9,20,33,34,35,36,37,38,39]),(8,[5,13,29,31,32]),(7,[5,29,30]),(6,[28]),(5,[4,12,27]),(4,[3,6,7,9,20,21,22,23,24,25,26]),(3,[17,18,19]),(2,[3,4,5,6,7,9,17]),(1,[16]),(0,[0,1,2,8,11])]
theorem yGF:yar Tryz.prog [7,8,9,12,14] (fun i=>(yRp.lookup i).getD []) Tryz.f195=some ywB.fn:=by kernel_rfl
def ySX:List (Nat×List Nat):=[(18,[2,3,4,14,15,16,17]),(17,[8,9,31,61]),(16,[9,59,60]),(15,[2,3,4,9,14,15,16,59]),(14,[8,10,12,34,52,54,55,56,57,58]),(13,[2,3,4,8,9,10,12,14,15,16,52,53]),(12,[51]),(11,[11,42,44,45,46,47,48,49,50]),(10,[2,3,4,8,9,10,11,12,14,15,16,42,43]),(9,[41]),(8,[34,35,36,37,38,39,40]),(7,[33]),(6,[31,32]),(5,[28,29,30]),(4,[7,21,22,23,24,25,26,27]),(3,[17,18,19,20]),(1,[13]),(0,[0,1,6])]
theorem yLv:yar Tryz.prog [3,4,9,10,11] (fun i=>(ySX.lookup i).getD []) Tryz.f194=some yKf.fn:=by kernel_rfl
def ySY:List (Nat×List Nat):=[(15,[9,10,45,48]),(14,[9,10,45,46,47]),(13,[11,42,44]),(12,[11,42,43]),(11,[41]),(10,[3,4,5,37,38,39,40]),(8,[35]),(7,[3,4,5,35,36]),(6,[31,33,34]),(5,[3,4,5,31,32]),(4,[8,15,18,19,20,21,22,23,24,25,26,27,28,29,30]),(3,[3,4,5,8,15,16,17]),(2,[14]),(1,[12,13]),(0,[0,1,2,7])]
theorem yLw:yar Tryz.prog [3,4,6] (fun i=>(ySY.lookup i).getD []) Tryz.f159=some yKg.fn:=by kernel_rfl
def yNd:List (Nat×List Nat):=[(1,[1,4,6,7,10,11,12,13,14,15,16,17,18,19,20]),(0,[0,2,3,9])]
theorem yAt:yar Tryz.prog [4,6,7,8] (fun i=>(yNd.lookup i).getD []) Tryz.f109=some yyZ.fn:=by kernel_rfl
def yOk:List (Nat×List Nat):=[(1,[1,2,5,6,7,8,9,10,11,12,13,14]),(0,[0,4])]
theorem yBC:yar Tryz.prog [2] (fun i=>(yOk.lookup i).getD []) Tryz.f110=some yAR.fn:=by kernel_rfl
def yOl:List (Nat×List Nat):=[(13,[3,4,10,12,59,60,61,62,63,64,65,66,67,68,69,70,71,72]),(12,[53,54,55,56,57,58]),(11,[48,51,52]),(10,[3,4,10,48,49,50]),(9,[11,40,44,45,46,47]),(8,[3,4,10,11,40,41,42,43]),(7,[39]),(6,[2,25,28,29,30,31,32,33,34,35,36,37,38]),(5,[2,3,4,25,26,27]),(4,[9,17,21,22,23,24]),(3,[2,3,4,9,17,18,19,20]),(2,[16]),(1,[13,14,15]),(0,[0,1,8])]
theorem yBD:yar Tryz.prog [69,3,4,6,7,10] (fun i=>(yOl.lookup i).getD []) Tryz.f163=some yAS.fn:=by kernel_rfl
def yTl:List (Nat×List Nat):=[(2,[1,6,7,11,14,15,16,17,18,19,20,21,22,23,24]),(1,[4,12,13]),(0,[0,2,3,10])]
theorem yNe:yar Tryz.prog [4,6,7,8,9,11] (fun i=>(yTl.lookup i).getD []) Tryz.f105=some yMi.fn:=by kernel_rfl
def yRO:List (Nat×List Nat):=[(2,[5,13,14]),(1,[2,3,6,7,8,9,10,11,12]),(0,[0,1,4])]
theorem yJq:yar Tryz.prog [2,3] (fun i=>(yRO.lookup i).getD []) Tryz.f107=some yIl.fn:=by kernel_rfl
def yRq:List (Nat×List Nat):=[(30,[6,7,125,126,127,128,129,130,131,132,133]),(29,[0,9,47,111,112,113,114,115,116,117,118,119,120,121,122,123,124]),(28,[11,110]),(27,[10,102,103,104,105,106,107,108,109]),(26,[17,98,99,100,101]),(25,[90,91,92,93,94,95,96,97]),(24,[49,50,51,52,86,87,88,89]),(23,[12,15,82,85]),(22,[12,15,82,83,84]),(21,[76,77,78,79,80,81]),(20,[14,16,72,75]),(19,[0,6,7,9,10,11,12,14,15,16,49,50,51,72,73,74]),(18,[71]),(17,[13,56,57,58,59,60,61,62,63,64,65,66,67,68,69,70]),(16,[52,53,54,55]),(13,[47,48]),(12,[45,46]),(11,[44]),(10,[31,32,33,40,41,42,43]),(9,[39]),(8,[8,35,36,37,38]),(7,[33,34]),(5,[30]),(4,[5,24,27,28,29]),(3,[0,6,24,25,26]),(2,[23]),(1,[18,19,20,21,22]),(0,[4,5])]
theorem yGG:yar Tryz.prog [37,96,100,123,130,2,6,9,11,14,15] (fun i=>(yRq.lookup i).getD []) Tryz.f41=some yFA.fn:=by kernel_rfl
def yT9:List (Nat×List Nat):=[(1,[2,3,4,5,6,7])]
theorem yPz:yar Tryz.prog [2,3,5,6,0,1] (fun i=>(yT9.lookup i).getD []) Tryz.f100=some yOQ.fn:=by kernel_rfl
def yUf:List (Nat×List Nat):=[(1,[0,3,4])]
theorem yRr:yar Tryz.prog [2] (fun i=>(yUf.lookup i).getD []) Tryz.f38=some yQl.fn:=by kernel_rfl
def yUg:List (Nat×List Nat):=[(1,[0,3,4])]
theorem yRs:yar Tryz.prog [2] (fun i=>(yUg.lookup i).getD []) Tryz.f43=some yQm.fn:=by kernel_rfl
def yRt:List (Nat×List Nat):=[(4,[2,3,6,10,13,14,15,16,17,18,19]),(3,[2,3,6,10,11,12]),(2,[9]),(1,[7,8]),(0,[0,1,5])]
theorem yGH:yar Tryz.prog [2,3,4] (fun i=>(yRt.lookup i).getD []) Tryz.f101=some yRD.fn:=by kernel_rfl
def yRP:List (Nat×List Nat):=[(28,[3,5,9,10,42,43,44,45,105]),(27,[13,70,104]),(26,[13,15,100,103]),(25,[3,5,9,10,13,15,42,43,44,100,101,102]),(24,[99]),(23,[16,90,93,94,95,96,97,98]),(22,[3,5,9,10,13,15,16,42,43,44,90,91,92]),(21,[89]),(20,[12,14,79,82,83,84,85,86,87,88]),(19,[3,5,9,10,12,13,14,15,42,43,44,79,80,81]),(18,[78]),(17,[67,72,73,74,75,76,77]),(16,[13,70,71]),(15,[12,67,68,69]),(14,[58,60,61,62,63,64,65,66]),(13,[58,59]),(12,[56,57]),(11,[11,49,50,51,52,53,54,55]),(10,[45,46,47,48]),(8,[41]),(7,[4,40]),(6,[37,39]),(5,[3,4,5,37,38]),(4,[8,20,23,24,25,26,27,28,29,30,31,32,33,34,35,36]),(3,[3,4,5,8,20,21,22]),(2,[19]),(1,[17,18]),(0,[0,1,2,7])]
theorem yJr:yar Tryz.prog [3,4,5,6,9,10,13,14,16] (fun i=>(yRP.lookup i).getD []) Tryz.f60=some yIm.fn:=by kernel_rfl
def ySZ:List (Nat×List Nat):=[(10,[4,10,11,39,42,43,44,45,46,47]),(9,[4,10,11,39,40,41]),(8,[38]),(7,[5,9,28,31,32,33,34,35,36,37]),(6,[4,5,9,10,28,29,30]),(5,[27]),(4,[3,8,18,21,22,23,24,25,26]),(3,[3,4,5,8,18,19,20]),(2,[17]),(1,[12,13,14,15,16]),(0,[0,1,2,7])]
theorem yLx:yar Tryz.prog [14,3,4,5,6,9,11] (fun i=>(ySZ.lookup i).getD []) Tryz.f102=some yTa.fn:=by kernel_rfl
def yRQ:List (Nat×List Nat):=[(7,[2,3,8,9,10,11,21,22,23]),(6,[6,17,20]),(5,[2,3,6,8,9,10,17,18,19]),(4,[14,15,16]),(3,[11,12,13]),(1,[7]),(0,[0,1])]
theorem yJs:yar Tryz.prog [2,3,4] (fun i=>(yRQ.lookup i).getD []) Tryz.f161=some ySj.fn:=by kernel_rfl
def yPI:List (Nat×List Nat):=[(3,[2,3,7,9]),(2,[2,3,7,8]),(1,[5,6]),(0,[0,1])]
theorem yFr:yar Tryz.prog [2,3,4] (fun i=>(yPI.lookup i).getD []) Tryz.f160=some yQn.fn:=by kernel_rfl
def yRu:List (Nat×List Nat):=[(4,[7,30]),(3,[2,5,8,23,24,25,26,27,28,29]),(2,[16,17,18,19,20,21,22]),(1,[3,6,9,10,11,12,13,14,15]),(0,[0,1])]
theorem yGI:yar Tryz.prog [2,3,4,5,7] (fun i=>(yRu.lookup i).getD []) Tryz.f162=some yRE.fn:=by kernel_rfl
def yRR:List (Nat×List Nat):=[(27,[14,16,17,117,148]),(26,[25,142,143,144,145,146,147]),(25,[21,23,26,136,137,138,139,140,141]),(24,[16,24,130,131,132,133,134,135]),(23,[14,19,22,124,125,126,127,128,129]),(22,[17,20,117,118,119,120,121,122,123]),(21,[100,101,102,103,104,105,106,107,108,109,110,111,112,113,114,115,116]),(20,[18,93,94,95,96,97,98,99]),(19,[12,72,76,77,78,79,80,81,82,83,84,85,86,87,88,89,90,91,92]),(18,[2,3,11,12,14,72,73,74,75]),(17,[70,71]),(16,[15,63,64,65,66,67,68,69]),(15,[13,57,58,59,60,61,62]),(14,[38,39,40,41,56]),(13,[45,46,47,48,55]),(12,[52,54]),(11,[2,3,38,39,40,45,46,47,52,53]),(10,[10,51]),(9,[48,49,50]),(7,[8,44]),(6,[41,42,43]),(4,[6,33,36,37]),(3,[2,3,6,33,34,35]),(2,[32]),(1,[27,28,29,30,31]),(0,[0,1,5])]
theorem yJt:yar Tryz.prog [29,2,3,4,8,11,12,14,16,17,19,21,23,25] (fun i=>(yRR.lookup i).getD []) Tryz.f103=some ySk.fn:=by kernel_rfl
def yTm:List (Nat×List Nat):=[(8,[0,1,5,14]),(5,[15,16,25]),(7,[0,1,5,25]),(6,[14,17,18,19,20,21,22,23,24]),(4,[11,12,13]),(3,[10]),(2,[0,1,10]),(1,[6,7,8,9]),(0,[4])]
theorem yNf:yar Tryz.prog [] (fun i=>(yTm.lookup i).getD []) Tryz.f85=some yMk.fn:=by kernel_rfl
def yTn:List (Nat×List Nat):=[(8,[0,1,5,14]),(5,[15,16,25]),(7,[0,1,5,25]),(6,[14,17,18,19,20,21,22,23,24]),(4,[11,12,13]),(3,[10]),(2,[0,1,10]),(1,[6,7,8,9]),(0,[4])]
theorem yNg:yar Tryz.prog [] (fun i=>(yTn.lookup i).getD []) Tryz.f80=some yMl.fn:=by kernel_rfl
def yTo:List (Nat×List Nat):=[(8,[2,3,5,17]),(5,[18,19,31]),(7,[2,3,5,31]),(6,[17,20,21,22,23,24,25,26,27,28,29,30]),(4,[13,14,15,16]),(3,[12]),(2,[2,3,12]),(1,[6,7,8,9,10,11]),(0,[0,1,4])]
theorem yNh:yar Tryz.prog [2,3] (fun i=>(yTo.lookup i).getD []) Tryz.f28=some yMm.fn:=by kernel_rfl
def yS0:List (Nat×List Nat):=[(8,[1,2,3,4,5,6,9,10,11,12,13,14,15,16,56,57,58,59,60,61,62,63,64,65,66,67,68,69,70,71,72,73,74,75,76,77,78,79,80,81,82,83,84,85,86,87,88,89,90,91,92,93,94,95,96,97,98,99,100,101,102,103,104,105,106,107,108,109,110,111,112,113,114,115,116,117,118,119,120,121,122,123]),(7,[7,8,50,51,52,53,54,55]),(6,[43,44,45,46,47,48,49]),(5,[36,37,38,39,40,41,42]),(4,[30,31,32,33,34,35]),(3,[26,27,28,29]),(2,[24,25]),(1,[17,18,19,20,21,22,23]),(0,[0])]
theorem yLy:yar Tryz.prog [60,73,77,81,82,1,5,6,7,8,9,11,13,15] (fun i=>(yS0.lookup i).getD []) Tryz.f40=some yKh.fn:=by kernel_rfl
def yLI:List (Nat×List Nat):=[(1,[1,4,6,7,10,11,12,13,14,15,16,17,18,19,20]),(0,[0,2,3,9])]
theorem yyt:yar Tryz.prog [4,6,7,8] (fun i=>(yLI.lookup i).getD []) Tryz.f108=some yxz.fn:=by kernel_rfl
def yRS:List (Nat×List Nat):=[(17,[1,6,25,26,27,28,76,77]),(16,[8,73,75]),(15,[1,6,8,25,26,27,73,74]),(14,[9,11,12,66,67,68,69,70,71,72]),(13,[10,53,55,56,57,58,59,60,61,62,63,64,65]),(12,[1,6,8,9,10,25,26,27,53,54]),(11,[36,39,40,41,42,43,44,45,46,47,48,49,50,51,52]),(10,[36,37,38]),(9,[34,35]),(8,[32,33]),(7,[28,29,30,31]),(5,[7,21,23,24]),(4,[1,6,7,21,22]),(3,[20]),(2,[17,18,19]),(1,[0,13,14,15,16]),(0,[4,5])]
theorem yJu:yar Tryz.prog [6,9,11] (fun i=>(yRS.lookup i).getD []) Tryz.f42=some yIn.fn:=by kernel_rfl
def yRv:List (Nat×List Nat):=[(2,[3,4,13,14,15,16,17,18]),(1,[1,5,6,7,8,9,10,11,12]),(0,[0,2])]
theorem yGJ:yar Tryz.prog [1] (fun i=>(yRv.lookup i).getD []) Tryz.f66=some yFB.fn:=by kernel_rfl
def yS1:List (Nat×List Nat):=[(9,[8,9,10,11]),(8,[16,17]),(7,[8,9,10,16]),(6,[4,14,15]),(5,[11,12,13]),(3,[0,7]),(2,[0,7]),(1,[5,6]),(0,[2])]
theorem yLz:yar Tryz.prog [4] (fun i=>(yS1.lookup i).getD []) Tryz.f132=some yKi.fn:=by kernel_rfl
def yRw:List (Nat×List Nat):=[(2,[5,13]),(1,[2,3,6,7,8,9,10,11,12]),(0,[0,1,4])]
theorem yGK:yar Tryz.prog [2,3] (fun i=>(yRw.lookup i).getD []) Tryz.f57=some yFC.fn:=by kernel_rfl
def yRx:List (Nat×List Nat):=[(9,[0,4,13]),(6,[14,15,28]),(8,[0,4,28]),(7,[13,16,17,18,19,20,21,22,23,24,25,26,27]),(5,[10,11,12]),(4,[3,8]),(3,[0,3,8,9]),(2,[7]),(1,[5,6]),(0,[2])]
theorem yGL:yar Tryz.prog [] (fun i=>(yRx.lookup i).getD []) Tryz.f56=some yFD.fn:=by kernel_rfl
def yRy:List (Nat×List Nat):=[(1,[0,3,4])]
theorem yGM:yar Tryz.prog [2,1000002] (fun i=>(yRy.lookup i).getD []) Tryz.f117=some yFE.fn:=by kernel_rfl
def yRT:List (Nat×List Nat):=[(2,[5,13,14]),(1,[2,3,6,7,8,9,10,11,12]),(0,[0,1,4])]
theorem yJv:yar Tryz.prog [2,3,1000002,1000003] (fun i=>(yRT.lookup i).getD []) Tryz.f123=some yIo.fn:=by kernel_rfl
def yRz:List (Nat×List Nat):=[(20,[0,38,39,40,41]),(19,[69,70]),(18,[0,38,39,40,69]),(17,[10,11,46,47,48,49,50,51,52,53,54,55,56,57,58,59,60,61,62,63,64,65,66,67,68]),(16,[44,45]),(15,[41,42,43]),(13,[3,25,26,27,28,37]),(12,[8,34,36]),(11,[0,3,8,25,26,27,34,35]),(10,[33]),(9,[7,31,32]),(8,[28,29,30]),(6,[23,24]),(5,[0,3,23]),(4,[5,16,18,19,20,21,22]),(3,[0,3,5,16,17]),(2,[15]),(1,[12,13,14]),(0,[1,4])]
theorem yGN:yar Tryz.prog [3,1000003] (fun i=>(yRz.lookup i).getD []) Tryz.f61=some yFF.fn:=by kernel_rfl
def yPA:List (Nat×List Nat):=[(1,[1,2,5,6,7,8,9,10,11,12]),(0,[0,4])]
theorem yC0:yar Tryz.prog [2,3] (fun i=>(yPA.lookup i).getD []) Tryz.f59=some ytg.fn:=by kernel_rfl
def yS2:List (Nat×List Nat):=[(12,[1,6,12,13,14,15,39]),(11,[10,35,38]),(10,[1,6,10,12,13,14,35,36,37]),(9,[34]),(8,[9,25,28,29,30,31,32,33]),(7,[1,6,9,10,12,13,14,25,26,27]),(6,[24]),(5,[8,18,19,20,21,22,23]),(4,[15,16,17]),(2,[0]),(1,[11]),(0,[5])]
theorem yLA:yar Tryz.prog [4,6,8,9] (fun i=>(yS2.lookup i).getD []) Tryz.f58=some yKj.fn:=by kernel_rfl
def yRA:List (Nat×List Nat):=[(10,[1,2,45,47,48,49,50,51]),(9,[1,2,45,46]),(8,[8,23,24,25,26,27,28,29,30,31,32,33,34,35,36,37,38,39,40,41,42,43,44]),(7,[7,18,21,22]),(6,[1,2,7,18,19,20]),(5,[17]),(4,[6,12,15,16]),(3,[1,2,6,12,13,14]),(2,[11]),(1,[9,10]),(0,[0,5])]
theorem yGO:yar Tryz.prog [4] (fun i=>(yRA.lookup i).getD []) Tryz.f13=some yFG.fn:=by kernel_rfl
def yRB:List (Nat×List Nat):=[(17,[3,7,23,24,25,26,58]),(16,[8,9,31,32,33,34,57]),(15,[56]),(14,[12,13,44,46,47,48,49,50,51,52,53,54,55]),(13,[3,7,8,9,12,13,23,24,25,31,32,33,44,45]),(12,[43]),(11,[11,37,38,39,40,41,42]),(10,[34,35,36]),(8,[30]),(7,[26,27,28,29]),(5,[0]),(4,[6,18,20,21,22]),(3,[0,3,6,18,19]),(2,[17]),(1,[14,15,16]),(0,[1,4,5])]
theorem yGP:yar Tryz.prog [53,3,9,12,1000003,1000022,1000009,1000012] (fun i=>(yRB.lookup i).getD []) Tryz.f15=some ywC.fn:=by kernel_rfl
def yOm:List (Nat×List Nat):=[(4,[0,3,6,7,15,17,18,19,20,21,22]),(3,[0,3,6,7,15,16]),(2,[14]),(1,[8,9,10,11,12,13]),(0,[1,4,5])]
theorem yBE:yar Tryz.prog [3,1000003,1000022] (fun i=>(yOm.lookup i).getD []) Tryz.f51=some yiO.fn:=by kernel_rfl
def yLJ:List (Nat×List Nat):=[(10,[0,12,13,14]),(9,[56]),(8,[6,7,44,46,47,48,49,50,51,52,53,54,55]),(7,[0,6,7,12,13,44,45]),(6,[43]),(5,[3,4,27,28,29,30,31,32,33,34,35,36,37,38,39,40,41,42]),(4,[5,16,17,18,19,20,21,22,23,24,25,26]),(3,[14,15]),(1,[8,9,10,11]),(0,[2])]
theorem yyu:yar Tryz.prog [52,6] (fun i=>(yLJ.lookup i).getD []) Tryz.f52=some ypp.fn:=by kernel_rfl
def yNi:List (Nat×List Nat):=[(1,[1,2,4,5,6,7,8,9,10,11,12,13,14,15]),(0,[0,3])]
theorem yAu:yar Tryz.prog [2,1000002] (fun i=>(yNi.lookup i).getD []) Tryz.f166=some yql.fn:=by kernel_rfl
def yAv:List (Nat×List Nat):=[(7,[0,1,7,8,9]),(6,[5,16,18]),(5,[0,1,5,7,8,16,17]),(4,[11,12,13,14,15]),(3,[9,10]),(1,[6]),(0,[4])]
theorem ylz:yar Tryz.prog [] (fun i=>(yAv.lookup i).getD []) Tryz.f196=some ygA.fn:=by kernel_rfl
def yxb:List (Nat×List Nat):=[(1,[0,1,5,6,7,8]),(0,[4])]
theorem ykl:yar Tryz.prog [] (fun i=>(yxb.lookup i).getD []) Tryz.f164=some ycn.fn:=by kernel_rfl
def yPB:List (Nat×List Nat):=[(1,[1,2,4,5,6]),(0,[0,3])]
theorem yC1:yar Tryz.prog [1000002] (fun i=>(yPB.lookup i).getD []) Tryz.f165=some yCn.fn:=by kernel_rfl
def yRC:List (Nat×List Nat):=[(1,[0,3,5,6,7]),(0,[1,4])]
theorem yGQ:yar Tryz.prog [1000003] (fun i=>(yRC.lookup i).getD []) Tryz.f120=some yFH.fn:=by kernel_rfl
def yHN:List (Nat×List Nat):=[(1,[0,1,2,6,7,8,9,10,11,12,13,14,15,16,17,18,19,20,21,22,23,24,25]),(0,[5])]
theorem ys4:yar Tryz.prog [] (fun i=>(yHN.lookup i).getD []) Tryz.f119=some ykQ.fn:=by kernel_rfl
def yLB:List (Nat×List Nat):=[(11,[0,1,13,14,15]),(10,[7,21,22,23,32]),(9,[8,28,31]),(8,[0,1,7,8,13,14,21,22,28,29,30]),(7,[25,26,27]),(6,[23,24]),(4,[17,18,19,20]),(3,[15,16]),(1,[9,10,11,12]),(0,[4,5,6])]
theorem ywo:yar Tryz.prog [] (fun i=>(yLB.lookup i).getD []) Tryz.f118=some yvN.fn:=by kernel_rfl
def yDi:List (Nat×List Nat):=[(6,[0,1,16,26]),(5,[1,16,17,18,19,20,21,22,23,24,25]),(4,[15]),(3,[6,8,9,10,11,12,13,14]),(2,[6,7]),(1,[5]),(0,[4])]
theorem yp9:yar Tryz.prog [] (fun i=>(yDi.lookup i).getD []) Tryz.f197=some yil.fn:=by kernel_rfl
def yCh:List (Nat×List Nat):=[(15,[6,25,26,27,28,35]),(14,[34]),(13,[8,31,32,33]),(12,[28,29,30]),(10,[0]),(9,[3,9,10,11,12,23,24]),(8,[20,22]),(7,[20,21]),(6,[19]),(5,[5,15,16,17,18]),(4,[12,13,14]),(0,[2])]
theorem ynT:yar Tryz.prog [] (fun i=>(yCh.lookup i).getD []) Tryz.f167=some ynx.fn:=by kernel_rfl
def yUa:List (Nat×List Nat):=[(7,[0,8,13,14,15,16,17,18]),(6,[11,12]),(5,[8,9,10]),(4,[4,7]),(2,[2,4,5,6]),(1,[3])]
theorem yPC:yar Tryz.prog [] (fun i=>(yUa.lookup i).getD []) Tryz.f139=some yUe.fn:=by kernel_rfl
def yU2:List (Nat×List Nat):=[(2,[0,6,7]),(1,[0,3,4,5]),(0,[2])]
theorem yS3:yar Tryz.prog [] (fun i=>(yU2.lookup i).getD []) Tryz.f75=some yU6.fn:=by kernel_rfl
def ytH:List (Nat×List Nat):=[(2,[9,15,16,34]),(5,[35,36]),(6,[34,37,38,39,40,41,42,43,44,45,46,47,48,49,50,51,52]),(4,[18,19,20,21,22,23,24,25,26,27,28,29,30,31,32,33]),(3,[14,17]),(1,[12,13]),(0,[10,11])]
theorem yiI:yar Tryz.prog [] (fun i=>(ytH.lookup i).getD []) Tryz.f209=some ytX.fn:=by kernel_rfl
def yyv:List (Nat×List Nat):=[(30,[16,147]),(29,[2,140,141,142,143,144,145,146]),(28,[18,19,20,125,137,138,139]),(27,[16,135,136]),(26,[1,129,130,131,132,133,134]),(25,[18,19,20,125,126,127,128]),(24,[123,124]),(23,[12,121,122]),(22,[115,116,117,118,119,120]),(21,[17,114]),(20,[10,11,13,97,105,106,107,108,109,110,111,112,113]),(19,[15,104]),(18,[1,12,13,97,98,99,100,101,102,103]),(17,[75,80,81,82,83,84,85,86,87,88,89,90,91,92,93,94,95,96]),(16,[75,76,77,78,79]),(15,[14,56,68,69,70,71,72,73,74]),(13,[62,63,64,65,66,67]),(12,[14,56,57,58,59,60,61]),(11,[55]),(10,[39,47,48,49,50,51,52,53,54]),(9,[45,46]),(8,[39,40,41,42,43,44]),(7,[32,38]),(6,[0,1,2,3,4,10,11,12,32,33,34,35,36,37]),(5,[25,31]),(4,[0,1,2,3,4,10,11,12,25,26,27,28,29,30]),(3,[24]),(2,[21,22,23])]
theorem ylx:yar Tryz.prog [] (fun i=>(yyv.lookup i).getD []) Tryz.f198=some yy0.fn:=by kernel_rfl
def yAx:List (Nat×List Nat):=[(1,[0,1,4,7,8,9,10,11,12,13]),(0,[5,6])]
theorem ymG:yar Tryz.prog [] (fun i=>(yAx.lookup i).getD []) Tryz.f168=some yAT.fn:=by kernel_rfl
def yLC:List (Nat×List Nat):=[(2,[5,15]),(1,[2,3,6,7,8,9,10,11,12,13,14]),(0,[0,1,4])]
theorem ywp:yar Tryz.prog [2,3] (fun i=>(yLC.lookup i).getD []) Tryz.f169=some yvO.fn:=by kernel_rfl
def yNj:List (Nat×List Nat):=[(12,[0,4,15,16,17,18,32,33,34,35,36,37,38,39,40,41]),(11,[6,28,31]),(10,[6,28,29,30]),(9,[24,25,26,27]),(8,[0,4,6,15,16,17,24]),(7,[21,22,23]),(6,[18,19,20]),(4,[3]),(3,[14]),(2,[12,13]),(1,[7,8,9,10,11]),(0,[2])]
theorem yAw:yar Tryz.prog [4,6] (fun i=>(yNj.lookup i).getD []) Tryz.f121=some yy1.fn:=by kernel_rfl
def yHO:List (Nat×List Nat):=[(3,[0,1,2,8,31,32,33,34,35,36,37,38,39,40,41,42,43,44,45,46,47]),(2,[6,9,21,22,23,24,25,26,27,28,29,30]),(1,[7,10,11,12,13,14,15,16,17,18,19,20]),(0,[5])]
theorem ys5:yar Tryz.prog [8] (fun i=>(yHO.lookup i).getD []) Tryz.f122=some ykR.fn:=by kernel_rfl
def yHP:List (Nat×List Nat):=[(1,[0,1,2,6,7,8,9,10,11,12,13,14,15,16,17,18,19,20,21,22,23,24,25,26]),(0,[5])]
theorem ys6:yar Tryz.prog [] (fun i=>(yHP.lookup i).getD []) Tryz.f124=some ykS.fn:=by kernel_rfl
def yHQ:List (Nat×List Nat):=[(1,[0,1,2,6,7,8,9,10,11,12,13,14,15,16,17,18,19,20,21,22,23]),(0,[5])]
theorem ys7:yar Tryz.prog [] (fun i=>(yHQ.lookup i).getD []) Tryz.f125=some ykT.fn:=by kernel_rfl
def yHR:List (Nat×List Nat):=[(1,[0,1,2,6,7,8,9,10,11,12,13,14,15,16,17,18,19]),(0,[5])]
theorem ys8:yar Tryz.prog [] (fun i=>(yHR.lookup i).getD []) Tryz.f126=some ykU.fn:=by kernel_rfl
def yJy:List (Nat×List Nat):=[(13,[2,45,53,54,55,56,57,58]),(12,[2,45,47,48,49,50,51,52]),(11,[10,37,46]),(10,[2,10,37,39,40,41,42,43,44]),(9,[29,38]),(8,[2,10,29,31,32,33,34,35,36]),(7,[11,30]),(6,[7,8,9,25,26,27,28]),(5,[7,8,9,25]),(4,[2,20,21,22,23,24]),(3,[10,11,13,14,15,16,17,18,19]),(2,[12]),(1,[1]),(0,[0,4,5,6])]
theorem yvl:yar Tryz.prog [] (fun i=>(yJy.lookup i).getD []) Tryz.f53=some ytY.fn:=by kernel_rfl
def yRU:List (Nat×List Nat):=[(14,[6,8,32,33,52]),(13,[9,44,51]),(12,[9,44,45,46,47,48,49,50]),(11,[12,43]),(10,[10,11,35,36,37,38,39,40,41,42]),(9,[33,34]),(6,[7,24,27,28,29,30,31]),(5,[6,7,24,25,26]),(4,[20,23]),(3,[20,21,22]),(2,[19]),(1,[0,3,13,14,15,16,17,18]),(0,[1,5])]
theorem yJw:yar Tryz.prog [3,4,8,1000003,1000004,1000008] (fun i=>(yRU.lookup i).getD []) Tryz.f11=some yIp.fn:=by kernel_rfl
def ynU:List (Nat×List Nat):=[(10,[1,2,15,16,17,18]),(9,[30,31]),(8,[1,2,15,16,17,30]),(7,[8,9,26,27,28,29]),(6,[7,22,23,24,25]),(5,[18,19,20,21]),(3,[0,14]),(2,[0,1,2,14]),(1,[10,11,12,13]),(0,[6])]
theorem yfh:yar Tryz.prog [] (fun i=>(ynU.lookup i).getD []) Tryz.f72=some yfd.fn:=by kernel_rfl
def yBF:List (Nat×List Nat):=[(9,[0,1,12,13,14]),(8,[24,25]),(7,[0,1,12,13,24]),(6,[5,16,17,18,19,20,21,22,23]),(5,[14,15]),(3,[10,11]),(2,[0,1,10]),(1,[6,7,8,9]),(0,[4])]
theorem ynp:yar Tryz.prog [] (fun i=>(yBF.lookup i).getD []) Tryz.f73=some yne.fn:=by kernel_rfl
def yPJ:List (Nat×List Nat):=[(18,[5,8,46,47]),(17,[11,54,63,64]),(16,[5,8,46,63]),(15,[14]),(14,[11,12,13,54,55,56,57,58,59,60,61,62]),(13,[49,50,51,52,53]),(12,[47,48]),(10,[10,40,44]),(9,[5,8,10,44,45]),(8,[43]),(7,[40,41,42]),(6,[36,37,38,39]),(5,[5,8,36]),(4,[9,22,24,25,26,27,28,29,30,31,32,33,34,35]),(3,[5,8,9,22,23]),(2,[21]),(1,[0,4,15,16,17,18,19,20]),(0,[1,2,6,7])]
theorem yFs:yar Tryz.prog [4,5,1000004,1000005] (fun i=>(yPJ.lookup i).getD []) Tryz.f21=some yDZ.fn:=by kernel_rfl
def yS4:List (Nat×List Nat):=[(6,[1,3,4,9,32]),(4,[10,11]),(5,[9,12,13,14,15,16,17,18,19,20,21,22,23,24,25,26,27,28,29,30,31]),(3,[5,6,7,8]),(0,[0,2])]
theorem yLD:yar Tryz.prog [1] (fun i=>(yS4.lookup i).getD []) Tryz.f112=some yKk.fn:=by kernel_rfl
def yUb:List (Nat×List Nat):=[(3,[0,4,10,11]),(2,[0,4,5,6,7,8,9]),(1,[3]),(0,[2])]
theorem yPD:yar Tryz.prog [] (fun i=>(yUb.lookup i).getD []) Tryz.f70=some yOU.fn:=by kernel_rfl
def yUc:List (Nat×List Nat):=[(3,[0,1,6,11]),(2,[6,7,8,9,10]),(1,[5]),(0,[4])]
theorem yPE:yar Tryz.prog [] (fun i=>(yUc.lookup i).getD []) Tryz.f94=some yOV.fn:=by kernel_rfl
def yTp:List (Nat×List Nat):=[(6,[8,35,40]),(5,[35,36,37,38,39]),(4,[0]),(3,[4,5,26,28,29,30,31,32,33,34]),(2,[0,4,5,26,27]),(1,[9,10,11,12,13,14,15,16,17,18,19,20,21,22,23,24,25]),(0,[1,2,7])]
theorem yNk:yar Tryz.prog [4,5,6,8] (fun i=>(yTp.lookup i).getD []) Tryz.f98=some yMq.fn:=by kernel_rfl
def yTq:List (Nat×List Nat):=[(5,[0,1,6,7,8,19,20,21,22,23,24,25,26,27,28,29,30,31,32,33,34]),(4,[16,17,18]),(3,[10,12,13,14,15]),(2,[0,1,10,11]),(1,[9]),(0,[5])]
theorem yNl:yar Tryz.prog [4] (fun i=>(yTq.lookup i).getD []) Tryz.f111=some yMr.fn:=by kernel_rfl
def yS5:List (Nat×List Nat):=[(2,[5,20]),(1,[1,2,6,7,8,9,10,11,12,13,14,15,16,17,18,19]),(0,[0])]
theorem yLE:yar Tryz.prog [2,4,5] (fun i=>(yS5.lookup i).getD []) Tryz.f44=some yKl.fn:=by kernel_rfl
def yPF:List (Nat×List Nat):=[(20,[0,3,4,9,13,14,108,206]),(14,[109,110,205]),(19,[0,3,4,9,13,14,205]),(18,[177,178,179,180,181,182,183,184,185,186,187,188,189,190,191,192,193,194,195,196,197,198,199,200,201,202,203,204]),(17,[165,166,167,168,169,170,171,172,173,174,175,176]),(16,[0,3,4,9,13,14,165]),(15,[108,111,112,113,114,115,116,117,118,119,120,121,122,123,124,125,126,127,128,129,130,131,132,133,134,135,136,137,138,139,140,141,142,143,144,145,146,147,148,149,150,151,152,153,154,155,156,157,158,159,160,161,162,163,164]),(13,[105,106,107]),(11,[103,104]),(10,[0,3,4,9,103]),(9,[11,12,82,83,84,85,86,87,88,89,90,91,92,93,94,95,96,97,98,99,100,101,102]),(8,[72,73,74,75,76,77,78,79,80,81]),(7,[0,3,4,9,72]),(6,[5,6,7,8,10,38,39,40,41,42,43,44,45,46,47,48,49,50,51,52,53,54,55,56,57,58,59,60,61,62,63,64,65,66,67,68,69,70,71]),(5,[32,33,34,35,36,37]),(4,[26,27,28,29,30,31]),(3,[17,19,20,21,22,23,24,25]),(2,[0,17,18]),(1,[15,16]),(0,[2])]
theorem yC2:yar Tryz.prog [3,9,13] (fun i=>(yPF.lookup i).getD []) Tryz.f8=some yCo.fn:=by kernel_rfl
theorem yU3:yDG Tryz.prog tab:=by
  unfold tab
  simp only [yDG]
  exact ⟨⟨Tryz.f74,_,_,Tryz.func74,yLi⟩,⟨Tryz.f23,_,_,Tryz.func23,yBB⟩,⟨Tryz.f81,_,_,Tryz.func81,yLj⟩,⟨Tryz.f31,_,_,Tryz.func31,yLk⟩,⟨Tryz.f39,_,_,Tryz.func39,yPs⟩,⟨Tryz.f99,_,_,Tryz.func99,yLl⟩,⟨Tryz.f130,_,_,Tryz.func130,yCY⟩,⟨Tryz.f131,_,_,Tryz.func131,yCZ⟩,⟨Tryz.f55,_,_,Tryz.func55,yJh⟩,⟨Tryz.f86,_,_,Tryz.func86,yLm⟩,⟨Tryz.f175,_,_,Tryz.func175,yAr⟩,⟨Tryz.f141,_,_,Tryz.func141,yJi⟩,⟨Tryz.f76,_,_,Tryz.func76,yNb⟩,⟨Tryz.f104,_,_,Tryz.func104,yGC⟩,⟨Tryz.f115,_,_,Tryz.func115,yJj⟩,⟨Tryz.f147,_,_,Tryz.func147,yJk⟩,⟨Tryz.f150,_,_,Tryz.func150,yLn⟩,⟨Tryz.f151,_,_,Tryz.func151,yFq⟩,⟨Tryz.f89,_,_,Tryz.func89,yJl⟩,⟨Tryz.f106,_,_,Tryz.func106,yJm⟩,⟨Tryz.f174,_,_,Tryz.func174,yGD⟩,⟨Tryz.f136,_,_,Tryz.func136,yJn⟩,⟨Tryz.f179,_,_,Tryz.func179,yyq⟩,⟨Tryz.f144,_,_,Tryz.func144,yGE⟩,⟨Tryz.f180,_,_,Tryz.func180,yAs⟩,⟨Tryz.f145,_,_,Tryz.func145,ywn⟩,⟨Tryz.f146,_,_,Tryz.func146,yPv⟩,⟨Tryz.f181,_,_,Tryz.func181,yyr⟩,⟨Tryz.f149,_,_,Tryz.func149,yvk⟩,⟨Tryz.f148,_,_,Tryz.func148,yJo⟩,⟨Tryz.f87,_,_,Tryz.func87,yLp⟩,⟨Tryz.f135,_,_,Tryz.func135,yLq⟩,⟨Tryz.f134,_,_,Tryz.func134,yJp⟩,⟨Tryz.f140,_,_,Tryz.func140,yPw⟩,⟨Tryz.f199,_,_,Tryz.func199,yys⟩,⟨Tryz.f173,_,_,Tryz.func173,yPx⟩,⟨Tryz.f172,_,_,Tryz.func172,yPy⟩,⟨Tryz.f133,_,_,Tryz.func133,yLr⟩,⟨Tryz.f137,_,_,Tryz.func137,yLs⟩,⟨Tryz.f138,_,_,Tryz.func138,yLt⟩,⟨Tryz.f116,_,_,Tryz.func116,yLu⟩,⟨Tryz.f195,_,_,Tryz.func195,yGF⟩,⟨Tryz.f194,_,_,Tryz.func194,yLv⟩,⟨Tryz.f159,_,_,Tryz.func159,yLw⟩,⟨Tryz.f109,_,_,Tryz.func109,yAt⟩,⟨Tryz.f110,_,_,Tryz.func110,yBC⟩,⟨Tryz.f163,_,_,Tryz.func163,yBD⟩,⟨Tryz.f105,_,_,Tryz.func105,yNe⟩,⟨Tryz.f107,_,_,Tryz.func107,yJq⟩,⟨Tryz.f41,_,_,Tryz.func41,yGG⟩,⟨Tryz.f100,_,_,Tryz.func100,yPz⟩,⟨Tryz.f38,_,_,Tryz.func38,yRr⟩,⟨Tryz.f43,_,_,Tryz.func43,yRs⟩,⟨Tryz.f101,_,_,Tryz.func101,yGH⟩,⟨Tryz.f60,_,_,Tryz.func60,yJr⟩,⟨Tryz.f102,_,_,Tryz.func102,yLx⟩,⟨Tryz.f161,_,_,Tryz.func161,yJs⟩,⟨Tryz.f160,_,_,Tryz.func160,yFr⟩,⟨Tryz.f162,_,_,Tryz.func162,yGI⟩,⟨Tryz.f103,_,_,Tryz.func103,yJt⟩,⟨Tryz.f85,_,_,Tryz.func85,yNf⟩,⟨Tryz.f80,_,_,Tryz.func80,yNg⟩,⟨Tryz.f28,_,_,Tryz.func28,yNh⟩,⟨Tryz.f40,_,_,Tryz.func40,yLy⟩,⟨Tryz.f108,_,_,Tryz.func108,yyt⟩,⟨Tryz.f42,_,_,Tryz.func42,yJu⟩,⟨Tryz.f66,_,_,Tryz.func66,yGJ⟩,⟨Tryz.f132,_,_,Tryz.func132,yLz⟩,⟨Tryz.f57,_,_,Tryz.func57,yGK⟩,⟨Tryz.f56,_,_,Tryz.func56,yGL⟩,⟨Tryz.f117,_,_,Tryz.func117,yGM⟩,⟨Tryz.f123,_,_,Tryz.func123,yJv⟩,⟨Tryz.f61,_,_,Tryz.func61,yGN⟩,⟨Tryz.f59,_,_,Tryz.func59,yC0⟩,⟨Tryz.f58,_,_,Tryz.func58,yLA⟩,⟨Tryz.f13,_,_,Tryz.func13,yGO⟩,⟨Tryz.f15,_,_,Tryz.func15,yGP⟩,⟨Tryz.f51,_,_,Tryz.func51,yBE⟩,⟨Tryz.f52,_,_,Tryz.func52,yyu⟩,⟨Tryz.f166,_,_,Tryz.func166,yAu⟩,⟨Tryz.f196,_,_,Tryz.func196,ylz⟩,⟨Tryz.f164,_,_,Tryz.func164,ykl⟩,⟨Tryz.f165,_,_,Tryz.func165,yC1⟩,⟨Tryz.f120,_,_,Tryz.func120,yGQ⟩,⟨Tryz.f119,_,_,Tryz.func119,ys4⟩,⟨Tryz.f118,_,_,Tryz.func118,ywo⟩,⟨Tryz.f197,_,_,Tryz.func197,yp9⟩,⟨Tryz.f167,_,_,Tryz.func167,ynT⟩,⟨Tryz.f139,_,_,Tryz.func139,yPC⟩,⟨Tryz.f75,_,_,Tryz.func75,yS3⟩,⟨Tryz.f209,_,_,Tryz.func209,yiI⟩,⟨Tryz.f198,_,_,Tryz.func198,ylx⟩,⟨Tryz.f168,_,_,Tryz.func168,ymG⟩,⟨Tryz.f169,_,_,Tryz.func169,ywp⟩,⟨Tryz.f121,_,_,Tryz.func121,yAw⟩,⟨Tryz.f122,_,_,Tryz.func122,ys5⟩,⟨Tryz.f124,_,_,Tryz.func124,ys6⟩,⟨Tryz.f125,_,_,Tryz.func125,ys7⟩,⟨Tryz.f126,_,_,Tryz.func126,ys8⟩,⟨Tryz.f53,_,_,Tryz.func53,yvl⟩,⟨Tryz.f11,_,_,Tryz.func11,yJw⟩,⟨Tryz.f72,_,_,Tryz.func72,yfh⟩,⟨Tryz.f73,_,_,Tryz.func73,ynp⟩,⟨Tryz.f21,_,_,Tryz.func21,yFs⟩,⟨Tryz.f112,_,_,Tryz.func112,yLD⟩,⟨Tryz.f70,_,_,Tryz.func70,yPD⟩,⟨Tryz.f94,_,_,Tryz.func94,yPE⟩,⟨Tryz.f98,_,_,Tryz.func98,yNk⟩,⟨Tryz.f111,_,_,Tryz.func111,yNl⟩,⟨Tryz.f44,_,_,Tryz.func44,yLE⟩,⟨Tryz.f8,_,_,Tryz.func8,yC2⟩,trivial⟩
theorem hm:Tryz.prog.follows .mixedOrders=true:=by kernel_rfl
theorem yU4:IsExtern Tryz.prog yko add64Entry:=⟨_,Tryz.func170,by kernel_rfl,by kernel_rfl,by kernel_rfl,by kernel_rfl⟩
theorem yU5:IsExtern Tryz.prog ykp yDI:=⟨_,Tryz.func171,by kernel_rfl,by kernel_rfl,by kernel_rfl,by kernel_rfl⟩
theorem k0C:EnvOk Tryz.prog E0C:=by
  refine yQa hm yU4 yU5 yU3 ?_
  intro n e b h
  simp only [cloL,List.mem_cons,Prod.mk.injEq,List.not_mem_nil,or_false] at h
  rcases h with ⟨rfl,rfl,rfl⟩
  exact ⟨(.int .i64 (0)),by kernel_rfl⟩
theorem kN:EnvOk Tryz.prog (E []):=yJ1 k0C fun e h=>by cases h
theorem yvm:SortsAt Tryz.prog ytr.s ytr.cf ytr.srt where
  size:=ytr.srt_size (yM2 _ _)
  pos:=by decide
  enters:=enters_of Tryz.func169 (by kernel_rfl) rfl
  entersN:=enters_of Tryz.func168 (by kernel_rfl) rfl
  law:=fun blk off cap d w hc hH hb hs=>AnyQ.slices_SortFunc_eq Tryz.sortSp 4 Tryz.isAgg45 Tryz.sizeOf45 ytr.s.enc (fun x=>Srt.enc_len x) (fun x=>Srt.enc_one x) ytr.cf (yM2 _ _) 169 #[] blk off cap d w (enters_of Tryz.func169 (by kernel_rfl) rfl) hc hH hb hs
theorem kS:EnvOk Tryz.prog (E ef0):=by
  refine yJ1 k0C ?_
  intro e h
  simp only [ef0,List.mem_cons,List.not_mem_nil,or_false] at h
  rcases h with rfl
  exact yPr ytr.s yvm (fun x y=>yNF kN hm (yab (by kernel_rfl) _) (by kernel_rfl) (yRc [] yba x.2 y.2)) (yAK k0C hm 60) (fun H=>by kernel_rfl) (fun H=>by kernel_rfl)
end Go.Proofs.YtegkpannhahmcaaGreat.Kf
