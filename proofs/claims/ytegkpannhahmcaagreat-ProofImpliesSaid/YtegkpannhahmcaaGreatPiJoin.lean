/- The statement ProofImplies: what the conditions and their plain laws say of the program's functions, joined with the program. -/
import Derived.Test.YtegkpannhahmcaaGreatRows

import Derived.Test.YtegkpannhahmcaaGreatPiW6
import Derived.WalkKit
import Derived.ProofKit
import Derived.OpenShut
import Derived.ReadAgain
import Derived.ChangeBears




import Derived.Shelf.SlSortCmp.WholeK
import Derived.Test.YtegkpannhahmcaaGreatShelf
namespace Go.Proofs.YtegkpannhahmcaaGreat.Pi
open Go Go.Pf Go.Pf.Vc Go.ChangeShapes Go.WideShapes Go.ChangeAt Go.RowKit Go.Shelf Go.Sort Go.Lib Go.Proofs
set_option maxRecDepth 100000
def yNo:List (Nat×List Nat):=[(1,[0,3,4,5,6,7,8,9,10,11,12,13,14,15]),(0,[2])]
theorem yHe:compFn Tryz.prog [] (fun i=>(yNo.lookup i).getD []) Tryz.f113=some yFW.fn:=by kernel_rfl
def yNp:List (Nat×List Nat):=[(1,[1,3,4,5,6,7,8,9,10,11,12]),(0,[0,2])]
theorem yHf:compFn Tryz.prog [1] (fun i=>(yNp.lookup i).getD []) Tryz.f74=some yFX.fn:=by kernel_rfl
def yJP:List (Nat×List Nat):=[(6,[0,3,7,15,16,17]),(3,[8,9,14]),(5,[0,3,14]),(4,[7,10,11,12,13]),(2,[4,5,6]),(0,[2])]
theorem yyd:compFn Tryz.prog [] (fun i=>(yJP.lookup i).getD []) Tryz.f23=some yxo.fn:=by kernel_rfl
def yNq:List (Nat×List Nat):=[(6,[0,3,5,10,19,20,21,22,23,24,25,26]),(3,[11,12,18]),(5,[0,3,5,18]),(4,[10,13,14,15,16,17]),(2,[6,7,8,9]),(0,[1,4])]
theorem yHg:compFn Tryz.prog [3] (fun i=>(yNq.lookup i).getD []) Tryz.f45=some yFY.fn:=by kernel_rfl
def yNr:List (Nat×List Nat):=[(14,[98]),(13,[98]),(12,[1,3,4,57,97]),(8,[58,59]),(11,[87,88,89,90,91,92,93,94,95,96]),(10,[1,3,4,87]),(9,[57,60,61,62,63,64,65,66,67,68,69,70,71,72,73,74,75,76,77,78,79,80,81,82,83,84,85,86]),(7,[53,54,55,56]),(5,[52]),(4,[1,52]),(3,[13,14,15,16,17,18,19,20,21,22,23,24,25,26,27,28,29,30,31,32,33,34,35,36,37,38,39,40,41,42,43,44,45,46,47,48,49,50,51]),(2,[1,13]),(1,[5,6,7,8,9,10,11,12]),(0,[0,2])]
theorem yHh:compFn Tryz.prog [1] (fun i=>(yNr.lookup i).getD []) Tryz.f81=some yFZ.fn:=by kernel_rfl
def yNs:List (Nat×List Nat):=[(15,[1,4,43]),(12,[44,45,57]),(14,[1,4,57]),(13,[43,46,47,48,49,50,51,52,53,54,55,56]),(11,[39,40,41,42]),(10,[3,23]),(7,[24,25,32]),(9,[1,3,32,33,34,35,36,37,38]),(8,[23,26,27,28,29,30,31]),(6,[19,20,21,22]),(5,[18]),(4,[1,18]),(3,[14,15,16,17]),(2,[1,14]),(1,[5,6,7,8,9,10,11,12,13]),(0,[0,2])]
theorem yHi:compFn Tryz.prog [1] (fun i=>(yNs.lookup i).getD []) Tryz.f31=some yF0.fn:=by kernel_rfl
def yOs:List (Nat×List Nat):=[(3,[0,4,10,11]),(2,[0,4,5,6,7,8,9]),(1,[3]),(0,[2])]
theorem yKM:compFn Tryz.prog [] (fun i=>(yOs.lookup i).getD []) Tryz.f70=some yKc.fn:=by kernel_rfl
def yOt:List (Nat×List Nat):=[(3,[0,1,6,11]),(2,[6,7,8,9,10]),(1,[5]),(0,[4])]
theorem yKN:compFn Tryz.prog [] (fun i=>(yOt.lookup i).getD []) Tryz.f94=some yKd.fn:=by kernel_rfl
def yNt:List (Nat×List Nat):=[(3,[30]),(2,[30]),(1,[1,3,4,5,6,7,8,9,10,11,12,13,14,15,16,17,18,19,20,21,22,23,24,25,26,27,28,29]),(0,[0,2])]
theorem yHj:compFn Tryz.prog [1] (fun i=>(yNt.lookup i).getD []) Tryz.f35=some yF1.fn:=by kernel_rfl
def yNP:List (Nat×List Nat):=[(3,[2,3,7,10,11]),(2,[2,3,7,8,9]),(1,[5,6]),(0,[0,1,4])]
theorem yI1:compFn Tryz.prog [2,3] (fun i=>(yNP.lookup i).getD []) Tryz.f97=some yIb.fn:=by kernel_rfl
def yNu:List (Nat×List Nat):=[(5,[5,7,9,10,11,35,36,37,38,39,40,41,42,43,44,45,46,47,48,49]),(4,[6,26,27,28,29,30,31,32,33,34]),(3,[8,20,21,22,23,24,25]),(2,[1,16,17,18,19]),(1,[0,12,13,14,15])]
theorem yHk:compFn Tryz.prog [4] (fun i=>(yNu.lookup i).getD []) Tryz.f69=some yF2.fn:=by kernel_rfl
def yNQ:List (Nat×List Nat):=[(1,[2,3,5,6,7,8,9,10,11,12,13,14,15,16,17,18,19,20,21,22,23]),(0,[0,1,4])]
theorem yI2:compFn Tryz.prog [2,3] (fun i=>(yNQ.lookup i).getD []) Tryz.f71=some yIc.fn:=by kernel_rfl
def yNR:List (Nat×List Nat):=[(6,[5,6,33,37,38,39]),(5,[5,6,33,34,35,36]),(4,[2,31,32]),(3,[3,13,17,18,19,20,21,22,23,24,25,26,27,28,29,30]),(2,[2,3,13,14,15,16]),(1,[7,8,9,10,11,12]),(0,[0,1,4])]
theorem yI3:compFn Tryz.prog [2,3,5,6] (fun i=>(yNR.lookup i).getD []) Tryz.f19=some yId.fn:=by kernel_rfl
def yNv:List (Nat×List Nat):=[(1,[1,3,4,5,6,7,8,9,10,11,12,13,14,15]),(0,[0,2])]
theorem yHl:compFn Tryz.prog [1] (fun i=>(yNv.lookup i).getD []) Tryz.f68=some yF3.fn:=by kernel_rfl
def yNw:List (Nat×List Nat):=[(8,[0,3,10]),(5,[11,12,37]),(7,[0,3,37]),(6,[10,13,14,15,16,17,18,19,20,21,22,23,24,25,26,27,28,29,30,31,32,33,34,35,36]),(4,[7,8,9]),(3,[6]),(2,[0,6]),(1,[4,5]),(0,[2])]
theorem yHm:compFn Tryz.prog [] (fun i=>(yNw.lookup i).getD []) Tryz.f20=some yF4.fn:=by kernel_rfl
def yOD:List (Nat×List Nat):=[(1,[0,3,4])]
theorem yMe:compFn Tryz.prog [2] (fun i=>(yOD.lookup i).getD []) Tryz.f38=some yLq.fn:=by kernel_rfl
def yNx:List (Nat×List Nat):=[(1,[0,3,5,6,7,8,9,10,11,12,13,14,15,16,17,18,19]),(0,[1,4])]
theorem yHn:compFn Tryz.prog [3] (fun i=>(yNx.lookup i).getD []) Tryz.f95=some yF5.fn:=by kernel_rfl
def yMt:List (Nat×List Nat):=[(6,[0,1,5,9]),(3,[10,11,29]),(5,[0,1,5,29]),(4,[9,12,13,14,15,16,17,18,19,20,21,22,23,24,25,26,27,28]),(2,[6,7,8]),(0,[4])]
theorem yFj:compFn Tryz.prog [] (fun i=>(yMt.lookup i).getD []) Tryz.f114=some yD2.fn:=by kernel_rfl
def yNy:List (Nat×List Nat):=[(17,[0,3,8,41]),(14,[42,43,54]),(16,[0,3,8,54]),(15,[41,44,45,46,47,48,49,50,51,52,53]),(13,[37,38,39,40]),(12,[6,25]),(8,[7,26,27,35]),(11,[0,3,6,7,35,36]),(10,[34]),(9,[25,28,29,30,31,32,33]),(7,[21,22,23,24]),(6,[20]),(5,[0,3,20]),(4,[5,13,15,16,17,18,19]),(3,[0,3,5,13,14]),(2,[12]),(1,[9,10,11]),(0,[1,4])]
theorem yHo:compFn Tryz.prog [3] (fun i=>(yNy.lookup i).getD []) Tryz.f46=some yF6.fn:=by kernel_rfl
def yNz:List (Nat×List Nat):=[(1,[0,3,5,6,7,8,9,10,11,12,13,14]),(0,[1,4])]
theorem yHp:compFn Tryz.prog [3] (fun i=>(yNz.lookup i).getD []) Tryz.f9=some yF7.fn:=by kernel_rfl
def yOE:List (Nat×List Nat):=[(1,[0,1,5,6,7,8,9])]
theorem yMf:compFn Tryz.prog [4] (fun i=>(yOE.lookup i).getD []) Tryz.f14=some yLr.fn:=by kernel_rfl
def yNA:List (Nat×List Nat):=[(6,[0,3,4,8,21]),(4,[9,10]),(5,[8,11,12,13,14,15,16,17,18,19,20]),(3,[5,6,7])]
theorem yHq:compFn Tryz.prog [17,18,2,3] (fun i=>(yNA.lookup i).getD []) Tryz.f47=some yF8.fn:=by kernel_rfl
def yOu:List (Nat×List Nat):=[(1,[1,2,3,4,5,6,7]),(0,[0])]
theorem yKO:compFn Tryz.prog [1,2,4,5] (fun i=>(yOu.lookup i).getD []) Tryz.f48=some yKe.fn:=by kernel_rfl
def yKP:List (Nat×List Nat):=[(8,[0,3,4,15,24]),(6,[16,17]),(7,[15,18,19,20,21,22,23]),(5,[12,13,14]),(3,[7,9,10,11]),(2,[7,8]),(1,[5,6]),(0,[2])]
theorem yzr:compFn Tryz.prog [] (fun i=>(yKP.lookup i).getD []) Tryz.f130=some yyM.fn:=by kernel_rfl
def yKQ:List (Nat×List Nat):=[(8,[0,3,4,15,24]),(6,[16,17]),(7,[15,18,19,20,21,22,23]),(5,[12,13,14]),(3,[7,9,10,11]),(2,[7,8]),(1,[5,6]),(0,[2])]
theorem yzs:compFn Tryz.prog [] (fun i=>(yKQ.lookup i).getD []) Tryz.f131=some yyN.fn:=by kernel_rfl
def yMu:List (Nat×List Nat):=[(14,[81]),(13,[81]),(12,[1,49,50,51,66,67,68,69,70,71,72,73,74,75,76,77,78,79,80]),(11,[64,65]),(10,[1,49,50,64]),(9,[4,53,54,55,56,57,58,59,60,61,62,63]),(8,[51,52]),(6,[3,47,48]),(5,[1,3,47]),(4,[14,15,16,17,18,19,20,21,22,23,24,25,26,27,28,29,30,31,32,33,34,35,36,37,38,39,40,41,42,43,44,45,46]),(3,[1,3,14]),(2,[8,9,10,11,12,13]),(1,[5,6,7]),(0,[0,2])]
theorem yFk:compFn Tryz.prog [1] (fun i=>(yMu.lookup i).getD []) Tryz.f55=some yD3.fn:=by kernel_rfl
def yNB:List (Nat×List Nat):=[(18,[1,36,37,38,39]),(17,[49,50]),(16,[1,36,37,38,49]),(15,[7,42,43,44,45,46,47,48]),(14,[39,40,41]),(12,[23,24,25,26,35]),(11,[5,32,34]),(10,[1,5,23,24,25,32,33]),(9,[31]),(8,[4,29,30]),(7,[26,27,28]),(5,[21,22]),(4,[1,21]),(3,[17,18,19,20]),(2,[1,17]),(1,[8,9,10,11,12,13,14,15,16]),(0,[0,2])]
theorem yHr:compFn Tryz.prog [1,4,7] (fun i=>(yNB.lookup i).getD []) Tryz.f86=some yF9.fn:=by kernel_rfl
def yMv:List (Nat×List Nat):=[(3,[0,4,8,9]),(2,[0,4,5,6,7]),(1,[3]),(0,[2])]
theorem yFl:compFn Tryz.prog [] (fun i=>(yMv.lookup i).getD []) Tryz.f147=some yD4.fn:=by kernel_rfl
def yNC:List (Nat×List Nat):=[(3,[0,1,6,11]),(2,[6,7,8,9,10]),(1,[5]),(0,[4])]
theorem yHs:compFn Tryz.prog [] (fun i=>(yNC.lookup i).getD []) Tryz.f150=some yGa.fn:=by kernel_rfl
def yMg:List (Nat×List Nat):=[(3,[25]),(2,[25]),(1,[1,3,4,5,6,7,8,9,10,11,12,13,14,15,16,17,18,19,20,21,22,23,24]),(0,[0,2])]
theorem yCI:compFn Tryz.prog [1] (fun i=>(yMg.lookup i).getD []) Tryz.f174=some yBB.fn:=by kernel_rfl
def yHH:List (Nat×List Nat):=[(8,[3,6,7,8,9,17]),(7,[5,14,16]),(6,[3,5,6,7,8,14,15]),(5,[12,13]),(4,[9,10,11]),(2,[0]),(0,[2])]
theorem yvm:compFn Tryz.prog [] (fun i=>(yHH.lookup i).getD []) Tryz.f179=some yuz.fn:=by kernel_rfl
def yMh:List (Nat×List Nat):=[(1,[2,3,5,6,7,8,9,10]),(0,[0,1,4])]
theorem yCJ:compFn Tryz.prog [9,2,3] (fun i=>(yMh.lookup i).getD []) Tryz.f144=some yBC.fn:=by kernel_rfl
def yI4:List (Nat×List Nat):=[(1,[0,3,4,5]),(0,[2])]
theorem yw9:compFn Tryz.prog [] (fun i=>(yI4.lookup i).getD []) Tryz.f180=some yvI.fn:=by kernel_rfl
def yHt:List (Nat×List Nat):=[(13,[19]),(12,[19]),(11,[0,1,16,17,18]),(10,[0,1,16]),(9,[13,14,15]),(8,[0,1,13]),(7,[6,11]),(6,[12]),(5,[12]),(4,[0,1,6,11]),(3,[5]),(2,[9,10]),(1,[7,8]),(0,[4])]
theorem ytF:compFn Tryz.prog [] (fun i=>(yHt.lookup i).getD []) Tryz.f145=some yta.fn:=by kernel_rfl
def yOv:List (Nat×List Nat):=[(11,[0,1,48,49,50]),(10,[7,9,12,13,40,41,42,43,44,45,46,47]),(9,[6,35,36,37,38,39]),(8,[11,33,34]),(7,[31,32]),(6,[8,10,25,26,27,28,29,30]),(5,[22,23,24]),(4,[20,21]),(3,[18,19]),(2,[16,17]),(1,[14,15]),(0,[4,5])]
theorem yKR:compFn Tryz.prog [] (fun i=>(yOv.lookup i).getD []) Tryz.f146=some yKf.fn:=by kernel_rfl
def yHI:List (Nat×List Nat):=[(1,[0,3,4,5]),(0,[2])]
theorem yvn:compFn Tryz.prog [] (fun i=>(yHI.lookup i).getD []) Tryz.f181=some yuA.fn:=by kernel_rfl
def yFu:List (Nat×List Nat):=[(13,[19]),(12,[19]),(11,[0,1,16,17,18]),(10,[0,1,16]),(9,[13,14,15]),(8,[0,1,13]),(7,[6,11]),(6,[12]),(5,[12]),(4,[0,1,6,11]),(3,[5]),(2,[9,10]),(1,[7,8]),(0,[4])]
theorem ysP:compFn Tryz.prog [] (fun i=>(yFu.lookup i).getD []) Tryz.f149=some yrC.fn:=by kernel_rfl
def yMw:List (Nat×List Nat):=[(8,[3,6,7,8,9,17]),(7,[5,14,16]),(6,[3,5,6,7,8,14,15]),(5,[12,13]),(4,[9,10,11]),(2,[0]),(0,[2])]
theorem yFm:compFn Tryz.prog [] (fun i=>(yMw.lookup i).getD []) Tryz.f148=some yD5.fn:=by kernel_rfl
def yND:List (Nat×List Nat):=[(11,[11,60,63]),(10,[60,61,62]),(9,[2,58,59]),(8,[7,8,9,10,50,51,52,53,54,55,56,57]),(7,[3,40,41,42,43,44,45,46,47,48,49]),(6,[24,30,31,32,33,34,35,36,37,38,39]),(5,[2,3,24,25,26,27,28,29]),(4,[6,16,18,19,20,21,22,23]),(3,[2,3,6,16,17]),(2,[15]),(1,[12,13,14]),(0,[0,1,4,5])]
theorem yHu:compFn Tryz.prog [56,2,3] (fun i=>(yND.lookup i).getD []) Tryz.f87=some yGb.fn:=by kernel_rfl
def yMi:List (Nat×List Nat):=[(2,[3,4,13,14,15,16,17,18]),(1,[1,5,6,7,8,9,10,11,12]),(0,[0,2])]
theorem yCK:compFn Tryz.prog [1] (fun i=>(yMi.lookup i).getD []) Tryz.f66=some yBD.fn:=by kernel_rfl
def yNE:List (Nat×List Nat):=[(9,[8,9,10,11]),(8,[16,17]),(7,[8,9,10,16]),(6,[4,14,15]),(5,[11,12,13]),(3,[0,7]),(2,[0,7]),(1,[5,6]),(0,[2])]
theorem yHv:compFn Tryz.prog [4] (fun i=>(yNE.lookup i).getD []) Tryz.f132=some yGc.fn:=by kernel_rfl
def yMj:List (Nat×List Nat):=[(2,[5,13]),(1,[2,3,6,7,8,9,10,11,12]),(0,[0,1,4])]
theorem yCL:compFn Tryz.prog [2,3] (fun i=>(yMj.lookup i).getD []) Tryz.f57=some yBE.fn:=by kernel_rfl
def yMk:List (Nat×List Nat):=[(9,[0,4,13]),(6,[14,15,28]),(8,[0,4,28]),(7,[13,16,17,18,19,20,21,22,23,24,25,26,27]),(5,[10,11,12]),(4,[3,8]),(3,[0,3,8,9]),(2,[7]),(1,[5,6]),(0,[2])]
theorem yCM:compFn Tryz.prog [] (fun i=>(yMk.lookup i).getD []) Tryz.f56=some yBF.fn:=by kernel_rfl
def yMl:List (Nat×List Nat):=[(1,[0,3,4])]
theorem yCN:compFn Tryz.prog [2,1000002] (fun i=>(yMl.lookup i).getD []) Tryz.f117=some yBG.fn:=by kernel_rfl
def yMx:List (Nat×List Nat):=[(2,[5,13,14]),(1,[2,3,6,7,8,9,10,11,12]),(0,[0,1,4])]
theorem yFn:compFn Tryz.prog [2,3,1000002,1000003] (fun i=>(yMx.lookup i).getD []) Tryz.f123=some yD6.fn:=by kernel_rfl
def yMm:List (Nat×List Nat):=[(20,[0,38,39,40,41]),(19,[69,70]),(18,[0,38,39,40,69]),(17,[10,11,46,47,48,49,50,51,52,53,54,55,56,57,58,59,60,61,62,63,64,65,66,67,68]),(16,[44,45]),(15,[41,42,43]),(13,[3,25,26,27,28,37]),(12,[8,34,36]),(11,[0,3,8,25,26,27,34,35]),(10,[33]),(9,[7,31,32]),(8,[28,29,30]),(6,[23,24]),(5,[0,3,23]),(4,[5,16,18,19,20,21,22]),(3,[0,3,5,16,17]),(2,[15]),(1,[12,13,14]),(0,[1,4])]
theorem yCO:compFn Tryz.prog [3,1000003] (fun i=>(yMm.lookup i).getD []) Tryz.f61=some yBH.fn:=by kernel_rfl
def yMy:List (Nat×List Nat):=[(1,[0,3,4])]
theorem yFo:compFn Tryz.prog [2] (fun i=>(yMy.lookup i).getD []) Tryz.f136=some yD7.fn:=by kernel_rfl
def yNF:List (Nat×List Nat):=[(2,[5,13,14]),(1,[2,3,6,7,8,9,10,11,12]),(0,[0,1,4])]
theorem yHw:compFn Tryz.prog [2,3] (fun i=>(yNF.lookup i).getD []) Tryz.f135=some yGd.fn:=by kernel_rfl
def yMz:List (Nat×List Nat):=[(1,[2,3,5,6,7,8,9,10,11,12,13,14,15,16,17,18,19,20]),(0,[0,1,4])]
theorem yFp:compFn Tryz.prog [2,3] (fun i=>(yMz.lookup i).getD []) Tryz.f134=some yD8.fn:=by kernel_rfl
def yOw:List (Nat×List Nat):=[(10,[0,14,19,20,21,22,23,24]),(9,[17,18]),(8,[14,15,16]),(7,[8,13]),(6,[11,12]),(5,[8,9,10]),(4,[4,7]),(2,[2,4,5,6]),(1,[3])]
theorem yKS:compFn Tryz.prog [] (fun i=>(yOw.lookup i).getD []) Tryz.f140=some yKg.fn:=by kernel_rfl
def yHJ:List (Nat×List Nat):=[(1,[0,3,4,5]),(0,[2])]
theorem yvo:compFn Tryz.prog [] (fun i=>(yHJ.lookup i).getD []) Tryz.f199=some yuB.fn:=by kernel_rfl
def yOx:List (Nat×List Nat):=[(28,[2,8,9,10,14,15,16,17,18,113,120,121,122,123,124,125,126,127,128,129,130,131,132,133,134]),(27,[119]),(26,[116,117,118]),(25,[113,114,115]),(24,[102,103,104,105,106,107,108,109,110,111,112,120]),(23,[97,98,99,100,101]),(22,[94,95,96]),(21,[11,13,16,78,85,86,87,88,89,90,91,92,93]),(20,[84]),(19,[81,82,83]),(18,[78,79,80]),(17,[67,68,69,70,71,72,73,74,75,76,77,85]),(16,[62,63,64,65,66]),(15,[59,60,61]),(14,[12,57,58]),(13,[55,56]),(12,[1,52,53,54]),(11,[0,44,45,46,47,48,49,50,51]),(10,[42,43]),(9,[40,41]),(8,[37,38,39]),(7,[27,34,35,36]),(6,[0,1,2,27,28,29,30,31,32,33]),(5,[24,26]),(4,[24,25]),(3,[20,22,23]),(2,[20,21]),(1,[19]),(0,[6,7])]
theorem yKT:compFn Tryz.prog [] (fun i=>(yOx.lookup i).getD []) Tryz.f173=some yKh.fn:=by kernel_rfl
def yOy:List (Nat×List Nat):=[(2,[8,18]),(1,[0,1,2,7,9,10,11,12,13,14,15,16,17]),(0,[6])]
theorem yKU:compFn Tryz.prog [] (fun i=>(yOy.lookup i).getD []) Tryz.f172=some yKi.fn:=by kernel_rfl
def yK3:List (Nat×List Nat):=[(5,[1,2,13,20,21,22,23,24]),(4,[1,2,13,14,15,16,17,18,19]),(3,[0,11]),(2,[0,1,2,11,12]),(1,[8,9,10]),(0,[7])]
theorem yBw:compFn Tryz.prog [6] (fun i=>(yK3.lookup i).getD []) Tryz.f151=some yz8.fn:=by kernel_rfl
def yNG:List (Nat×List Nat):=[(26,[12,17,20,153,155,156,157,158,159,160]),(25,[12,17,20,153,154]),(24,[19,152]),(23,[2,3,7,16,138,139,140,141,142,143,144,145,146,147,148,149,150,151]),(22,[13,14,18,129,131,132,133,134,135,136,137]),(21,[2,3,7,12,13,14,16,129,130]),(20,[127,128]),(19,[119,121,122,123,124,125,126]),(18,[2,3,7,12,13,14,119,120]),(17,[114,115,116,117,118]),(16,[8,10,15,107,108,109,110,111,112,113]),(15,[9,11,94,101,102,103,104,105,106]),(14,[99,100]),(13,[94,95,96,97,98]),(12,[68,82,83,84,85,86,87,88,89,90,91,92,93]),(11,[8,10,15,75,76,77,78,79,80,81]),(10,[9,11,68,69,70,71,72,73,74]),(9,[62,63,64,65,66,67]),(8,[13,14,15]),(7,[59,60,61]),(6,[47,48,49,50,51,52,53,54,55,56,57,58]),(5,[35,36,37,38,39,40,41,42,43,44,45,46]),(4,[6,25,28,29,30,31,32,33,34]),(3,[2,3,6,25,26,27]),(2,[24]),(1,[21,22,23]),(0,[0,1,5])]
theorem yHx:compFn Tryz.prog [2,3,4] (fun i=>(yNG.lookup i).getD []) Tryz.f133=some yGe.fn:=by kernel_rfl
def yNH:List (Nat×List Nat):=[(5,[2,3,18,19,20,21,22]),(4,[6,11,14,15,16,17]),(3,[2,3,6,11,12,13]),(2,[10]),(1,[7,8,9]),(0,[0,1,5])]
theorem yHy:compFn Tryz.prog [2,3,4] (fun i=>(yNH.lookup i).getD []) Tryz.f137=some yGf.fn:=by kernel_rfl
def yNI:List (Nat×List Nat):=[(10,[2,3,14,16,65,67,68,69,70,71,72,73,74,75,76,77,78,79,80,81,82]),(9,[2,3,14,16,65,66]),(8,[13,15,62,63,64]),(7,[8,10,11,12,52,53,54,55,56,57,58,59,60,61]),(6,[7,9,42,43,44,45,46,47,48,49,50,51]),(5,[36,37,38,39,40,41]),(4,[6,21,24,25,26,27,28,29,30,31,32,33,34,35]),(3,[2,3,6,21,22,23]),(2,[20]),(1,[17,18,19]),(0,[0,1,5])]
theorem yHz:compFn Tryz.prog [2,3,4] (fun i=>(yNI.lookup i).getD []) Tryz.f138=some yGg.fn:=by kernel_rfl
def yMA:List (Nat×List Nat):=[(28,[3,5,9,10,42,43,44,45,105]),(27,[13,70,104]),(26,[13,15,100,103]),(25,[3,5,9,10,13,15,42,43,44,100,101,102]),(24,[99]),(23,[16,90,93,94,95,96,97,98]),(22,[3,5,9,10,13,15,16,42,43,44,90,91,92]),(21,[89]),(20,[12,14,79,82,83,84,85,86,87,88]),(19,[3,5,9,10,12,13,14,15,42,43,44,79,80,81]),(18,[78]),(17,[67,72,73,74,75,76,77]),(16,[13,70,71]),(15,[12,67,68,69]),(14,[58,60,61,62,63,64,65,66]),(13,[58,59]),(12,[56,57]),(11,[11,49,50,51,52,53,54,55]),(10,[45,46,47,48]),(8,[41]),(7,[4,40]),(6,[37,39]),(5,[3,4,5,37,38]),(4,[8,20,23,24,25,26,27,28,29,30,31,32,33,34,35,36]),(3,[3,4,5,8,20,21,22]),(2,[19]),(1,[17,18]),(0,[0,1,2,7])]
theorem yFq:compFn Tryz.prog [3,4,5,6,9,10,13,14,16] (fun i=>(yMA.lookup i).getD []) Tryz.f60=some yD9.fn:=by kernel_rfl
def yKV:List (Nat×List Nat):=[(1,[1,2,5,6,7,8,9,10,11,12]),(0,[0,4])]
theorem yzt:compFn Tryz.prog [2,3] (fun i=>(yKV.lookup i).getD []) Tryz.f59=some yrb.fn:=by kernel_rfl
def yNJ:List (Nat×List Nat):=[(12,[1,6,12,13,14,15,39]),(11,[10,35,38]),(10,[1,6,10,12,13,14,35,36,37]),(9,[34]),(8,[9,25,28,29,30,31,32,33]),(7,[1,6,9,10,12,13,14,25,26,27]),(6,[24]),(5,[8,18,19,20,21,22,23]),(4,[15,16,17]),(2,[0]),(1,[11]),(0,[5])]
theorem yHA:compFn Tryz.prog [4,6,8,9] (fun i=>(yNJ.lookup i).getD []) Tryz.f58=some yGh.fn:=by kernel_rfl
def yMn:List (Nat×List Nat):=[(10,[1,2,45,47,48,49,50,51]),(9,[1,2,45,46]),(8,[8,23,24,25,26,27,28,29,30,31,32,33,34,35,36,37,38,39,40,41,42,43,44]),(7,[7,18,21,22]),(6,[1,2,7,18,19,20]),(5,[17]),(4,[6,12,15,16]),(3,[1,2,6,12,13,14]),(2,[11]),(1,[9,10]),(0,[0,5])]
theorem yCP:compFn Tryz.prog [4] (fun i=>(yMn.lookup i).getD []) Tryz.f13=some yBI.fn:=by kernel_rfl
def yMo:List (Nat×List Nat):=[(17,[3,7,23,24,25,26,58]),(16,[8,9,31,32,33,34,57]),(15,[56]),(14,[12,13,44,46,47,48,49,50,51,52,53,54,55]),(13,[3,7,8,9,12,13,23,24,25,31,32,33,44,45]),(12,[43]),(11,[11,37,38,39,40,41,42]),(10,[34,35,36]),(8,[30]),(7,[26,27,28,29]),(5,[0]),(4,[6,18,20,21,22]),(3,[0,3,6,18,19]),(2,[17]),(1,[14,15,16]),(0,[1,4,5])]
theorem yCQ:compFn Tryz.prog [53,3,9,12,1000003,1000022,1000009,1000012] (fun i=>(yMo.lookup i).getD []) Tryz.f15=some ytS.fn:=by kernel_rfl
def yJQ:List (Nat×List Nat):=[(4,[0,3,6,7,15,17,18,19,20,21,22]),(3,[0,3,6,7,15,16]),(2,[14]),(1,[8,9,10,11,12,13]),(0,[1,4,5])]
theorem yye:compFn Tryz.prog [3,1000003,1000022] (fun i=>(yJQ.lookup i).getD []) Tryz.f51=some yhq.fn:=by kernel_rfl
def yMB:List (Nat×List Nat):=[(10,[1,5,14,15,16,17,38]),(9,[37]),(8,[6,7,21,22,23,24,25,26,27,28,29,30,31,32,33,34,35,36]),(7,[17,18,19,20]),(5,[13]),(4,[4,11]),(3,[1,4,11,12]),(2,[10]),(1,[8,9]),(0,[0,2,3])]
theorem yFr:compFn Tryz.prog [1] (fun i=>(yMB.lookup i).getD []) Tryz.f115=some yEa.fn:=by kernel_rfl
def yNK:List (Nat×List Nat):=[(8,[2,3,19,34,35,36,37,38,39,40,41,42]),(7,[2,3,19,23,24,25,26,27,28,29,30,31,32,33]),(6,[14,20,21,22]),(5,[2,3,14,18]),(4,[6,11,15,16,17]),(3,[2,3,6,11,12,13]),(2,[10]),(1,[7,8,9]),(0,[0,1,5])]
theorem yHB:compFn Tryz.prog [2,3,4] (fun i=>(yNK.lookup i).getD []) Tryz.f116=some yGi.fn:=by kernel_rfl
def yHK:List (Nat×List Nat):=[(10,[0,12,13,14]),(9,[56]),(8,[6,7,44,46,47,48,49,50,51,52,53,54,55]),(7,[0,6,7,12,13,44,45]),(6,[43]),(5,[3,4,27,28,29,30,31,32,33,34,35,36,37,38,39,40,41,42]),(4,[5,16,17,18,19,20,21,22,23,24,25,26]),(3,[14,15]),(1,[8,9,10,11]),(0,[2])]
theorem yvp:compFn Tryz.prog [52,6] (fun i=>(yHK.lookup i).getD []) Tryz.f52=some ynq.fn:=by kernel_rfl
def yI5:List (Nat×List Nat):=[(1,[1,2,4,5,6,7,8,9,10,11,12,13,14,15]),(0,[0,3])]
theorem yxa:compFn Tryz.prog [2,1000002] (fun i=>(yI5.lookup i).getD []) Tryz.f166=some yoe.fn:=by kernel_rfl
def yxb:List (Nat×List Nat):=[(7,[0,1,7,8,9]),(6,[5,16,18]),(5,[0,1,5,7,8,16,17]),(4,[11,12,13,14,15]),(3,[9,10]),(1,[6]),(0,[4])]
theorem yjY:compFn Tryz.prog [] (fun i=>(yxb.lookup i).getD []) Tryz.f196=some yfc.fn:=by kernel_rfl
def yuk:List (Nat×List Nat):=[(1,[0,1,5,6,7,8]),(0,[4])]
theorem yit:compFn Tryz.prog [] (fun i=>(yuk.lookup i).getD []) Tryz.f164=some ybB.fn:=by kernel_rfl
def yKW:List (Nat×List Nat):=[(1,[1,2,4,5,6]),(0,[0,3])]
theorem yzu:compFn Tryz.prog [1000002] (fun i=>(yKW.lookup i).getD []) Tryz.f165=some yyO.fn:=by kernel_rfl
def yMp:List (Nat×List Nat):=[(1,[0,3,5,6,7]),(0,[1,4])]
theorem yCR:compFn Tryz.prog [1000003] (fun i=>(yMp.lookup i).getD []) Tryz.f120=some yBJ.fn:=by kernel_rfl
def yDI:List (Nat×List Nat):=[(1,[0,1,2,6,7,8,9,10,11,12,13,14,15,16,17,18,19,20,21,22,23,24,25]),(0,[5])]
theorem yq3:compFn Tryz.prog [] (fun i=>(yDI.lookup i).getD []) Tryz.f119=some yja.fn:=by kernel_rfl
def yHC:List (Nat×List Nat):=[(11,[0,1,13,14,15]),(10,[7,21,22,23,32]),(9,[8,28,31]),(8,[0,1,7,8,13,14,21,22,28,29,30]),(7,[25,26,27]),(6,[23,24]),(4,[17,18,19,20]),(3,[15,16]),(1,[9,10,11,12]),(0,[4,5,6])]
theorem ytG:compFn Tryz.prog [] (fun i=>(yHC.lookup i).getD []) Tryz.f118=some ytb.fn:=by kernel_rfl
def yzF:List (Nat×List Nat):=[(6,[0,1,16,26]),(5,[1,16,17,18,19,20,21,22,23,24,25]),(4,[15]),(3,[6,8,9,10,11,12,13,14]),(2,[6,7]),(1,[5]),(0,[4])]
theorem yn4:compFn Tryz.prog [] (fun i=>(yzF.lookup i).getD []) Tryz.f197=some yg3.fn:=by kernel_rfl
def yyI:List (Nat×List Nat):=[(15,[6,25,26,27,28,35]),(14,[34]),(13,[8,31,32,33]),(12,[28,29,30]),(10,[0]),(9,[3,9,10,11,12,23,24]),(8,[20,22]),(7,[20,21]),(6,[19]),(5,[5,15,16,17,18]),(4,[12,13,14]),(0,[2])]
theorem yml:compFn Tryz.prog [] (fun i=>(yyI.lookup i).getD []) Tryz.f167=some ylM.fn:=by kernel_rfl
def yOz:List (Nat×List Nat):=[(7,[0,8,13,14,15,16,17,18]),(6,[11,12]),(5,[8,9,10]),(4,[4,7]),(2,[2,4,5,6]),(1,[3])]
theorem yKX:compFn Tryz.prog [] (fun i=>(yOz.lookup i).getD []) Tryz.f139=some yOC.fn:=by kernel_rfl
def yOF:List (Nat×List Nat):=[(2,[0,6,7]),(1,[0,3,4,5]),(0,[2])]
theorem yNL:compFn Tryz.prog [] (fun i=>(yOF.lookup i).getD []) Tryz.f75=some yOG.fn:=by kernel_rfl
def yru:List (Nat×List Nat):=[(2,[9,15,16,34]),(5,[35,36]),(6,[34,37,38,39,40,41,42,43,44,45,46,47,48,49,50,51,52]),(4,[18,19,20,21,22,23,24,25,26,27,28,29,30,31,32,33]),(3,[14,17]),(1,[12,13]),(0,[10,11])]
theorem yhl:compFn Tryz.prog [] (fun i=>(yru.lookup i).getD []) Tryz.f209=some yrD.fn:=by kernel_rfl
def yvr:List (Nat×List Nat):=[(30,[16,147]),(29,[2,140,141,142,143,144,145,146]),(28,[18,19,20,125,137,138,139]),(27,[16,135,136]),(26,[1,129,130,131,132,133,134]),(25,[18,19,20,125,126,127,128]),(24,[123,124]),(23,[12,121,122]),(22,[115,116,117,118,119,120]),(21,[17,114]),(20,[10,11,13,97,105,106,107,108,109,110,111,112,113]),(19,[15,104]),(18,[1,12,13,97,98,99,100,101,102,103]),(17,[75,80,81,82,83,84,85,86,87,88,89,90,91,92,93,94,95,96]),(16,[75,76,77,78,79]),(15,[14,56,68,69,70,71,72,73,74]),(13,[62,63,64,65,66,67]),(12,[14,56,57,58,59,60,61]),(11,[55]),(10,[39,47,48,49,50,51,52,53,54]),(9,[45,46]),(8,[39,40,41,42,43,44]),(7,[32,38]),(6,[0,1,2,3,4,10,11,12,32,33,34,35,36,37]),(5,[25,31]),(4,[0,1,2,3,4,10,11,12,25,26,27,28,29,30]),(3,[24]),(2,[21,22,23])]
theorem yjX:compFn Tryz.prog [] (fun i=>(yvr.lookup i).getD []) Tryz.f198=some yvJ.fn:=by kernel_rfl
def yxd:List (Nat×List Nat):=[(1,[0,1,4,7,8,9,10,11,12,13]),(0,[5,6])]
theorem ykT:compFn Tryz.prog [] (fun i=>(yxd.lookup i).getD []) Tryz.f168=some yxp.fn:=by kernel_rfl
def yHD:List (Nat×List Nat):=[(2,[5,15]),(1,[2,3,6,7,8,9,10,11,12,13,14]),(0,[0,1,4])]
theorem ytH:compFn Tryz.prog [2,3] (fun i=>(yHD.lookup i).getD []) Tryz.f169=some ytc.fn:=by kernel_rfl
def yI6:List (Nat×List Nat):=[(12,[0,4,15,16,17,18,32,33,34,35,36,37,38,39,40,41]),(11,[6,28,31]),(10,[6,28,29,30]),(9,[24,25,26,27]),(8,[0,4,6,15,16,17,24]),(7,[21,22,23]),(6,[18,19,20]),(4,[3]),(3,[14]),(2,[12,13]),(1,[7,8,9,10,11]),(0,[2])]
theorem yxc:compFn Tryz.prog [4,6] (fun i=>(yI6.lookup i).getD []) Tryz.f121=some yvK.fn:=by kernel_rfl
def yMC:List (Nat×List Nat):=[(5,[0,1,6,7,8,19,20,21,22,23,24,25,26,27,28,29,30,31,32]),(4,[16,17,18]),(3,[10,12,13,14,15]),(2,[0,1,10,11]),(1,[9]),(0,[5])]
theorem yFs:compFn Tryz.prog [4] (fun i=>(yMC.lookup i).getD []) Tryz.f89=some yEb.fn:=by kernel_rfl
def yDJ:List (Nat×List Nat):=[(3,[0,1,2,8,31,32,33,34,35,36,37,38,39,40,41,42,43,44,45,46,47]),(2,[6,9,21,22,23,24,25,26,27,28,29,30]),(1,[7,10,11,12,13,14,15,16,17,18,19,20]),(0,[5])]
theorem yq4:compFn Tryz.prog [8] (fun i=>(yDJ.lookup i).getD []) Tryz.f122=some yjb.fn:=by kernel_rfl
def yDK:List (Nat×List Nat):=[(1,[0,1,2,6,7,8,9,10,11,12,13,14,15,16,17,18,19,20,21,22,23,24,25,26]),(0,[5])]
theorem yq5:compFn Tryz.prog [] (fun i=>(yDK.lookup i).getD []) Tryz.f124=some yjc.fn:=by kernel_rfl
def yDL:List (Nat×List Nat):=[(1,[0,1,2,6,7,8,9,10,11,12,13,14,15,16,17,18,19,20,21,22,23]),(0,[5])]
theorem yq6:compFn Tryz.prog [] (fun i=>(yDL.lookup i).getD []) Tryz.f125=some yjd.fn:=by kernel_rfl
def yDM:List (Nat×List Nat):=[(1,[0,1,2,6,7,8,9,10,11,12,13,14,15,16,17,18,19]),(0,[5])]
theorem yq7:compFn Tryz.prog [] (fun i=>(yDM.lookup i).getD []) Tryz.f126=some yje.fn:=by kernel_rfl
def yFv:List (Nat×List Nat):=[(13,[2,45,53,54,55,56,57,58]),(12,[2,45,47,48,49,50,51,52]),(11,[10,37,46]),(10,[2,10,37,39,40,41,42,43,44]),(9,[29,38]),(8,[2,10,29,31,32,33,34,35,36]),(7,[11,30]),(6,[7,8,9,25,26,27,28]),(5,[7,8,9,25]),(4,[2,20,21,22,23,24]),(3,[10,11,13,14,15,16,17,18,19]),(2,[12]),(1,[1]),(0,[0,4,5,6])]
theorem ysQ:compFn Tryz.prog [] (fun i=>(yFv.lookup i).getD []) Tryz.f53=some yrE.fn:=by kernel_rfl
def yMD:List (Nat×List Nat):=[(14,[6,8,32,33,52]),(13,[9,44,51]),(12,[9,44,45,46,47,48,49,50]),(11,[12,43]),(10,[10,11,35,36,37,38,39,40,41,42]),(9,[33,34]),(6,[7,24,27,28,29,30,31]),(5,[6,7,24,25,26]),(4,[20,23]),(3,[20,21,22]),(2,[19]),(1,[0,3,13,14,15,16,17,18]),(0,[1,5])]
theorem yFt:compFn Tryz.prog [3,4,8,1000003,1000004,1000008] (fun i=>(yMD.lookup i).getD []) Tryz.f11=some yEc.fn:=by kernel_rfl
def yKY:List (Nat×List Nat):=[(13,[0,1,5,15]),(5,[6,16,17,35]),(10,[36,37,52]),(12,[0,1,5,6,52]),(11,[35,38,39,40,41,42,43,44,45,46,47,48,49,50,51]),(9,[29,30,31,32,33,34]),(8,[28]),(7,[0,1,5,28]),(6,[15,18,19,20,21,22,23,24,25,26,27]),(4,[12,13,14]),(3,[11]),(2,[0,1,11]),(1,[7,8,9,10]),(0,[4])]
theorem yzv:compFn Tryz.prog [] (fun i=>(yKY.lookup i).getD []) Tryz.f49=some yyP.fn:=by kernel_rfl
def yMq:List (Nat×List Nat):=[(19,[50,51,52]),(18,[2,9,12,41,43,44,45,46,47,48,49]),(17,[2,12,41,42]),(16,[37,40]),(15,[37,38,39]),(14,[11,33,34,35,36]),(13,[0,4,19,22,27,28,29,30,31,32]),(12,[0,2,4,11,19,22]),(11,[19,20]),(10,[19,26]),(9,[25]),(8,[24]),(7,[20,23]),(6,[21]),(4,[10,17]),(3,[0,2,4,10,17,18]),(2,[16]),(1,[13,14,15]),(0,[1,6,7,8,9])]
theorem yCS:compFn Tryz.prog [4,1000004] (fun i=>(yMq.lookup i).getD []) Tryz.f62=some yBK.fn:=by kernel_rfl
def yKZ:List (Nat×List Nat):=[(4,[24,25,26,27]),(3,[24]),(2,[9,19,20,21,22,23]),(1,[0,2,4,10,11,12,13,14,15,16,17,18]),(0,[1,6,7,8])]
theorem yzw:compFn Tryz.prog [4,1000004] (fun i=>(yKZ.lookup i).getD []) Tryz.f16=some yyQ.fn:=by kernel_rfl
def yMr:List (Nat×List Nat):=[(2,[10,11,21,22,23,24,25,26,27]),(1,[0,2,4,8,9,12,13,14,15,16,17,18,19,20]),(0,[1,6,7])]
theorem yCT:compFn Tryz.prog [4,1000004] (fun i=>(yMr.lookup i).getD []) Tryz.f22=some yBL.fn:=by kernel_rfl
def yMs:List (Nat×List Nat):=[(3,[3,4,11,12,13,14,15,31,32,33,34,35,36,37,38,39,40,41,42,43,44,45,46,47,48,49,50]),(2,[0,2,6,24,25,26,27,28,29,30]),(1,[16,17,18,19,20,21,22,23]),(0,[1,10])]
theorem yCU:compFn Tryz.prog [6] (fun i=>(yMs.lookup i).getD []) Tryz.f50=some yBM.fn:=by kernel_rfl
def yNM:List (Nat×List Nat):=[(6,[1,3,4,5,6,7,8,9,10,39,40,41,42,43,44,45,46,47,48,49,50,51,52,53,54,55,56,57,58,59,60,61,62,63,64,65,66,67,68,69,70,71,72,73,74,75,76,77,78,79,80,81,82,83,84]),(5,[37,38]),(4,[2,31,32,33,34,35,36]),(3,[25,26,27,28,29,30]),(2,[19,20,21,22,23,24]),(1,[11,12,13,14,15,16,17,18]),(0,[0])]
theorem yHE:compFn Tryz.prog [13,17,45,48,49,1,2,5,7,9,10] (fun i=>(yNM.lookup i).getD []) Tryz.f10=some yGj.fn:=by kernel_rfl
def yNS:List (Nat×List Nat):=[(5,[5,6,20,23,24,25]),(4,[20,21,22]),(3,[2,17,18,19]),(2,[3,12,13,14,15,16]),(1,[7,8,9,10,11]),(0,[0,1])]
theorem yI7:compFn Tryz.prog [2,3,4] (fun i=>(yNS.lookup i).getD []) Tryz.f127=some yIh.fn:=by kernel_rfl
def yNN:List (Nat×List Nat):=[(4,[2,3,5,15,18,19,20,21,22,23,24]),(3,[15,16,17]),(2,[11,12,13,14]),(1,[6,7,8,9,10]),(0,[0,1])]
theorem yHF:compFn Tryz.prog [2,3,4] (fun i=>(yNN.lookup i).getD []) Tryz.f128=some yGk.fn:=by kernel_rfl
def yNO:List (Nat×List Nat):=[(14,[1,2,6,7,8,11,45,46]),(5,[12,13,37]),(13,[41,42,43,44]),(12,[37,38,39,40]),(11,[35,36]),(10,[32,33,34]),(9,[9,21,28,29,30,31]),(8,[21,22,23,24,25,26,27]),(7,[20]),(6,[11,14,15,16,17,18,19]),(4,[10]),(0,[0,5])]
theorem yHG:compFn Tryz.prog [2,4,6] (fun i=>(yNO.lookup i).getD []) Tryz.f129=some yGl.fn:=by kernel_rfl
def yNT:List (Nat×List Nat):=[(6,[8,35,40]),(5,[35,36,37,38,39]),(4,[0]),(3,[4,5,26,28,29,30,31,32,33,34]),(2,[0,4,5,26,27]),(1,[9,10,11,12,13,14,15,16,17,18,19,20,21,22,23,24,25]),(0,[1,2,7])]
theorem yI8:compFn Tryz.prog [4,5,6,8] (fun i=>(yNT.lookup i).getD []) Tryz.f98=some yIi.fn:=by kernel_rfl
def yOA:List (Nat×List Nat):=[(17,[2,3,6,9,13,14,93,94,95,96,97,98,99,100,101,102,103,104,105,106,107,108]),(16,[10,15,87,88,89,90,91,92]),(15,[12,84,85,86]),(14,[11,76,78,79,80,81,82,83]),(13,[2,3,6,9,10,76,77]),(12,[7,8,61,67,74,75]),(11,[71,72,73]),(10,[7,8,9,67,68,69,70]),(9,[65,66]),(8,[61,62,63,64]),(7,[55,56,57,58,59,60]),(6,[52,53,54]),(5,[49,50,51]),(4,[31,32,33,34,35,36,37,38,39,40,41,42,43,44,45,46,47,48]),(3,[19,24,25,26,27,28,29,30]),(2,[2,3,19,20,21,22,23]),(1,[16,17,18]),(0,[0,1,5])]
theorem yK0:compFn Tryz.prog [2,3,4,7,8,10,11,14] (fun i=>(yOA.lookup i).getD []) Tryz.f54=some yKj.fn:=by kernel_rfl
def yOB:List (Nat×List Nat):=[(16,[0,5,6,35,52]),(11,[36,37]),(15,[7,8,48,51]),(14,[0,5,6,7,8,48,49,50]),(13,[47]),(12,[35,38,39,40,41,42,43,44,45,46]),(10,[32,33,34]),(8,[4,16,31]),(5,[17,18,24]),(7,[0,4,24,25,26,27,28,29,30]),(6,[16,19,20,21,22,23]),(4,[13,14,15]),(3,[11]),(2,[0,11,12]),(1,[9,10]),(0,[3])]
theorem yK1:compFn Tryz.prog [2,5,7] (fun i=>(yOB.lookup i).getD []) Tryz.f12=some yKk.fn:=by kernel_rfl
def yHL:List (Nat×List Nat):=[(19,[0,5,10,82,117]),(13,[11,13,14,83,84,109,116]),(18,[0,5,10,116]),(17,[11,13,14,109,110,111,112,113,114,115]),(16,[12,108]),(15,[94,95,96,97,98,99,100,101,102,103,104,105,106,107]),(14,[82,85,86,87,88,89,90,91,92,93]),(12,[79,80,81]),(11,[77]),(10,[0,5,77,78]),(9,[7,75,76]),(8,[0,5,7,75]),(7,[8,9,45,46,47,48,49,50,51,52,53,54,55,56,57,58,59,60,61,62,63,64,65,66,67,68,69,70,71,72,73,74]),(6,[6,27,33,34,35,36,37,38,39,40,41,42,43,44]),(5,[0,5,6,27,28,29,30,31,32]),(4,[26]),(3,[3,18,20,21,22,23,24,25]),(2,[0,3,18,19]),(1,[15,16,17]),(0,[1,4])]
theorem yvq:compFn Tryz.prog [104,3,5,11,13] (fun i=>(yHL.lookup i).getD []) Tryz.f3=some yuC.fn:=by kernel_rfl
theorem tabOk:AllOk Tryz.prog tab:=by
  unfold tab
  simp only [AllOk]
  exact ⟨⟨Tryz.f113,_,_,Tryz.func113,yHe⟩,⟨Tryz.f74,_,_,Tryz.func74,yHf⟩,⟨Tryz.f23,_,_,Tryz.func23,yyd⟩,⟨Tryz.f45,_,_,Tryz.func45,yHg⟩,⟨Tryz.f81,_,_,Tryz.func81,yHh⟩,⟨Tryz.f31,_,_,Tryz.func31,yHi⟩,⟨Tryz.f70,_,_,Tryz.func70,yKM⟩,⟨Tryz.f94,_,_,Tryz.func94,yKN⟩,⟨Tryz.f35,_,_,Tryz.func35,yHj⟩,⟨Tryz.f97,_,_,Tryz.func97,yI1⟩,⟨Tryz.f69,_,_,Tryz.func69,yHk⟩,⟨Tryz.f71,_,_,Tryz.func71,yI2⟩,⟨Tryz.f19,_,_,Tryz.func19,yI3⟩,⟨Tryz.f68,_,_,Tryz.func68,yHl⟩,⟨Tryz.f20,_,_,Tryz.func20,yHm⟩,⟨Tryz.f38,_,_,Tryz.func38,yMe⟩,⟨Tryz.f95,_,_,Tryz.func95,yHn⟩,⟨Tryz.f114,_,_,Tryz.func114,yFj⟩,⟨Tryz.f46,_,_,Tryz.func46,yHo⟩,⟨Tryz.f9,_,_,Tryz.func9,yHp⟩,⟨Tryz.f14,_,_,Tryz.func14,yMf⟩,⟨Tryz.f47,_,_,Tryz.func47,yHq⟩,⟨Tryz.f48,_,_,Tryz.func48,yKO⟩,⟨Tryz.f130,_,_,Tryz.func130,yzr⟩,⟨Tryz.f131,_,_,Tryz.func131,yzs⟩,⟨Tryz.f55,_,_,Tryz.func55,yFk⟩,⟨Tryz.f86,_,_,Tryz.func86,yHr⟩,⟨Tryz.f147,_,_,Tryz.func147,yFl⟩,⟨Tryz.f150,_,_,Tryz.func150,yHs⟩,⟨Tryz.f174,_,_,Tryz.func174,yCI⟩,⟨Tryz.f179,_,_,Tryz.func179,yvm⟩,⟨Tryz.f144,_,_,Tryz.func144,yCJ⟩,⟨Tryz.f180,_,_,Tryz.func180,yw9⟩,⟨Tryz.f145,_,_,Tryz.func145,ytF⟩,⟨Tryz.f146,_,_,Tryz.func146,yKR⟩,⟨Tryz.f181,_,_,Tryz.func181,yvn⟩,⟨Tryz.f149,_,_,Tryz.func149,ysP⟩,⟨Tryz.f148,_,_,Tryz.func148,yFm⟩,⟨Tryz.f87,_,_,Tryz.func87,yHu⟩,⟨Tryz.f66,_,_,Tryz.func66,yCK⟩,⟨Tryz.f132,_,_,Tryz.func132,yHv⟩,⟨Tryz.f57,_,_,Tryz.func57,yCL⟩,⟨Tryz.f56,_,_,Tryz.func56,yCM⟩,⟨Tryz.f117,_,_,Tryz.func117,yCN⟩,⟨Tryz.f123,_,_,Tryz.func123,yFn⟩,⟨Tryz.f61,_,_,Tryz.func61,yCO⟩,⟨Tryz.f136,_,_,Tryz.func136,yFo⟩,⟨Tryz.f135,_,_,Tryz.func135,yHw⟩,⟨Tryz.f134,_,_,Tryz.func134,yFp⟩,⟨Tryz.f140,_,_,Tryz.func140,yKS⟩,⟨Tryz.f199,_,_,Tryz.func199,yvo⟩,⟨Tryz.f173,_,_,Tryz.func173,yKT⟩,⟨Tryz.f172,_,_,Tryz.func172,yKU⟩,⟨Tryz.f151,_,_,Tryz.func151,yBw⟩,⟨Tryz.f133,_,_,Tryz.func133,yHx⟩,⟨Tryz.f137,_,_,Tryz.func137,yHy⟩,⟨Tryz.f138,_,_,Tryz.func138,yHz⟩,⟨Tryz.f60,_,_,Tryz.func60,yFq⟩,⟨Tryz.f59,_,_,Tryz.func59,yzt⟩,⟨Tryz.f58,_,_,Tryz.func58,yHA⟩,⟨Tryz.f13,_,_,Tryz.func13,yCP⟩,⟨Tryz.f15,_,_,Tryz.func15,yCQ⟩,⟨Tryz.f51,_,_,Tryz.func51,yye⟩,⟨Tryz.f115,_,_,Tryz.func115,yFr⟩,⟨Tryz.f116,_,_,Tryz.func116,yHB⟩,⟨Tryz.f52,_,_,Tryz.func52,yvp⟩,⟨Tryz.f166,_,_,Tryz.func166,yxa⟩,⟨Tryz.f196,_,_,Tryz.func196,yjY⟩,⟨Tryz.f164,_,_,Tryz.func164,yit⟩,⟨Tryz.f165,_,_,Tryz.func165,yzu⟩,⟨Tryz.f120,_,_,Tryz.func120,yCR⟩,⟨Tryz.f119,_,_,Tryz.func119,yq3⟩,⟨Tryz.f118,_,_,Tryz.func118,ytG⟩,⟨Tryz.f197,_,_,Tryz.func197,yn4⟩,⟨Tryz.f167,_,_,Tryz.func167,yml⟩,⟨Tryz.f139,_,_,Tryz.func139,yKX⟩,⟨Tryz.f75,_,_,Tryz.func75,yNL⟩,⟨Tryz.f209,_,_,Tryz.func209,yhl⟩,⟨Tryz.f198,_,_,Tryz.func198,yjX⟩,⟨Tryz.f168,_,_,Tryz.func168,ykT⟩,⟨Tryz.f169,_,_,Tryz.func169,ytH⟩,⟨Tryz.f121,_,_,Tryz.func121,yxc⟩,⟨Tryz.f89,_,_,Tryz.func89,yFs⟩,⟨Tryz.f122,_,_,Tryz.func122,yq4⟩,⟨Tryz.f124,_,_,Tryz.func124,yq5⟩,⟨Tryz.f125,_,_,Tryz.func125,yq6⟩,⟨Tryz.f126,_,_,Tryz.func126,yq7⟩,⟨Tryz.f53,_,_,Tryz.func53,ysQ⟩,⟨Tryz.f11,_,_,Tryz.func11,yFt⟩,⟨Tryz.f49,_,_,Tryz.func49,yzv⟩,⟨Tryz.f62,_,_,Tryz.func62,yCS⟩,⟨Tryz.f16,_,_,Tryz.func16,yzw⟩,⟨Tryz.f22,_,_,Tryz.func22,yCT⟩,⟨Tryz.f50,_,_,Tryz.func50,yCU⟩,⟨Tryz.f10,_,_,Tryz.func10,yHE⟩,⟨Tryz.f127,_,_,Tryz.func127,yI7⟩,⟨Tryz.f128,_,_,Tryz.func128,yHF⟩,⟨Tryz.f129,_,_,Tryz.func129,yHG⟩,⟨Tryz.f98,_,_,Tryz.func98,yI8⟩,⟨Tryz.f54,_,_,Tryz.func54,yK0⟩,⟨Tryz.f12,_,_,Tryz.func12,yK1⟩,⟨Tryz.f3,_,_,Tryz.func3,yvq⟩,trivial⟩
theorem hm:Tryz.prog.follows .mixedOrders=true:=by kernel_rfl
theorem isAdd:IsExtern Tryz.prog yiy add64Entry:=⟨_,Tryz.func170,by kernel_rfl,by kernel_rfl,by kernel_rfl,by kernel_rfl⟩
theorem isSub:IsExtern Tryz.prog yiz sub64E:=⟨_,Tryz.func171,by kernel_rfl,by kernel_rfl,by kernel_rfl,by kernel_rfl⟩
theorem k0C:EnvOk Tryz.prog E0C:=by
  refine yLm hm isAdd isSub tabOk ?_
  intro n e b h
  cases h
theorem kN:EnvOk Tryz.prog (E []):=yFV k0C fun e h=>by cases h
theorem ysR:SortsAt Tryz.prog yrj.s yrj.cf yrj.srt where
  size:=yrj.srt_size (yIO _ _)
  pos:=by decide
  enters:=enters_of Tryz.func169 (by kernel_rfl) rfl
  entersN:=enters_of Tryz.func168 (by kernel_rfl) rfl
  law:=fun blk off cap d w hc hH hb hs=>AnyQ.slices_SortFunc_eq Tryz.sortSp 4 Tryz.isAgg45 Tryz.sizeOf45 yrj.s.enc (fun x=>Srt.enc_len x) (fun x=>Srt.enc_one x) yrj.cf (yIO _ _) 169 #[] blk off cap d w (enters_of Tryz.func169 (by kernel_rfl) rfl) hc hH hb hs
theorem kS:EnvOk Tryz.prog (E ef0):=by
  refine yFV k0C ?_
  intro e h
  simp only [ef0,List.mem_cons,List.not_mem_nil,or_false] at h
  rcases h with rfl
  exact yKL yrj.s ysR (fun x y=>yJl kN hm (yab (by kernel_rfl) _) (by kernel_rfl) (yMc [] ybg x.2 y.2)) (yxl k0C hm 60) (fun H=>by kernel_rfl) (fun H=>by kernel_rfl)
end Go.Proofs.YtegkpannhahmcaaGreat.Pi
