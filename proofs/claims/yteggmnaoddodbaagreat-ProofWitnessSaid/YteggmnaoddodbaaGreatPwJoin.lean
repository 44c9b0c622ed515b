/- The statement ProofWitness: what the conditions and their plain laws say of the program's functions, joined with the program. -/
import Derived.Test.YteggmnaoddodbaaGreatRows

import Derived.Test.YteggmnaoddodbaaGreatPwW6
import Derived.WalkKit
import Derived.ProofKit
import Derived.OpenShut
import Derived.ReadAgain
import Derived.ChangeBears




import Derived.Shelf.SlSortCmp.WholeK
import Derived.Test.YteggmnaoddodbaaGreatShelf
namespace Go.Proofs.YteggmnaoddodbaaGreat.Pw
open Go Go.Pf Go.Pf.Vc Go.ChangeShapes Go.WideShapes Go.ChangeAt Go.RowKit Go.Shelf Go.Sort Go.Lib Go.Proofs
set_option maxRecDepth 100000
def yNH:List (Nat×List Nat):=[(1,[0,3,4,5,6,7,8,9,10,11,12,13,14,15]),(0,[2])]
theorem yGE:yar Tryz.prog [] (fun i=>(yNH.lookup i).getD []) Tryz.f34=some yFw.fn:=by kernel_rfl
def yNI:List (Nat×List Nat):=[(1,[1,3,4,5,6,7,8,9,10,11,12]),(0,[0,2])]
theorem yGF:yar Tryz.prog [1] (fun i=>(yNI.lookup i).getD []) Tryz.f52=some yFx.fn:=by kernel_rfl
def yJC:List (Nat×List Nat):=[(6,[0,3,7,15,16,17]),(3,[8,9,14]),(5,[0,3,14]),(4,[7,10,11,12,13]),(2,[4,5,6]),(0,[2])]
theorem ywo:yar Tryz.prog [] (fun i=>(yJC.lookup i).getD []) Tryz.f35=some yvj.fn:=by kernel_rfl
def yNJ:List (Nat×List Nat):=[(6,[0,3,5,10,19,20,21,22,23,24,25,26]),(3,[11,12,18]),(5,[0,3,5,18]),(4,[10,13,14,15,16,17]),(2,[6,7,8,9]),(0,[1,4])]
theorem yGG:yar Tryz.prog [3] (fun i=>(yNJ.lookup i).getD []) Tryz.f13=some yFy.fn:=by kernel_rfl
def yNK:List (Nat×List Nat):=[(14,[98]),(13,[98]),(12,[1,3,4,57,97]),(8,[58,59]),(11,[87,88,89,90,91,92,93,94,95,96]),(10,[1,3,4,87]),(9,[57,60,61,62,63,64,65,66,67,68,69,70,71,72,73,74,75,76,77,78,79,80,81,82,83,84,85,86]),(7,[53,54,55,56]),(5,[52]),(4,[1,52]),(3,[13,14,15,16,17,18,19,20,21,22,23,24,25,26,27,28,29,30,31,32,33,34,35,36,37,38,39,40,41,42,43,44,45,46,47,48,49,50,51]),(2,[1,13]),(1,[5,6,7,8,9,10,11,12]),(0,[0,2])]
theorem yGH:yar Tryz.prog [1] (fun i=>(yNK.lookup i).getD []) Tryz.f53=some yFz.fn:=by kernel_rfl
def yNL:List (Nat×List Nat):=[(15,[1,4,43]),(12,[44,45,57]),(14,[1,4,57]),(13,[43,46,47,48,49,50,51,52,53,54,55,56]),(11,[39,40,41,42]),(10,[3,23]),(7,[24,25,32]),(9,[1,3,32,33,34,35,36,37,38]),(8,[23,26,27,28,29,30,31]),(6,[19,20,21,22]),(5,[18]),(4,[1,18]),(3,[14,15,16,17]),(2,[1,14]),(1,[5,6,7,8,9,10,11,12,13]),(0,[0,2])]
theorem yGI:yar Tryz.prog [1] (fun i=>(yNL.lookup i).getD []) Tryz.f36=some yFA.fn:=by kernel_rfl
def yO1:List (Nat×List Nat):=[(3,[0,4,10,11]),(2,[0,4,5,6,7,8,9]),(1,[3]),(0,[2])]
theorem yKD:yar Tryz.prog [] (fun i=>(yO1.lookup i).getD []) Tryz.f32=some yJ2.fn:=by kernel_rfl
def yO2:List (Nat×List Nat):=[(3,[0,1,6,11]),(2,[6,7,8,9,10]),(1,[5]),(0,[4])]
theorem yKE:yar Tryz.prog [] (fun i=>(yO2.lookup i).getD []) Tryz.f98=some yJ3.fn:=by kernel_rfl
def yNM:List (Nat×List Nat):=[(3,[30]),(2,[30]),(1,[1,3,4,5,6,7,8,9,10,11,12,13,14,15,16,17,18,19,20,21,22,23,24,25,26,27,28,29]),(0,[0,2])]
theorem yGJ:yar Tryz.prog [1] (fun i=>(yNM.lookup i).getD []) Tryz.f81=some yFB.fn:=by kernel_rfl
def yOm:List (Nat×List Nat):=[(3,[2,3,7,10,11]),(2,[2,3,7,8,9]),(1,[5,6]),(0,[0,1,4])]
theorem yIs:yar Tryz.prog [2,3] (fun i=>(yOm.lookup i).getD []) Tryz.f51=some yHI.fn:=by kernel_rfl
def yNN:List (Nat×List Nat):=[(5,[5,7,9,10,11,35,36,37,38,39,40,41,42,43,44,45,46,47,48,49]),(4,[6,26,27,28,29,30,31,32,33,34]),(3,[8,20,21,22,23,24,25]),(2,[1,16,17,18,19]),(1,[0,12,13,14,15])]
theorem yGK:yar Tryz.prog [4] (fun i=>(yNN.lookup i).getD []) Tryz.f31=some yFC.fn:=by kernel_rfl
def yOn:List (Nat×List Nat):=[(1,[2,3,5,6,7,8,9,10,11,12,13,14,15,16,17,18,19,20,21,22,23]),(0,[0,1,4])]
theorem yIt:yar Tryz.prog [2,3] (fun i=>(yOn.lookup i).getD []) Tryz.f33=some yHJ.fn:=by kernel_rfl
def yOo:List (Nat×List Nat):=[(6,[5,6,33,37,38,39]),(5,[5,6,33,34,35,36]),(4,[2,31,32]),(3,[3,13,17,18,19,20,21,22,23,24,25,26,27,28,29,30]),(2,[2,3,13,14,15,16]),(1,[7,8,9,10,11,12]),(0,[0,1,4])]
theorem yIu:yar Tryz.prog [2,3,5,6] (fun i=>(yOo.lookup i).getD []) Tryz.f11=some yHK.fn:=by kernel_rfl
def yNO:List (Nat×List Nat):=[(1,[1,3,4,5,6,7,8,9,10,11,12,13,14,15]),(0,[0,2])]
theorem yGL:yar Tryz.prog [1] (fun i=>(yNO.lookup i).getD []) Tryz.f30=some yFD.fn:=by kernel_rfl
def yNP:List (Nat×List Nat):=[(8,[0,3,10]),(5,[11,12,37]),(7,[0,3,37]),(6,[10,13,14,15,16,17,18,19,20,21,22,23,24,25,26,27,28,29,30,31,32,33,34,35,36]),(4,[7,8,9]),(3,[6]),(2,[0,6]),(1,[4,5]),(0,[2])]
theorem yGM:yar Tryz.prog [] (fun i=>(yNP.lookup i).getD []) Tryz.f12=some yFE.fn:=by kernel_rfl
def yPb:List (Nat×List Nat):=[(1,[0,3,4])]
theorem yMs:yar Tryz.prog [2] (fun i=>(yPb.lookup i).getD []) Tryz.f18=some yLw.fn:=by kernel_rfl
def yNQ:List (Nat×List Nat):=[(1,[0,3,5,6,7,8,9,10,11,12,13,14,15,16,17,18,19]),(0,[1,4])]
theorem yGN:yar Tryz.prog [3] (fun i=>(yNQ.lookup i).getD []) Tryz.f54=some yFF.fn:=by kernel_rfl
def yMJ:List (Nat×List Nat):=[(6,[0,1,5,9]),(3,[10,11,29]),(5,[0,1,5,29]),(4,[9,12,13,14,15,16,17,18,19,20,21,22,23,24,25,26,27,28]),(2,[6,7,8]),(0,[4])]
theorem yEy:yar Tryz.prog [] (fun i=>(yMJ.lookup i).getD []) Tryz.f37=some yDf.fn:=by kernel_rfl
def yNR:List (Nat×List Nat):=[(17,[0,3,8,41]),(14,[42,43,54]),(16,[0,3,8,54]),(15,[41,44,45,46,47,48,49,50,51,52,53]),(13,[37,38,39,40]),(12,[6,25]),(8,[7,26,27,35]),(11,[0,3,6,7,35,36]),(10,[34]),(9,[25,28,29,30,31,32,33]),(7,[21,22,23,24]),(6,[20]),(5,[0,3,20]),(4,[5,13,15,16,17,18,19]),(3,[0,3,5,13,14]),(2,[12]),(1,[9,10,11]),(0,[1,4])]
theorem yGO:yar Tryz.prog [3] (fun i=>(yNR.lookup i).getD []) Tryz.f14=some yFG.fn:=by kernel_rfl
def yNS:List (Nat×List Nat):=[(1,[0,3,5,6,7,8,9,10,11,12,13,14]),(0,[1,4])]
theorem yGP:yar Tryz.prog [3] (fun i=>(yNS.lookup i).getD []) Tryz.f4=some yFH.fn:=by kernel_rfl
def yPc:List (Nat×List Nat):=[(1,[0,1,5,6,7,8,9])]
theorem yMt:yar Tryz.prog [4] (fun i=>(yPc.lookup i).getD []) Tryz.f9=some yLx.fn:=by kernel_rfl
def yNT:List (Nat×List Nat):=[(6,[0,3,4,8,21]),(4,[9,10]),(5,[8,11,12,13,14,15,16,17,18,19,20]),(3,[5,6,7])]
theorem yGQ:yar Tryz.prog [17,18,2,3] (fun i=>(yNT.lookup i).getD []) Tryz.f15=some yFI.fn:=by kernel_rfl
def yO3:List (Nat×List Nat):=[(1,[1,2,3,4,5,6,7]),(0,[0])]
theorem yKF:yar Tryz.prog [1,2,4,5] (fun i=>(yO3.lookup i).getD []) Tryz.f16=some yJ4.fn:=by kernel_rfl
def yKG:List (Nat×List Nat):=[(8,[0,3,4,15,24]),(6,[16,17]),(7,[15,18,19,20,21,22,23]),(5,[12,13,14]),(3,[7,9,10,11]),(2,[7,8]),(1,[5,6]),(0,[2])]
theorem yxB:yar Tryz.prog [] (fun i=>(yKG.lookup i).getD []) Tryz.f67=some ywQ.fn:=by kernel_rfl
def yKH:List (Nat×List Nat):=[(8,[0,3,4,15,24]),(6,[16,17]),(7,[15,18,19,20,21,22,23]),(5,[12,13,14]),(3,[7,9,10,11]),(2,[7,8]),(1,[5,6]),(0,[2])]
theorem yxC:yar Tryz.prog [] (fun i=>(yKH.lookup i).getD []) Tryz.f68=some ywR.fn:=by kernel_rfl
def yMK:List (Nat×List Nat):=[(14,[81]),(13,[81]),(12,[1,49,50,51,66,67,68,69,70,71,72,73,74,75,76,77,78,79,80]),(11,[64,65]),(10,[1,49,50,64]),(9,[4,53,54,55,56,57,58,59,60,61,62,63]),(8,[51,52]),(6,[3,47,48]),(5,[1,3,47]),(4,[14,15,16,17,18,19,20,21,22,23,24,25,26,27,28,29,30,31,32,33,34,35,36,37,38,39,40,41,42,43,44,45,46]),(3,[1,3,14]),(2,[8,9,10,11,12,13]),(1,[5,6,7]),(0,[0,2])]
theorem yEz:yar Tryz.prog [1] (fun i=>(yMK.lookup i).getD []) Tryz.f46=some yDg.fn:=by kernel_rfl
def yNU:List (Nat×List Nat):=[(18,[1,36,37,38,39]),(17,[49,50]),(16,[1,36,37,38,49]),(15,[7,42,43,44,45,46,47,48]),(14,[39,40,41]),(12,[23,24,25,26,35]),(11,[5,32,34]),(10,[1,5,23,24,25,32,33]),(9,[31]),(8,[4,29,30]),(7,[26,27,28]),(5,[21,22]),(4,[1,21]),(3,[17,18,19,20]),(2,[1,17]),(1,[8,9,10,11,12,13,14,15,16]),(0,[0,2])]
theorem yGR:yar Tryz.prog [1,4,7] (fun i=>(yNU.lookup i).getD []) Tryz.f42=some yFJ.fn:=by kernel_rfl
def yML:List (Nat×List Nat):=[(3,[0,4,8,9]),(2,[0,4,5,6,7]),(1,[3]),(0,[2])]
theorem yEA:yar Tryz.prog [] (fun i=>(yML.lookup i).getD []) Tryz.f78=some yDh.fn:=by kernel_rfl
def yNV:List (Nat×List Nat):=[(3,[0,1,6,11]),(2,[6,7,8,9,10]),(1,[5]),(0,[4])]
theorem yGS:yar Tryz.prog [] (fun i=>(yNV.lookup i).getD []) Tryz.f88=some yFK.fn:=by kernel_rfl
def yMu:List (Nat×List Nat):=[(3,[25]),(2,[25]),(1,[1,3,4,5,6,7,8,9,10,11,12,13,14,15,16,17,18,19,20,21,22,23,24]),(0,[0,2])]
theorem yBp:yar Tryz.prog [1] (fun i=>(yMu.lookup i).getD []) Tryz.f94=some yAo.fn:=by kernel_rfl
def yG6:List (Nat×List Nat):=[(8,[3,6,7,8,9,17]),(7,[5,14,16]),(6,[3,5,6,7,8,14,15]),(5,[12,13]),(4,[9,10,11]),(2,[0]),(0,[2])]
theorem ys1:yar Tryz.prog [] (fun i=>(yG6.lookup i).getD []) Tryz.f95=some yso.fn:=by kernel_rfl
def yMv:List (Nat×List Nat):=[(1,[2,3,5,6,7,8,9,10]),(0,[0,1,4])]
theorem yBq:yar Tryz.prog [9,2,3] (fun i=>(yMv.lookup i).getD []) Tryz.f75=some yAp.fn:=by kernel_rfl
def yIv:List (Nat×List Nat):=[(1,[0,3,4,5]),(0,[2])]
theorem yuU:yar Tryz.prog [] (fun i=>(yIv.lookup i).getD []) Tryz.f96=some ytB.fn:=by kernel_rfl
def yGT:List (Nat×List Nat):=[(13,[19]),(12,[19]),(11,[0,1,16,17,18]),(10,[0,1,16]),(9,[13,14,15]),(8,[0,1,13]),(7,[6,11]),(6,[12]),(5,[12]),(4,[0,1,6,11]),(3,[5]),(2,[9,10]),(1,[7,8]),(0,[4])]
theorem yrg:yar Tryz.prog [] (fun i=>(yGT.lookup i).getD []) Tryz.f76=some yqR.fn:=by kernel_rfl
def yO4:List (Nat×List Nat):=[(11,[0,1,48,49,50]),(10,[7,9,12,13,40,41,42,43,44,45,46,47]),(9,[6,35,36,37,38,39]),(8,[11,33,34]),(7,[31,32]),(6,[8,10,25,26,27,28,29,30]),(5,[22,23,24]),(4,[20,21]),(3,[18,19]),(2,[16,17]),(1,[14,15]),(0,[4,5])]
theorem yKI:yar Tryz.prog [] (fun i=>(yO4.lookup i).getD []) Tryz.f77=some yJ5.fn:=by kernel_rfl
def yG7:List (Nat×List Nat):=[(1,[0,3,4,5]),(0,[2])]
theorem ys2:yar Tryz.prog [] (fun i=>(yG7.lookup i).getD []) Tryz.f97=some ysp.fn:=by kernel_rfl
def yEL:List (Nat×List Nat):=[(13,[19]),(12,[19]),(11,[0,1,16,17,18]),(10,[0,1,16]),(9,[13,14,15]),(8,[0,1,13]),(7,[6,11]),(6,[12]),(5,[12]),(4,[0,1,6,11]),(3,[5]),(2,[9,10]),(1,[7,8]),(0,[4])]
theorem yql:yar Tryz.prog [] (fun i=>(yEL.lookup i).getD []) Tryz.f80=some ypd.fn:=by kernel_rfl
def yMM:List (Nat×List Nat):=[(8,[3,6,7,8,9,17]),(7,[5,14,16]),(6,[3,5,6,7,8,14,15]),(5,[12,13]),(4,[9,10,11]),(2,[0]),(0,[2])]
theorem yEB:yar Tryz.prog [] (fun i=>(yMM.lookup i).getD []) Tryz.f79=some yDi.fn:=by kernel_rfl
def yNW:List (Nat×List Nat):=[(11,[11,60,63]),(10,[60,61,62]),(9,[2,58,59]),(8,[7,8,9,10,50,51,52,53,54,55,56,57]),(7,[3,40,41,42,43,44,45,46,47,48,49]),(6,[24,30,31,32,33,34,35,36,37,38,39]),(5,[2,3,24,25,26,27,28,29]),(4,[6,16,18,19,20,21,22,23]),(3,[2,3,6,16,17]),(2,[15]),(1,[12,13,14]),(0,[0,1,4,5])]
theorem yGU:yar Tryz.prog [56,2,3] (fun i=>(yNW.lookup i).getD []) Tryz.f50=some yFL.fn:=by kernel_rfl
def yMw:List (Nat×List Nat):=[(2,[3,4,13,14,15,16,17,18]),(1,[1,5,6,7,8,9,10,11,12]),(0,[0,2])]
theorem yBr:yar Tryz.prog [1] (fun i=>(yMw.lookup i).getD []) Tryz.f27=some yAq.fn:=by kernel_rfl
def yNX:List (Nat×List Nat):=[(9,[8,9,10,11]),(8,[16,17]),(7,[8,9,10,16]),(6,[4,14,15]),(5,[11,12,13]),(3,[0,7]),(2,[0,7]),(1,[5,6]),(0,[2])]
theorem yGV:yar Tryz.prog [4] (fun i=>(yNX.lookup i).getD []) Tryz.f66=some yFM.fn:=by kernel_rfl
def yMx:List (Nat×List Nat):=[(2,[5,13]),(1,[2,3,6,7,8,9,10,11,12]),(0,[0,1,4])]
theorem yBs:yar Tryz.prog [2,3] (fun i=>(yMx.lookup i).getD []) Tryz.f28=some yAr.fn:=by kernel_rfl
def yMy:List (Nat×List Nat):=[(9,[0,4,13]),(6,[14,15,28]),(8,[0,4,28]),(7,[13,16,17,18,19,20,21,22,23,24,25,26,27]),(5,[10,11,12]),(4,[3,8]),(3,[0,3,8,9]),(2,[7]),(1,[5,6]),(0,[2])]
theorem yBt:yar Tryz.prog [] (fun i=>(yMy.lookup i).getD []) Tryz.f43=some yAs.fn:=by kernel_rfl
def yMz:List (Nat×List Nat):=[(1,[0,3,4])]
theorem yBu:yar Tryz.prog [2,1000002] (fun i=>(yMz.lookup i).getD []) Tryz.f45=some yAt.fn:=by kernel_rfl
def yMN:List (Nat×List Nat):=[(2,[5,13,14]),(1,[2,3,6,7,8,9,10,11,12]),(0,[0,1,4])]
theorem yEC:yar Tryz.prog [2,3,1000002,1000003] (fun i=>(yMN.lookup i).getD []) Tryz.f44=some yDj.fn:=by kernel_rfl
def yMA:List (Nat×List Nat):=[(20,[0,38,39,40,41]),(19,[69,70]),(18,[0,38,39,40,69]),(17,[10,11,46,47,48,49,50,51,52,53,54,55,56,57,58,59,60,61,62,63,64,65,66,67,68]),(16,[44,45]),(15,[41,42,43]),(13,[3,25,26,27,28,37]),(12,[8,34,36]),(11,[0,3,8,25,26,27,34,35]),(10,[33]),(9,[7,31,32]),(8,[28,29,30]),(6,[23,24]),(5,[0,3,23]),(4,[5,16,18,19,20,21,22]),(3,[0,3,5,16,17]),(2,[15]),(1,[12,13,14]),(0,[1,4])]
theorem yBv:yar Tryz.prog [3,1000003] (fun i=>(yMA.lookup i).getD []) Tryz.f21=some yAu.fn:=by kernel_rfl
def yMO:List (Nat×List Nat):=[(1,[0,3,4])]
theorem yED:yar Tryz.prog [2] (fun i=>(yMO.lookup i).getD []) Tryz.f72=some yDk.fn:=by kernel_rfl
def yNY:List (Nat×List Nat):=[(2,[5,13,14]),(1,[2,3,6,7,8,9,10,11,12]),(0,[0,1,4])]
theorem yGW:yar Tryz.prog [2,3] (fun i=>(yNY.lookup i).getD []) Tryz.f71=some yFN.fn:=by kernel_rfl
def yMP:List (Nat×List Nat):=[(1,[2,3,5,6,7,8,9,10,11,12,13,14,15,16,17,18,19,20]),(0,[0,1,4])]
theorem yEE:yar Tryz.prog [2,3] (fun i=>(yMP.lookup i).getD []) Tryz.f70=some yDl.fn:=by kernel_rfl
def yO5:List (Nat×List Nat):=[(10,[0,14,19,20,21,22,23,24]),(9,[17,18]),(8,[14,15,16]),(7,[8,13]),(6,[11,12]),(5,[8,9,10]),(4,[4,7]),(2,[2,4,5,6]),(1,[3])]
theorem yKJ:yar Tryz.prog [] (fun i=>(yO5.lookup i).getD []) Tryz.f113=some yJ6.fn:=by kernel_rfl
def yG8:List (Nat×List Nat):=[(1,[0,3,4,5]),(0,[2])]
theorem ys3:yar Tryz.prog [] (fun i=>(yG8.lookup i).getD []) Tryz.f103=some ysq.fn:=by kernel_rfl
def yO6:List (Nat×List Nat):=[(28,[2,8,9,10,14,15,16,17,18,113,120,121,122,123,124,125,126,127,128,129,130,131,132,133,134]),(27,[119]),(26,[116,117,118]),(25,[113,114,115]),(24,[102,103,104,105,106,107,108,109,110,111,112,120]),(23,[97,98,99,100,101]),(22,[94,95,96]),(21,[11,13,16,78,85,86,87,88,89,90,91,92,93]),(20,[84]),(19,[81,82,83]),(18,[78,79,80]),(17,[67,68,69,70,71,72,73,74,75,76,77,85]),(16,[62,63,64,65,66]),(15,[59,60,61]),(14,[12,57,58]),(13,[55,56]),(12,[1,52,53,54]),(11,[0,44,45,46,47,48,49,50,51]),(10,[42,43]),(9,[40,41]),(8,[37,38,39]),(7,[27,34,35,36]),(6,[0,1,2,27,28,29,30,31,32,33]),(5,[24,26]),(4,[24,25]),(3,[20,22,23]),(2,[20,21]),(1,[19]),(0,[6,7])]
theorem yKK:yar Tryz.prog [] (fun i=>(yO6.lookup i).getD []) Tryz.f93=some yJ7.fn:=by kernel_rfl
def yO7:List (Nat×List Nat):=[(2,[8,18]),(1,[0,1,2,7,9,10,11,12,13,14,15,16,17]),(0,[6])]
theorem yKL:yar Tryz.prog [] (fun i=>(yO7.lookup i).getD []) Tryz.f92=some yJ8.fn:=by kernel_rfl
def yKS:List (Nat×List Nat):=[(5,[1,2,13,20,21,22,23,24]),(4,[1,2,13,14,15,16,17,18,19]),(3,[0,11]),(2,[0,1,2,11,12]),(1,[8,9,10]),(0,[7])]
theorem yAj:yar Tryz.prog [6] (fun i=>(yKS.lookup i).getD []) Tryz.f89=some yyQ.fn:=by kernel_rfl
def yNZ:List (Nat×List Nat):=[(26,[12,17,20,153,155,156,157,158,159,160]),(25,[12,17,20,153,154]),(24,[19,152]),(23,[2,3,7,16,138,139,140,141,142,143,144,145,146,147,148,149,150,151]),(22,[13,14,18,129,131,132,133,134,135,136,137]),(21,[2,3,7,12,13,14,16,129,130]),(20,[127,128]),(19,[119,121,122,123,124,125,126]),(18,[2,3,7,12,13,14,119,120]),(17,[114,115,116,117,118]),(16,[8,10,15,107,108,109,110,111,112,113]),(15,[9,11,94,101,102,103,104,105,106]),(14,[99,100]),(13,[94,95,96,97,98]),(12,[68,82,83,84,85,86,87,88,89,90,91,92,93]),(11,[8,10,15,75,76,77,78,79,80,81]),(10,[9,11,68,69,70,71,72,73,74]),(9,[62,63,64,65,66,67]),(8,[13,14,15]),(7,[59,60,61]),(6,[47,48,49,50,51,52,53,54,55,56,57,58]),(5,[35,36,37,38,39,40,41,42,43,44,45,46]),(4,[6,25,28,29,30,31,32,33,34]),(3,[2,3,6,25,26,27]),(2,[24]),(1,[21,22,23]),(0,[0,1,5])]
theorem yGX:yar Tryz.prog [2,3,4] (fun i=>(yNZ.lookup i).getD []) Tryz.f69=some yFO.fn:=by kernel_rfl
def yN0:List (Nat×List Nat):=[(5,[2,3,18,19,20,21,22]),(4,[6,11,14,15,16,17]),(3,[2,3,6,11,12,13]),(2,[10]),(1,[7,8,9]),(0,[0,1,5])]
theorem yGY:yar Tryz.prog [2,3,4] (fun i=>(yN0.lookup i).getD []) Tryz.f73=some yFP.fn:=by kernel_rfl
def yN1:List (Nat×List Nat):=[(10,[2,3,14,16,65,67,68,69,70,71,72,73,74,75,76,77,78,79,80,81,82]),(9,[2,3,14,16,65,66]),(8,[13,15,62,63,64]),(7,[8,10,11,12,52,53,54,55,56,57,58,59,60,61]),(6,[7,9,42,43,44,45,46,47,48,49,50,51]),(5,[36,37,38,39,40,41]),(4,[6,21,24,25,26,27,28,29,30,31,32,33,34,35]),(3,[2,3,6,21,22,23]),(2,[20]),(1,[17,18,19]),(0,[0,1,5])]
theorem yGZ:yar Tryz.prog [2,3,4] (fun i=>(yN1.lookup i).getD []) Tryz.f74=some yFQ.fn:=by kernel_rfl
def yMQ:List (Nat×List Nat):=[(28,[3,5,9,10,42,43,44,45,105]),(27,[13,70,104]),(26,[13,15,100,103]),(25,[3,5,9,10,13,15,42,43,44,100,101,102]),(24,[99]),(23,[16,90,93,94,95,96,97,98]),(22,[3,5,9,10,13,15,16,42,43,44,90,91,92]),(21,[89]),(20,[12,14,79,82,83,84,85,86,87,88]),(19,[3,5,9,10,12,13,14,15,42,43,44,79,80,81]),(18,[78]),(17,[67,72,73,74,75,76,77]),(16,[13,70,71]),(15,[12,67,68,69]),(14,[58,60,61,62,63,64,65,66]),(13,[58,59]),(12,[56,57]),(11,[11,49,50,51,52,53,54,55]),(10,[45,46,47,48]),(8,[41]),(7,[4,40]),(6,[37,39]),(5,[3,4,5,37,38]),(4,[8,20,23,24,25,26,27,28,29,30,31,32,33,34,35,36]),(3,[3,4,5,8,20,21,22]),(2,[19]),(1,[17,18]),(0,[0,1,2,7])]
theorem yEF:yar Tryz.prog [3,4,5,6,9,10,13,14,16] (fun i=>(yMQ.lookup i).getD []) Tryz.f49=some yDm.fn:=by kernel_rfl
def yKM:List (Nat×List Nat):=[(1,[1,2,5,6,7,8,9,10,11,12]),(0,[0,4])]
theorem yxD:yar Tryz.prog [2,3] (fun i=>(yKM.lookup i).getD []) Tryz.f48=some yor.fn:=by kernel_rfl
def yN2:List (Nat×List Nat):=[(12,[1,6,12,13,14,15,39]),(11,[10,35,38]),(10,[1,6,10,12,13,14,35,36,37]),(9,[34]),(8,[9,25,28,29,30,31,32,33]),(7,[1,6,9,10,12,13,14,25,26,27]),(6,[24]),(5,[8,18,19,20,21,22,23]),(4,[15,16,17]),(2,[0]),(1,[11]),(0,[5])]
theorem yG0:yar Tryz.prog [4,6,8,9] (fun i=>(yN2.lookup i).getD []) Tryz.f47=some yFR.fn:=by kernel_rfl
def yMB:List (Nat×List Nat):=[(10,[1,2,45,47,48,49,50,51]),(9,[1,2,45,46]),(8,[8,23,24,25,26,27,28,29,30,31,32,33,34,35,36,37,38,39,40,41,42,43,44]),(7,[7,18,21,22]),(6,[1,2,7,18,19,20]),(5,[17]),(4,[6,12,15,16]),(3,[1,2,6,12,13,14]),(2,[11]),(1,[9,10]),(0,[0,5])]
theorem yBw:yar Tryz.prog [4] (fun i=>(yMB.lookup i).getD []) Tryz.f22=some yAv.fn:=by kernel_rfl
def yMC:List (Nat×List Nat):=[(17,[3,7,23,24,25,26,58]),(16,[8,9,31,32,33,34,57]),(15,[56]),(14,[12,13,44,46,47,48,49,50,51,52,53,54,55]),(13,[3,7,8,9,12,13,23,24,25,31,32,33,44,45]),(12,[43]),(11,[11,37,38,39,40,41,42]),(10,[34,35,36]),(8,[30]),(7,[26,27,28,29]),(5,[0]),(4,[6,18,20,21,22]),(3,[0,3,6,18,19]),(2,[17]),(1,[14,15,16]),(0,[1,4,5])]
theorem yBx:yar Tryz.prog [53,3,9,12,1000003,1000022,1000009,1000012] (fun i=>(yMC.lookup i).getD []) Tryz.f6=some yry.fn:=by kernel_rfl
def yJD:List (Nat×List Nat):=[(4,[0,3,6,7,15,17,18,19,20,21,22]),(3,[0,3,6,7,15,16]),(2,[14]),(1,[8,9,10,11,12,13]),(0,[1,4,5])]
theorem ywp:yar Tryz.prog [3,1000003,1000022] (fun i=>(yJD.lookup i).getD []) Tryz.f38=some yfT.fn:=by kernel_rfl
def yMR:List (Nat×List Nat):=[(10,[1,5,14,15,16,17,38]),(9,[37]),(8,[6,7,21,22,23,24,25,26,27,28,29,30,31,32,33,34,35,36]),(7,[17,18,19,20]),(5,[13]),(4,[4,11]),(3,[1,4,11,12]),(2,[10]),(1,[8,9]),(0,[0,2,3])]
theorem yEG:yar Tryz.prog [1] (fun i=>(yMR.lookup i).getD []) Tryz.f55=some yDn.fn:=by kernel_rfl
def yN3:List (Nat×List Nat):=[(8,[2,3,19,34,35,36,37,38,39,40,41,42]),(7,[2,3,19,23,24,25,26,27,28,29,30,31,32,33]),(6,[14,20,21,22]),(5,[2,3,14,18]),(4,[6,11,15,16,17]),(3,[2,3,6,11,12,13]),(2,[10]),(1,[7,8,9]),(0,[0,1,5])]
theorem yG1:yar Tryz.prog [2,3,4] (fun i=>(yN3.lookup i).getD []) Tryz.f56=some yFS.fn:=by kernel_rfl
def yG9:List (Nat×List Nat):=[(10,[0,12,13,14]),(9,[56]),(8,[6,7,44,46,47,48,49,50,51,52,53,54,55]),(7,[0,6,7,12,13,44,45]),(6,[43]),(5,[3,4,27,28,29,30,31,32,33,34,35,36,37,38,39,40,41,42]),(4,[5,16,17,18,19,20,21,22,23,24,25,26]),(3,[14,15]),(1,[8,9,10,11]),(0,[2])]
theorem ys4:yar Tryz.prog [52,6] (fun i=>(yG9.lookup i).getD []) Tryz.f39=some yjL.fn:=by kernel_rfl
def yIw:List (Nat×List Nat):=[(1,[1,2,4,5,6,7,8,9,10,11,12,13,14,15]),(0,[0,3])]
theorem yuV:yar Tryz.prog [2,1000002] (fun i=>(yIw.lookup i).getD []) Tryz.f84=some ykM.fn:=by kernel_rfl
def yuW:List (Nat×List Nat):=[(7,[0,1,7,8,9]),(6,[5,16,18]),(5,[0,1,5,7,8,16,17]),(4,[11,12,13,14,15]),(3,[9,10]),(1,[6]),(0,[4])]
theorem yhx:yar Tryz.prog [] (fun i=>(yuW.lookup i).getD []) Tryz.f99=some yeo.fn:=by kernel_rfl
def yrZ:List (Nat×List Nat):=[(1,[0,1,5,6,7,8]),(0,[4])]
theorem ygD:yar Tryz.prog [] (fun i=>(yrZ.lookup i).getD []) Tryz.f82=some ybF.fn:=by kernel_rfl
def yKN:List (Nat×List Nat):=[(1,[1,2,4,5,6]),(0,[0,3])]
theorem yxE:yar Tryz.prog [1000002] (fun i=>(yKN.lookup i).getD []) Tryz.f83=some ywS.fn:=by kernel_rfl
def yMD:List (Nat×List Nat):=[(1,[0,3,5,6,7]),(0,[1,4])]
theorem yBy:yar Tryz.prog [1000003] (fun i=>(yMD.lookup i).getD []) Tryz.f59=some yAw.fn:=by kernel_rfl
def yCH:List (Nat×List Nat):=[(1,[0,1,2,6,7,8,9,10,11,12,13,14,15,16,17,18,19,20,21,22,23,24,25]),(0,[5])]
theorem yod:yar Tryz.prog [] (fun i=>(yCH.lookup i).getD []) Tryz.f58=some yhb.fn:=by kernel_rfl
def yG2:List (Nat×List Nat):=[(11,[0,1,13,14,15]),(10,[7,21,22,23,32]),(9,[8,28,31]),(8,[0,1,7,8,13,14,21,22,28,29,30]),(7,[25,26,27]),(6,[23,24]),(4,[17,18,19,20]),(3,[15,16]),(1,[9,10,11,12]),(0,[4,5,6])]
theorem yrh:yar Tryz.prog [] (fun i=>(yG2.lookup i).getD []) Tryz.f57=some yqS.fn:=by kernel_rfl
def yxY:List (Nat×List Nat):=[(6,[0,1,16,26]),(5,[1,16,17,18,19,20,21,22,23,24,25]),(4,[15]),(3,[6,8,9,10,11,12,13,14]),(2,[6,7]),(1,[5]),(0,[4])]
theorem ykA:yar Tryz.prog [] (fun i=>(yxY.lookup i).getD []) Tryz.f100=some yfz.fn:=by kernel_rfl
def ywM:List (Nat×List Nat):=[(15,[6,25,26,27,28,35]),(14,[34]),(13,[8,31,32,33]),(12,[28,29,30]),(10,[0]),(9,[3,9,10,11,12,23,24]),(8,[20,22]),(7,[20,21]),(6,[19]),(5,[5,15,16,17,18]),(4,[12,13,14]),(0,[2])]
theorem yiN:yar Tryz.prog [] (fun i=>(ywM.lookup i).getD []) Tryz.f85=some yiF.fn:=by kernel_rfl
def yO8:List (Nat×List Nat):=[(7,[0,8,13,14,15,16,17,18]),(6,[11,12]),(5,[8,9,10]),(4,[4,7]),(2,[2,4,5,6]),(1,[3])]
theorem yKO:yar Tryz.prog [] (fun i=>(yO8.lookup i).getD []) Tryz.f112=some yPa.fn:=by kernel_rfl
def yPP:List (Nat×List Nat):=[(2,[0,6,7]),(1,[0,3,4,5]),(0,[2])]
theorem yN4:yar Tryz.prog [] (fun i=>(yPP.lookup i).getD []) Tryz.f102=some yPT.fn:=by kernel_rfl
def yoU:List (Nat×List Nat):=[(2,[9,15,16,34]),(5,[35,36]),(6,[34,37,38,39,40,41,42,43,44,45,46,47,48,49,50,51,52]),(4,[18,19,20,21,22,23,24,25,26,27,28,29,30,31,32,33]),(3,[14,17]),(1,[12,13]),(0,[10,11])]
theorem yfJ:yar Tryz.prog [] (fun i=>(yoU.lookup i).getD []) Tryz.f104=some ype.fn:=by kernel_rfl
def ys6:List (Nat×List Nat):=[(30,[16,147]),(29,[2,140,141,142,143,144,145,146]),(28,[18,19,20,125,137,138,139]),(27,[16,135,136]),(26,[1,129,130,131,132,133,134]),(25,[18,19,20,125,126,127,128]),(24,[123,124]),(23,[12,121,122]),(22,[115,116,117,118,119,120]),(21,[17,114]),(20,[10,11,13,97,105,106,107,108,109,110,111,112,113]),(19,[15,104]),(18,[1,12,13,97,98,99,100,101,102,103]),(17,[75,80,81,82,83,84,85,86,87,88,89,90,91,92,93,94,95,96]),(16,[75,76,77,78,79]),(15,[14,56,68,69,70,71,72,73,74]),(13,[62,63,64,65,66,67]),(12,[14,56,57,58,59,60,61]),(11,[55]),(10,[39,47,48,49,50,51,52,53,54]),(9,[45,46]),(8,[39,40,41,42,43,44]),(7,[32,38]),(6,[0,1,2,3,4,10,11,12,32,33,34,35,36,37]),(5,[25,31]),(4,[0,1,2,3,4,10,11,12,25,26,27,28,29,30]),(3,[24]),(2,[21,22,23])]
theorem yhw:yar Tryz.prog [] (fun i=>(ys6.lookup i).getD []) Tryz.f101=some ytC.fn:=by kernel_rfl
def yuY:List (Nat×List Nat):=[(1,[0,1,4,7,8,9,10,11,12,13]),(0,[5,6])]
theorem yhY:yar Tryz.prog [] (fun i=>(yuY.lookup i).getD []) Tryz.f86=some yvk.fn:=by kernel_rfl
def yG3:List (Nat×List Nat):=[(2,[5,15]),(1,[2,3,6,7,8,9,10,11,12,13,14]),(0,[0,1,4])]
theorem yri:yar Tryz.prog [2,3] (fun i=>(yG3.lookup i).getD []) Tryz.f87=some yqT.fn:=by kernel_rfl
def yIx:List (Nat×List Nat):=[(12,[0,4,15,16,17,18,32,33,34,35,36,37,38,39,40,41]),(11,[6,28,31]),(10,[6,28,29,30]),(9,[24,25,26,27]),(8,[0,4,6,15,16,17,24]),(7,[21,22,23]),(6,[18,19,20]),(4,[3]),(3,[14]),(2,[12,13]),(1,[7,8,9,10,11]),(0,[2])]
theorem yuX:yar Tryz.prog [4,6] (fun i=>(yIx.lookup i).getD []) Tryz.f60=some ytD.fn:=by kernel_rfl
def yMS:List (Nat×List Nat):=[(5,[0,1,6,7,8,19,20,21,22,23,24,25,26,27,28,29,30,31,32]),(4,[16,17,18]),(3,[10,12,13,14,15]),(2,[0,1,10,11]),(1,[9]),(0,[5])]
theorem yEH:yar Tryz.prog [4] (fun i=>(yMS.lookup i).getD []) Tryz.f62=some yDo.fn:=by kernel_rfl
def yCI:List (Nat×List Nat):=[(3,[0,1,2,8,31,32,33,34,35,36,37,38,39,40,41,42,43,44,45,46,47]),(2,[6,9,21,22,23,24,25,26,27,28,29,30]),(1,[7,10,11,12,13,14,15,16,17,18,19,20]),(0,[5])]
theorem yoe:yar Tryz.prog [8] (fun i=>(yCI.lookup i).getD []) Tryz.f61=some yhc.fn:=by kernel_rfl
def yCJ:List (Nat×List Nat):=[(1,[0,1,2,6,7,8,9,10,11,12,13,14,15,16,17,18,19,20,21,22,23,24,25,26]),(0,[5])]
theorem yof:yar Tryz.prog [] (fun i=>(yCJ.lookup i).getD []) Tryz.f63=some yhd.fn:=by kernel_rfl
def yCK:List (Nat×List Nat):=[(1,[0,1,2,6,7,8,9,10,11,12,13,14,15,16,17,18,19,20,21,22,23]),(0,[5])]
theorem yog:yar Tryz.prog [] (fun i=>(yCK.lookup i).getD []) Tryz.f64=some yhe.fn:=by kernel_rfl
def yCL:List (Nat×List Nat):=[(1,[0,1,2,6,7,8,9,10,11,12,13,14,15,16,17,18,19]),(0,[5])]
theorem yoh:yar Tryz.prog [] (fun i=>(yCL.lookup i).getD []) Tryz.f65=some yhf.fn:=by kernel_rfl
def yEM:List (Nat×List Nat):=[(13,[2,45,53,54,55,56,57,58]),(12,[2,45,47,48,49,50,51,52]),(11,[10,37,46]),(10,[2,10,37,39,40,41,42,43,44]),(9,[29,38]),(8,[2,10,29,31,32,33,34,35,36]),(7,[11,30]),(6,[7,8,9,25,26,27,28]),(5,[7,8,9,25]),(4,[2,20,21,22,23,24]),(3,[10,11,13,14,15,16,17,18,19]),(2,[12]),(1,[1]),(0,[0,4,5,6])]
theorem yqm:yar Tryz.prog [] (fun i=>(yEM.lookup i).getD []) Tryz.f40=some ypf.fn:=by kernel_rfl
def yMT:List (Nat×List Nat):=[(14,[6,8,32,33,52]),(13,[9,44,51]),(12,[9,44,45,46,47,48,49,50]),(11,[12,43]),(10,[10,11,35,36,37,38,39,40,41,42]),(9,[33,34]),(6,[7,24,27,28,29,30,31]),(5,[6,7,24,25,26]),(4,[20,23]),(3,[20,21,22]),(2,[19]),(1,[0,3,13,14,15,16,17,18]),(0,[1,5])]
theorem yEI:yar Tryz.prog [3,4,8,1000003,1000004,1000008] (fun i=>(yMT.lookup i).getD []) Tryz.f17=some yDp.fn:=by kernel_rfl
def yKP:List (Nat×List Nat):=[(13,[0,1,5,15]),(5,[6,16,17,35]),(10,[36,37,52]),(12,[0,1,5,6,52]),(11,[35,38,39,40,41,42,43,44,45,46,47,48,49,50,51]),(9,[29,30,31,32,33,34]),(8,[28]),(7,[0,1,5,28]),(6,[15,18,19,20,21,22,23,24,25,26,27]),(4,[12,13,14]),(3,[11]),(2,[0,1,11]),(1,[7,8,9,10]),(0,[4])]
theorem yxF:yar Tryz.prog [] (fun i=>(yKP.lookup i).getD []) Tryz.f19=some ywT.fn:=by kernel_rfl
def yME:List (Nat×List Nat):=[(19,[50,51,52]),(18,[2,9,12,41,43,44,45,46,47,48,49]),(17,[2,12,41,42]),(16,[37,40]),(15,[37,38,39]),(14,[11,33,34,35,36]),(13,[0,4,19,22,27,28,29,30,31,32]),(12,[0,2,4,11,19,22]),(11,[19,20]),(10,[19,26]),(9,[25]),(8,[24]),(7,[20,23]),(6,[21]),(4,[10,17]),(3,[0,2,4,10,17,18]),(2,[16]),(1,[13,14,15]),(0,[1,6,7,8,9])]
theorem yBz:yar Tryz.prog [4,1000004] (fun i=>(yME.lookup i).getD []) Tryz.f23=some yAx.fn:=by kernel_rfl
def yKQ:List (Nat×List Nat):=[(4,[24,25,26,27]),(3,[24]),(2,[9,19,20,21,22,23]),(1,[0,2,4,10,11,12,13,14,15,16,17,18]),(0,[1,6,7,8])]
theorem yxG:yar Tryz.prog [4,1000004] (fun i=>(yKQ.lookup i).getD []) Tryz.f7=some ywU.fn:=by kernel_rfl
def yMF:List (Nat×List Nat):=[(2,[10,11,21,22,23,24,25,26,27]),(1,[0,2,4,8,9,12,13,14,15,16,17,18,19,20]),(0,[1,6,7])]
theorem yBA:yar Tryz.prog [4,1000004] (fun i=>(yMF.lookup i).getD []) Tryz.f41=some yAy.fn:=by kernel_rfl
def yMG:List (Nat×List Nat):=[(3,[3,4,11,12,13,14,15,31,32,33,34,35,36,37,38,39,40,41,42,43,44,45,46,47,48,49,50]),(2,[0,2,6,24,25,26,27,28,29,30]),(1,[16,17,18,19,20,21,22,23]),(0,[1,10])]
theorem yBB:yar Tryz.prog [6] (fun i=>(yMG.lookup i).getD []) Tryz.f20=some yAz.fn:=by kernel_rfl
def yN5:List (Nat×List Nat):=[(6,[1,3,4,5,6,7,8,9,10,39,40,41,42,43,44,45,46,47,48,49,50,51,52,53,54,55,56,57,58,59,60,61,62,63,64,65,66,67,68,69,70,71,72,73,74,75,76,77,78,79,80,81,82,83,84]),(5,[37,38]),(4,[2,31,32,33,34,35,36]),(3,[25,26,27,28,29,30]),(2,[19,20,21,22,23,24]),(1,[11,12,13,14,15,16,17,18]),(0,[0])]
theorem yG4:yar Tryz.prog [13,17,45,48,49,1,2,5,7,9,10] (fun i=>(yN5.lookup i).getD []) Tryz.f5=some yFT.fn:=by kernel_rfl
def yMU:List (Nat×List Nat):=[(4,[1,5,9,11,12]),(3,[1,5,9,10]),(2,[8]),(1,[0,6,7]),(0,[4])]
theorem yEJ:yar Tryz.prog [] (fun i=>(yMU.lookup i).getD []) Tryz.f24=some yDq.fn:=by kernel_rfl
def yMH:List (Nat×List Nat):=[(3,[2,3,8,10]),(2,[2,3,8,9]),(1,[5,6,7]),(0,[0,1])]
theorem yBC:yar Tryz.prog [2,3,4] (fun i=>(yMH.lookup i).getD []) Tryz.f25=some yAA.fn:=by kernel_rfl
def yKT:List (Nat×List Nat):=[(3,[2,3,8,10]),(2,[2,3,8,9]),(1,[5,6,7]),(0,[0,1])]
theorem yAk:yar Tryz.prog [2,3,4] (fun i=>(yKT.lookup i).getD []) Tryz.f26=some yyR.fn:=by kernel_rfl
def yN6:List (Nat×List Nat):=[(3,[0,6,7]),(2,[0,6]),(1,[4,5]),(0,[2,3])]
theorem yG5:yar Tryz.prog [] (fun i=>(yN6.lookup i).getD []) Tryz.f29=some yFU.fn:=by kernel_rfl
def yMV:List (Nat×List Nat):=[(13,[0,1,7,8,9,26,72,73,74,75]),(12,[67,70,71]),(11,[67,68,69]),(10,[10,51,56,57,58,59,60,61,62,63,64,65,66]),(9,[10,51,52,53,54,55]),(8,[50]),(7,[26,27,28,29,30,31,32,33,34,35,36,37,38,39,40,41,42,43,44,45,46,47,48,49]),(6,[17,18,19,20,21,22,23,24,25]),(4,[6,15]),(3,[0,1,6,15,16]),(2,[14]),(1,[11,12,13]),(0,[4,5])]
theorem yEK:yar Tryz.prog [54,10] (fun i=>(yMV.lookup i).getD []) Tryz.f8=some yDr.fn:=by kernel_rfl
def yMI:List (Nat×List Nat):=[(21,[0,1,5,13,108]),(3,[14,15]),(20,[6,7,19,107]),(7,[9,20,21,102]),(19,[9,102,103,104,105,106]),(18,[8,96,101]),(17,[8,96,97,98,99,100]),(16,[87,95]),(15,[8,9,87,88,89,90,91,92,93,94]),(14,[55,62,63,64,65,66,67,68,69,70,71,72,73,74,75,76,77,78,79,80,81,82,83,84,85,86]),(13,[55,56,57,58,59,60,61]),(12,[41,48,49,50,51,52,53,54]),(11,[41,42,43,44,45,46,47]),(10,[34,35,36,37,38,39,40]),(9,[33]),(8,[19,22,23,24,25,26,27,28,29,30,31,32]),(6,[16,17,18]),(4,[13]),(2,[10,11,12]),(0,[4]),(999999,[1])]
theorem yBD:yar Tryz.prog [93,99,105,8,9,4000107] (fun i=>(yMI.lookup i).getD []) Tryz.f10=some yAB.fn:=by kernel_rfl
def yHa:List (Nat×List Nat):=[(29,[3,201,202,203,204,205,206,207,208,209,210]),(28,[3,201]),(27,[0,7,8,9,176,177,178,179,180,181,182,183,184,185,186,187,188,189,190,191,192,193,194,195,196,197,198,199,200]),(26,[168,169,170,171,172,173,174,175]),(25,[0,3,168]),(24,[5,7,8,9,119,120,121,122,123,124,125,126,127,128,129,130,131,132,133,134,135,136,137,138,139,140,141,142,143,144,145,146,147,148,149,150,151,152,153,154,155,156,157,158,159,160,161,162,163,164,165,166,167]),(23,[85,111,112,113,114,115,116,117,118]),(22,[0,3,5,111]),(21,[8,12,13,95,105,106,107,108,109,110]),(19,[96,97]),(20,[95,98,99,100,101,102,103,104]),(18,[92,93,94]),(16,[85,86,87,88,89,90,91]),(15,[7,9,49,79,80,81,82,83,84]),(14,[0,3,5,7,8,9,79]),(13,[10,11,73,74,75,76,77,78]),(12,[58,59,60,61,62,63,64,65,66,67,68,69,70,71,72]),(11,[0,3,5,7,8,9,58]),(10,[49,50,51,52,53,54,55,56,57]),(9,[44,45,46,47,48]),(8,[36,37,38,39,40,41,42,43]),(7,[0,3,5,36]),(6,[6,26,32,33,34,35]),(5,[0,3,5,6,26,27,28,29,30,31]),(4,[25]),(3,[17,19,20,21,22,23,24]),(2,[0,3,17,18]),(1,[14,15,16]),(0,[1,4])]
theorem ys5:yar Tryz.prog [3] (fun i=>(yHa.lookup i).getD []) Tryz.f3=some ysr.fn:=by kernel_rfl
theorem yPQ:yyv Tryz.prog tab:=by
 unfold tab
 simp only [yyv]
 exact ⟨⟨Tryz.f34,_,_,Tryz.func34,yGE⟩,⟨Tryz.f52,_,_,Tryz.func52,yGF⟩,⟨Tryz.f35,_,_,Tryz.func35,ywo⟩,⟨Tryz.f13,_,_,Tryz.func13,yGG⟩,⟨Tryz.f53,_,_,Tryz.func53,yGH⟩,⟨Tryz.f36,_,_,Tryz.func36,yGI⟩,⟨Tryz.f32,_,_,Tryz.func32,yKD⟩,⟨Tryz.f98,_,_,Tryz.func98,yKE⟩,⟨Tryz.f81,_,_,Tryz.func81,yGJ⟩,⟨Tryz.f51,_,_,Tryz.func51,yIs⟩,⟨Tryz.f31,_,_,Tryz.func31,yGK⟩,⟨Tryz.f33,_,_,Tryz.func33,yIt⟩,⟨Tryz.f11,_,_,Tryz.func11,yIu⟩,⟨Tryz.f30,_,_,Tryz.func30,yGL⟩,⟨Tryz.f12,_,_,Tryz.func12,yGM⟩,⟨Tryz.f18,_,_,Tryz.func18,yMs⟩,⟨Tryz.f54,_,_,Tryz.func54,yGN⟩,⟨Tryz.f37,_,_,Tryz.func37,yEy⟩,⟨Tryz.f14,_,_,Tryz.func14,yGO⟩,⟨Tryz.f4,_,_,Tryz.func4,yGP⟩,⟨Tryz.f9,_,_,Tryz.func9,yMt⟩,⟨Tryz.f15,_,_,Tryz.func15,yGQ⟩,⟨Tryz.f16,_,_,Tryz.func16,yKF⟩,⟨Tryz.f67,_,_,Tryz.func67,yxB⟩,⟨Tryz.f68,_,_,Tryz.func68,yxC⟩,⟨Tryz.f46,_,_,Tryz.func46,yEz⟩,⟨Tryz.f42,_,_,Tryz.func42,yGR⟩,⟨Tryz.f78,_,_,Tryz.func78,yEA⟩,⟨Tryz.f88,_,_,Tryz.func88,yGS⟩,⟨Tryz.f94,_,_,Tryz.func94,yBp⟩,⟨Tryz.f95,_,_,Tryz.func95,ys1⟩,⟨Tryz.f75,_,_,Tryz.func75,yBq⟩,⟨Tryz.f96,_,_,Tryz.func96,yuU⟩,⟨Tryz.f76,_,_,Tryz.func76,yrg⟩,⟨Tryz.f77,_,_,Tryz.func77,yKI⟩,⟨Tryz.f97,_,_,Tryz.func97,ys2⟩,⟨Tryz.f80,_,_,Tryz.func80,yql⟩,⟨Tryz.f79,_,_,Tryz.func79,yEB⟩,⟨Tryz.f50,_,_,Tryz.func50,yGU⟩,⟨Tryz.f27,_,_,Tryz.func27,yBr⟩,⟨Tryz.f66,_,_,Tryz.func66,yGV⟩,⟨Tryz.f28,_,_,Tryz.func28,yBs⟩,⟨Tryz.f43,_,_,Tryz.func43,yBt⟩,⟨Tryz.f45,_,_,Tryz.func45,yBu⟩,⟨Tryz.f44,_,_,Tryz.func44,yEC⟩,⟨Tryz.f21,_,_,Tryz.func21,yBv⟩,⟨Tryz.f72,_,_,Tryz.func72,yED⟩,⟨Tryz.f71,_,_,Tryz.func71,yGW⟩,⟨Tryz.f70,_,_,Tryz.func70,yEE⟩,⟨Tryz.f113,_,_,Tryz.func113,yKJ⟩,⟨Tryz.f103,_,_,Tryz.func103,ys3⟩,⟨Tryz.f93,_,_,Tryz.func93,yKK⟩,⟨Tryz.f92,_,_,Tryz.func92,yKL⟩,⟨Tryz.f89,_,_,Tryz.func89,yAj⟩,⟨Tryz.f69,_,_,Tryz.func69,yGX⟩,⟨Tryz.f73,_,_,Tryz.func73,yGY⟩,⟨Tryz.f74,_,_,Tryz.func74,yGZ⟩,⟨Tryz.f49,_,_,Tryz.func49,yEF⟩,⟨Tryz.f48,_,_,Tryz.func48,yxD⟩,⟨Tryz.f47,_,_,Tryz.func47,yG0⟩,⟨Tryz.f22,_,_,Tryz.func22,yBw⟩,⟨Tryz.f6,_,_,Tryz.func6,yBx⟩,⟨Tryz.f38,_,_,Tryz.func38,ywp⟩,⟨Tryz.f55,_,_,Tryz.func55,yEG⟩,⟨Tryz.f56,_,_,Tryz.func56,yG1⟩,⟨Tryz.f39,_,_,Tryz.func39,ys4⟩,⟨Tryz.f84,_,_,Tryz.func84,yuV⟩,⟨Tryz.f99,_,_,Tryz.func99,yhx⟩,⟨Tryz.f82,_,_,Tryz.func82,ygD⟩,⟨Tryz.f83,_,_,Tryz.func83,yxE⟩,⟨Tryz.f59,_,_,Tryz.func59,yBy⟩,⟨Tryz.f58,_,_,Tryz.func58,yod⟩,⟨Tryz.f57,_,_,Tryz.func57,yrh⟩,⟨Tryz.f100,_,_,Tryz.func100,ykA⟩,⟨Tryz.f85,_,_,Tryz.func85,yiN⟩,⟨Tryz.f112,_,_,Tryz.func112,yKO⟩,⟨Tryz.f102,_,_,Tryz.func102,yN4⟩,⟨Tryz.f104,_,_,Tryz.func104,yfJ⟩,⟨Tryz.f101,_,_,Tryz.func101,yhw⟩,⟨Tryz.f86,_,_,Tryz.func86,yhY⟩,⟨Tryz.f87,_,_,Tryz.func87,yri⟩,⟨Tryz.f60,_,_,Tryz.func60,yuX⟩,⟨Tryz.f62,_,_,Tryz.func62,yEH⟩,⟨Tryz.f61,_,_,Tryz.func61,yoe⟩,⟨Tryz.f63,_,_,Tryz.func63,yof⟩,⟨Tryz.f64,_,_,Tryz.func64,yog⟩,⟨Tryz.f65,_,_,Tryz.func65,yoh⟩,⟨Tryz.f40,_,_,Tryz.func40,yqm⟩,⟨Tryz.f17,_,_,Tryz.func17,yEI⟩,⟨Tryz.f19,_,_,Tryz.func19,yxF⟩,⟨Tryz.f23,_,_,Tryz.func23,yBz⟩,⟨Tryz.f7,_,_,Tryz.func7,yxG⟩,⟨Tryz.f41,_,_,Tryz.func41,yBA⟩,⟨Tryz.f20,_,_,Tryz.func20,yBB⟩,⟨Tryz.f5,_,_,Tryz.func5,yG4⟩,⟨Tryz.f24,_,_,Tryz.func24,yEJ⟩,⟨Tryz.f25,_,_,Tryz.func25,yBC⟩,⟨Tryz.f26,_,_,Tryz.func26,yAk⟩,⟨Tryz.f29,_,_,Tryz.func29,yG5⟩,⟨Tryz.f8,_,_,Tryz.func8,yEK⟩,⟨Tryz.f10,_,_,Tryz.func10,yBD⟩,⟨Tryz.f3,_,_,Tryz.func3,ys5⟩,trivial⟩
theorem hm:Tryz.prog.follows .mixedOrders=true:=by kernel_rfl
theorem yPR:IsExtern Tryz.prog yfO add64Entry:=⟨_,Tryz.func90,by kernel_rfl,by kernel_rfl,by kernel_rfl,by kernel_rfl⟩
theorem yPS:IsExtern Tryz.prog yfP yyx:=⟨_,Tryz.func91,by kernel_rfl,by kernel_rfl,by kernel_rfl,by kernel_rfl⟩
theorem k0C:EnvOk Tryz.prog E0C:=by
 refine yLs hm yPR yPS yPQ ?_
 intro n e b h
 cases h
theorem kN:EnvOk Tryz.prog (E []):=yFv k0C fun e h=>by cases h
theorem yqn:SortsAt Tryz.prog yoG.s yoG.cf yoG.srt where
 size:=fun d=>(pdq_sorts _ (yIg _ _) d 0 d.size (Go.Lib.bitLen d.size) true true (Nat.zero_le _) (Nat.le_refl _) (Or.inl rfl)).1.1
 pos:=by decide
 enters:=enters_of Tryz.func87 (by kernel_rfl) rfl
 entersN:=enters_of Tryz.func86 (by kernel_rfl) rfl
 law:=fun blk off cap d w hc hH hb hs=>AnyQ.slices_SortFunc_eq Tryz.sortSp 4 Tryz.isAgg40 Tryz.sizeOf40 yoG.s.enc (fun x=>Srt.enc_len x) (fun x=>Srt.enc_one x) yoG.cf (yIg _ _) 87 #[] blk off cap d w (enters_of Tryz.func87 (by kernel_rfl) rfl) hc hH hb hs
theorem kS:EnvOk Tryz.prog (E ef0):=by
 refine yFv k0C ?_
 intro e h
 simp only [ef0,qAn,List.not_mem_nil,or_false] at h
 rcases h with rfl
 exact fun y0=>yKC yoG.s yqn (fun x y=>by
   have h:=yMn [] ybk x.2 y.2
   exact yIW kN hm (yaJ (by kernel_rfl) _) (by kernel_rfl) (Ans.solo h)) (yvd (k0C.ats (y:=y0) (Nat.zero_le _)) hm 60) (fun H=>by kernel_rfl) (fun H=>by kernel_rfl)
end Go.Proofs.YteggmnaoddodbaaGreat.Pw
