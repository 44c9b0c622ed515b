/- The statement TrimFair: what the conditions and their plain laws say of the program's functions, joined with the program. -/
import Derived.Test.YtijdgcomldpncaaGreatRows

import Derived.Test.YtijdgcomldpncaaGreatTfW7
import Derived.WalkKit
import Derived.ProofKit
import Derived.OpenShut
import Derived.ReadAgain
import Derived.ChangeBears




import Derived.Shelf.SlSortCmp.WholeK
import Derived.Test.YtijdgcomldpncaaGreatShelf
namespace Go.Proofs.YtijdgcomldpncaaGreat.Tf
open Go Go.Pf Go.Pf.Vc Go.ChangeShapes Go.WideShapes Go.ChangeAt Go.RowKit Go.Shelf Go.Sort Go.Lib Go.Proofs
set_option maxRecDepth 100000
def yNp:List (Nat×List Nat):=[(1,[1,3,4,5,6,7,8,9,10,11,12]),(0,[0,2])]
theorem yGu:yaq Tryz.prog [1] (fun i=>(yNp.lookup i).getD []) Tryz.f34=some yFs.fn:=by kernel_rfl
def yJo:List (Nat×List Nat):=[(6,[0,3,7,15,16,17]),(3,[8,9,14]),(5,[0,3,14]),(4,[7,10,11,12,13]),(2,[4,5,6]),(0,[2])]
theorem ywj:yaq Tryz.prog [] (fun i=>(yJo.lookup i).getD []) Tryz.f8=some yvs.fn:=by kernel_rfl
def yNq:List (Nat×List Nat):=[(14,[98]),(13,[98]),(12,[1,3,4,57,97]),(8,[58,59]),(11,[87,88,89,90,91,92,93,94,95,96]),(10,[1,3,4,87]),(9,[57,60,61,62,63,64,65,66,67,68,69,70,71,72,73,74,75,76,77,78,79,80,81,82,83,84,85,86]),(7,[53,54,55,56]),(5,[52]),(4,[1,52]),(3,[13,14,15,16,17,18,19,20,21,22,23,24,25,26,27,28,29,30,31,32,33,34,35,36,37,38,39,40,41,42,43,44,45,46,47,48,49,50,51]),(2,[1,13]),(1,[5,6,7,8,9,10,11,12]),(0,[0,2])]
theorem yGv:yaq Tryz.prog [1] (fun i=>(yNq.lookup i).getD []) Tryz.f113=some yFt.fn:=by kernel_rfl
def yNr:List (Nat×List Nat):=[(15,[1,4,43]),(12,[44,45,57]),(14,[1,4,57]),(13,[43,46,47,48,49,50,51,52,53,54,55,56]),(11,[39,40,41,42]),(10,[3,23]),(7,[24,25,32]),(9,[1,3,32,33,34,35,36,37,38]),(8,[23,26,27,28,29,30,31]),(6,[19,20,21,22]),(5,[18]),(4,[1,18]),(3,[14,15,16,17]),(2,[1,14]),(1,[5,6,7,8,9,10,11,12,13]),(0,[0,2])]
theorem yGw:yaq Tryz.prog [1] (fun i=>(yNr.lookup i).getD []) Tryz.f62=some yFu.fn:=by kernel_rfl
def yOC:List (Nat×List Nat):=[(1,[0,3,4,5,6,7,8,9,10,11]),(0,[2])]
theorem yKo:yaq Tryz.prog [] (fun i=>(yOC.lookup i).getD []) Tryz.f26=some yJS.fn:=by kernel_rfl
def yNs:List (Nat×List Nat):=[(1,[1,2,3,4,5,6,7,8,9,10]),(0,[0])]
theorem yGx:yaq Tryz.prog [1,2,4,5,7,8] (fun i=>(yNs.lookup i).getD []) Tryz.f63=some yFv.fn:=by kernel_rfl
def yKp:List (Nat×List Nat):=[(8,[0,3,4,15,24]),(6,[16,17]),(7,[15,18,19,20,21,22,23]),(5,[12,13,14]),(3,[7,9,10,11]),(2,[7,8]),(1,[5,6]),(0,[2])]
theorem yxH:yaq Tryz.prog [] (fun i=>(yKp.lookup i).getD []) Tryz.f141=some ywX.fn:=by kernel_rfl
def yKq:List (Nat×List Nat):=[(8,[0,3,4,15,24]),(6,[16,17]),(7,[15,18,19,20,21,22,23]),(5,[12,13,14]),(3,[7,9,10,11]),(2,[7,8]),(1,[5,6]),(0,[2])]
theorem yxI:yaq Tryz.prog [] (fun i=>(yKq.lookup i).getD []) Tryz.f142=some ywY.fn:=by kernel_rfl
def yMn:List (Nat×List Nat):=[(14,[81]),(13,[81]),(12,[1,49,50,51,66,67,68,69,70,71,72,73,74,75,76,77,78,79,80]),(11,[64,65]),(10,[1,49,50,64]),(9,[4,53,54,55,56,57,58,59,60,61,62,63]),(8,[51,52]),(6,[3,47,48]),(5,[1,3,47]),(4,[14,15,16,17,18,19,20,21,22,23,24,25,26,27,28,29,30,31,32,33,34,35,36,37,38,39,40,41,42,43,44,45,46]),(3,[1,3,14]),(2,[8,9,10,11,12,13]),(1,[5,6,7]),(0,[0,2])]
theorem yEn:yaq Tryz.prog [1] (fun i=>(yMn.lookup i).getD []) Tryz.f95=some yDe.fn:=by kernel_rfl
def yNt:List (Nat×List Nat):=[(18,[1,36,37,38,39]),(17,[49,50]),(16,[1,36,37,38,49]),(15,[7,42,43,44,45,46,47,48]),(14,[39,40,41]),(12,[23,24,25,26,35]),(11,[5,32,34]),(10,[1,5,23,24,25,32,33]),(9,[31]),(8,[4,29,30]),(7,[26,27,28]),(5,[21,22]),(4,[1,21]),(3,[17,18,19,20]),(2,[1,17]),(1,[8,9,10,11,12,13,14,15,16]),(0,[0,2])]
theorem yGy:yaq Tryz.prog [1,4,7] (fun i=>(yNt.lookup i).getD []) Tryz.f64=some yFw.fn:=by kernel_rfl
def yH5:List (Nat×List Nat):=[(3,[0,4,5,6,7]),(2,[0,4]),(1,[3]),(0,[2])]
theorem yu0:yaq Tryz.prog [] (fun i=>(yH5.lookup i).getD []) Tryz.f127=some yIH.fn:=by kernel_rfl
def yMo:List (Nat×List Nat):=[(7,[3,6,7,8,9,25]),(6,[24]),(5,[5,12,13,14,15,16,17,18,19,20,21,22,23]),(4,[9,10,11]),(2,[0]),(0,[2])]
theorem yEo:yaq Tryz.prog [22,5] (fun i=>(yMo.lookup i).getD []) Tryz.f74=some yDf.fn:=by kernel_rfl
def yNY:List (Nat×List Nat):=[(4,[0,4,9,12,13,14]),(3,[0,4,9,10,11]),(2,[8]),(1,[5,6,7]),(0,[3])]
theorem yH6:yaq Tryz.prog [2] (fun i=>(yNY.lookup i).getD []) Tryz.f35=some yHr.fn:=by kernel_rfl
def yMp:List (Nat×List Nat):=[(0,[0,1,3])]
theorem yEp:yaq Tryz.prog [] (fun i=>(yMp.lookup i).getD []) Tryz.f37=some ytN.fn:=by kernel_rfl
def yMq:List (Nat×List Nat):=[(1,[0,3,4])]
theorem yEq:yaq Tryz.prog [2] (fun i=>(yMq.lookup i).getD []) Tryz.f76=some yDg.fn:=by kernel_rfl
def yJp:List (Nat×List Nat):=[(1,[1,2,5,6,7,8,9,10,11,12,13,14]),(0,[0,4])]
theorem ywk:yaq Tryz.prog [2] (fun i=>(yJp.lookup i).getD []) Tryz.f67=some yvt.fn:=by kernel_rfl
def yMr:List (Nat×List Nat):=[(10,[1,5,14,15,16,17,38]),(9,[37]),(8,[6,7,21,22,23,24,25,26,27,28,29,30,31,32,33,34,35,36]),(7,[17,18,19,20]),(5,[13]),(4,[4,11]),(3,[1,4,11,12]),(2,[10]),(1,[8,9]),(0,[0,2,3])]
theorem yEr:yaq Tryz.prog [1] (fun i=>(yMr.lookup i).getD []) Tryz.f54=some yDh.fn:=by kernel_rfl
def yNu:List (Nat×List Nat):=[(6,[1,2,16,17,18,19,20,21,22,23,24]),(5,[1,2,16]),(4,[6,10,12,13,14,15]),(3,[1,2,6,10,11]),(2,[9]),(1,[7,8]),(0,[0,4,5])]
theorem yGz:yaq Tryz.prog [2] (fun i=>(yNu.lookup i).getD []) Tryz.f162=some yFx.fn:=by kernel_rfl
def yMs:List (Nat×List Nat):=[(3,[0,4,8,9]),(2,[0,4,5,6,7]),(1,[3]),(0,[2])]
theorem yEs:yaq Tryz.prog [] (fun i=>(yMs.lookup i).getD []) Tryz.f93=some yDi.fn:=by kernel_rfl
def yNv:List (Nat×List Nat):=[(3,[0,1,6,11]),(2,[6,7,8,9,10]),(1,[5]),(0,[4])]
theorem yGA:yaq Tryz.prog [] (fun i=>(yNv.lookup i).getD []) Tryz.f94=some yFy.fn:=by kernel_rfl
def yKC:List (Nat×List Nat):=[(5,[1,2,13,20,21,22,23,24]),(4,[1,2,13,14,15,16,17,18,19]),(3,[0,11]),(2,[0,1,2,11,12]),(1,[8,9,10]),(0,[7])]
theorem yAk:yaq Tryz.prog [6] (fun i=>(yKC.lookup i).getD []) Tryz.f98=some yy3.fn:=by kernel_rfl
def yMt:List (Nat×List Nat):=[(5,[0,1,6,7,8,19,20,21,22,23,24,25,26,27,28,29,30,31,32]),(4,[16,17,18]),(3,[10,12,13,14,15]),(2,[0,1,10,11]),(1,[9]),(0,[5])]
theorem yEt:yaq Tryz.prog [4] (fun i=>(yMt.lookup i).getD []) Tryz.f122=some yDj.fn:=by kernel_rfl
def yMu:List (Nat×List Nat):=[(3,[7,23]),(2,[2,5,8,15,16,17,18,19,20,21,22]),(1,[1,6,9,10,11,12,13,14]),(0,[0])]
theorem yEu:yaq Tryz.prog [2,4,7] (fun i=>(yMu.lookup i).getD []) Tryz.f130=some yDk.fn:=by kernel_rfl
def yMa:List (Nat×List Nat):=[(3,[25]),(2,[25]),(1,[1,3,4,5,6,7,8,9,10,11,12,13,14,15,16,17,18,19,20,21,22,23,24]),(0,[0,2])]
theorem yBr:yaq Tryz.prog [1] (fun i=>(yMa.lookup i).getD []) Tryz.f52=some yAr.fn:=by kernel_rfl
def yMv:List (Nat×List Nat):=[(1,[0,3,4])]
theorem yEv:yaq Tryz.prog [2] (fun i=>(yMv.lookup i).getD []) Tryz.f105=some yDl.fn:=by kernel_rfl
def yGR:List (Nat×List Nat):=[(8,[3,6,7,8,9,17]),(7,[5,14,16]),(6,[3,5,6,7,8,14,15]),(5,[12,13]),(4,[9,10,11]),(2,[0]),(0,[2])]
theorem ytf:yaq Tryz.prog [] (fun i=>(yGR.lookup i).getD []) Tryz.f143=some ysv.fn:=by kernel_rfl
def yMb:List (Nat×List Nat):=[(1,[2,3,5,6,7,8,9,10]),(0,[0,1,4])]
theorem yBs:yaq Tryz.prog [9,2,3] (fun i=>(yMb.lookup i).getD []) Tryz.f96=some yAs.fn:=by kernel_rfl
def yH7:List (Nat×List Nat):=[(1,[0,3,4,5]),(0,[2])]
theorem yu1:yaq Tryz.prog [] (fun i=>(yH7.lookup i).getD []) Tryz.f169=some ytO.fn:=by kernel_rfl
def yGB:List (Nat×List Nat):=[(13,[19]),(12,[19]),(11,[0,1,16,17,18]),(10,[0,1,16]),(9,[13,14,15]),(8,[0,1,13]),(7,[6,11]),(6,[12]),(5,[12]),(4,[0,1,6,11]),(3,[5]),(2,[9,10]),(1,[7,8]),(0,[4])]
theorem yri:yaq Tryz.prog [] (fun i=>(yGB.lookup i).getD []) Tryz.f150=some yqP.fn:=by kernel_rfl
def yOD:List (Nat×List Nat):=[(11,[0,1,48,49,50]),(10,[7,9,12,13,40,41,42,43,44,45,46,47]),(9,[6,35,36,37,38,39]),(8,[11,33,34]),(7,[31,32]),(6,[8,10,25,26,27,28,29,30]),(5,[22,23,24]),(4,[20,21]),(3,[18,19]),(2,[16,17]),(1,[14,15]),(0,[4,5])]
theorem yKr:yaq Tryz.prog [] (fun i=>(yOD.lookup i).getD []) Tryz.f97=some yJT.fn:=by kernel_rfl
def yGS:List (Nat×List Nat):=[(1,[0,3,4,5]),(0,[2])]
theorem ytg:yaq Tryz.prog [] (fun i=>(yGS.lookup i).getD []) Tryz.f170=some ysw.fn:=by kernel_rfl
def yEF:List (Nat×List Nat):=[(13,[19]),(12,[19]),(11,[0,1,16,17,18]),(10,[0,1,16]),(9,[13,14,15]),(8,[0,1,13]),(7,[6,11]),(6,[12]),(5,[12]),(4,[0,1,6,11]),(3,[5]),(2,[9,10]),(1,[7,8]),(0,[4])]
theorem yqh:yaq Tryz.prog [] (fun i=>(yEF.lookup i).getD []) Tryz.f152=some ypc.fn:=by kernel_rfl
def yMw:List (Nat×List Nat):=[(8,[3,6,7,8,9,17]),(7,[5,14,16]),(6,[3,5,6,7,8,14,15]),(5,[12,13]),(4,[9,10,11]),(2,[0]),(0,[2])]
theorem yEw:yaq Tryz.prog [] (fun i=>(yMw.lookup i).getD []) Tryz.f151=some yDm.fn:=by kernel_rfl
def yNw:List (Nat×List Nat):=[(11,[11,60,63]),(10,[60,61,62]),(9,[2,58,59]),(8,[7,8,9,10,50,51,52,53,54,55,56,57]),(7,[3,40,41,42,43,44,45,46,47,48,49]),(6,[24,30,31,32,33,34,35,36,37,38,39]),(5,[2,3,24,25,26,27,28,29]),(4,[6,16,18,19,20,21,22,23]),(3,[2,3,6,16,17]),(2,[15]),(1,[12,13,14]),(0,[0,1,4,5])]
theorem yGC:yaq Tryz.prog [56,2,3] (fun i=>(yNw.lookup i).getD []) Tryz.f112=some yFz.fn:=by kernel_rfl
def yNx:List (Nat×List Nat):=[(2,[5,13,14]),(1,[2,3,6,7,8,9,10,11,12]),(0,[0,1,4])]
theorem yGD:yaq Tryz.prog [2,3] (fun i=>(yNx.lookup i).getD []) Tryz.f102=some yFA.fn:=by kernel_rfl
def yMx:List (Nat×List Nat):=[(1,[2,3,5,6,7,8,9,10,11,12,13,14,15,16,17,18,19,20]),(0,[0,1,4])]
theorem yEx:yaq Tryz.prog [2,3] (fun i=>(yMx.lookup i).getD []) Tryz.f99=some yDn.fn:=by kernel_rfl
def yOE:List (Nat×List Nat):=[(10,[0,14,19,20,21,22,23,24]),(9,[17,18]),(8,[14,15,16]),(7,[8,13]),(6,[11,12]),(5,[8,9,10]),(4,[4,7]),(2,[2,4,5,6]),(1,[3])]
theorem yKs:yaq Tryz.prog [] (fun i=>(yOE.lookup i).getD []) Tryz.f190=some yJU.fn:=by kernel_rfl
def yGT:List (Nat×List Nat):=[(1,[0,3,4,5]),(0,[2])]
theorem yth:yaq Tryz.prog [] (fun i=>(yGT.lookup i).getD []) Tryz.f168=some ysx.fn:=by kernel_rfl
def yOF:List (Nat×List Nat):=[(28,[2,8,9,10,14,15,16,17,18,113,120,121,122,123,124,125,126,127,128,129,130,131,132,133,134]),(27,[119]),(26,[116,117,118]),(25,[113,114,115]),(24,[102,103,104,105,106,107,108,109,110,111,112,120]),(23,[97,98,99,100,101]),(22,[94,95,96]),(21,[11,13,16,78,85,86,87,88,89,90,91,92,93]),(20,[84]),(19,[81,82,83]),(18,[78,79,80]),(17,[67,68,69,70,71,72,73,74,75,76,77,85]),(16,[62,63,64,65,66]),(15,[59,60,61]),(14,[12,57,58]),(13,[55,56]),(12,[1,52,53,54]),(11,[0,44,45,46,47,48,49,50,51]),(10,[42,43]),(9,[40,41]),(8,[37,38,39]),(7,[27,34,35,36]),(6,[0,1,2,27,28,29,30,31,32,33]),(5,[24,26]),(4,[24,25]),(3,[20,22,23]),(2,[20,21]),(1,[19]),(0,[6,7])]
theorem yKt:yaq Tryz.prog [] (fun i=>(yOF.lookup i).getD []) Tryz.f147=some yJV.fn:=by kernel_rfl
def yOG:List (Nat×List Nat):=[(2,[8,18]),(1,[0,1,2,7,9,10,11,12,13,14,15,16,17]),(0,[6])]
theorem yKu:yaq Tryz.prog [] (fun i=>(yOG.lookup i).getD []) Tryz.f146=some yJW.fn:=by kernel_rfl
def yNy:List (Nat×List Nat):=[(26,[12,17,20,153,155,156,157,158,159,160]),(25,[12,17,20,153,154]),(24,[19,152]),(23,[2,3,7,16,138,139,140,141,142,143,144,145,146,147,148,149,150,151]),(22,[13,14,18,129,131,132,133,134,135,136,137]),(21,[2,3,7,12,13,14,16,129,130]),(20,[127,128]),(19,[119,121,122,123,124,125,126]),(18,[2,3,7,12,13,14,119,120]),(17,[114,115,116,117,118]),(16,[8,10,15,107,108,109,110,111,112,113]),(15,[9,11,94,101,102,103,104,105,106]),(14,[99,100]),(13,[94,95,96,97,98]),(12,[68,82,83,84,85,86,87,88,89,90,91,92,93]),(11,[8,10,15,75,76,77,78,79,80,81]),(10,[9,11,68,69,70,71,72,73,74]),(9,[62,63,64,65,66,67]),(8,[13,14,15]),(7,[59,60,61]),(6,[47,48,49,50,51,52,53,54,55,56,57,58]),(5,[35,36,37,38,39,40,41,42,43,44,45,46]),(4,[6,25,28,29,30,31,32,33,34]),(3,[2,3,6,25,26,27]),(2,[24]),(1,[21,22,23]),(0,[0,1,5])]
theorem yGE:yaq Tryz.prog [2,3,4] (fun i=>(yNy.lookup i).getD []) Tryz.f106=some yFB.fn:=by kernel_rfl
def yNz:List (Nat×List Nat):=[(5,[2,3,18,19,20,21,22]),(4,[6,11,14,15,16,17]),(3,[2,3,6,11,12,13]),(2,[10]),(1,[7,8,9]),(0,[0,1,5])]
theorem yGF:yaq Tryz.prog [2,3,4] (fun i=>(yNz.lookup i).getD []) Tryz.f103=some yFC.fn:=by kernel_rfl
def yNA:List (Nat×List Nat):=[(10,[2,3,14,16,65,67,68,69,70,71,72,73,74,75,76,77,78,79,80,81,82]),(9,[2,3,14,16,65,66]),(8,[13,15,62,63,64]),(7,[8,10,11,12,52,53,54,55,56,57,58,59,60,61]),(6,[7,9,42,43,44,45,46,47,48,49,50,51]),(5,[36,37,38,39,40,41]),(4,[6,21,24,25,26,27,28,29,30,31,32,33,34,35]),(3,[2,3,6,21,22,23]),(2,[20]),(1,[17,18,19]),(0,[0,1,5])]
theorem yGG:yaq Tryz.prog [2,3,4] (fun i=>(yNA.lookup i).getD []) Tryz.f55=some yFD.fn:=by kernel_rfl
def yNB:List (Nat×List Nat):=[(8,[2,3,19,34,35,36,37,38,39,40,41,42]),(7,[2,3,19,23,24,25,26,27,28,29,30,31,32,33]),(6,[14,20,21,22]),(5,[2,3,14,18]),(4,[6,11,15,16,17]),(3,[2,3,6,11,12,13]),(2,[10]),(1,[7,8,9]),(0,[0,1,5])]
theorem yGH:yaq Tryz.prog [2,3,4] (fun i=>(yNB.lookup i).getD []) Tryz.f104=some yFE.fn:=by kernel_rfl
def yMc:List (Nat×List Nat):=[(12,[5,6,7,14,15,41,48]),(11,[6,7,14,41,42,43,44,45,46,47]),(10,[40]),(9,[3,4,9,20,33,34,35,36,37,38,39]),(8,[5,13,29,31,32]),(7,[5,29,30]),(6,[28]),(5,[4,12,27]),(4,[3,6,7,9,20,21,22,23,24,25,26]),(3,[17,18,19]),(2,[3,4,5,6,7,9,17]),(1,[16]),(0,[0,1,2,8,11])]
theorem yBt:yaq Tryz.prog [7,8,9,12,14] (fun i=>(yMc.lookup i).getD []) Tryz.f101=some yrA.fn:=by kernel_rfl
def yNC:List (Nat×List Nat):=[(18,[2,3,4,14,15,16,17]),(17,[8,9,31,61]),(16,[9,59,60]),(15,[2,3,4,9,14,15,16,59]),(14,[8,10,12,34,52,54,55,56,57,58]),(13,[2,3,4,8,9,10,12,14,15,16,52,53]),(12,[51]),(11,[11,42,44,45,46,47,48,49,50]),(10,[2,3,4,8,9,10,11,12,14,15,16,42,43]),(9,[41]),(8,[34,35,36,37,38,39,40]),(7,[33]),(6,[31,32]),(5,[28,29,30]),(4,[7,21,22,23,24,25,26,27]),(3,[17,18,19,20]),(1,[13]),(0,[0,1,6])]
theorem yGI:yaq Tryz.prog [3,4,9,10,11] (fun i=>(yNC.lookup i).getD []) Tryz.f100=some yFF.fn:=by kernel_rfl
def yND:List (Nat×List Nat):=[(15,[9,10,45,48]),(14,[9,10,45,46,47]),(13,[11,42,44]),(12,[11,42,43]),(11,[41]),(10,[3,4,5,37,38,39,40]),(8,[35]),(7,[3,4,5,35,36]),(6,[31,33,34]),(5,[3,4,5,31,32]),(4,[8,15,18,19,20,21,22,23,24,25,26,27,28,29,30]),(3,[3,4,5,8,15,16,17]),(2,[14]),(1,[12,13]),(0,[0,1,2,7])]
theorem yGJ:yaq Tryz.prog [3,4,6] (fun i=>(yND.lookup i).getD []) Tryz.f56=some yFG.fn:=by kernel_rfl
def yH8:List (Nat×List Nat):=[(1,[1,4,6,7,10,11,12,13,14,15,16,17,18,19,20]),(0,[0,2,3,9])]
theorem yu2:yaq Tryz.prog [4,6,7,8] (fun i=>(yH8.lookup i).getD []) Tryz.f66=some ytP.fn:=by kernel_rfl
def yJq:List (Nat×List Nat):=[(13,[3,4,10,12,59,60,61,62,63,64,65,66,67,68,69,70,71,72]),(12,[53,54,55,56,57,58]),(11,[48,51,52]),(10,[3,4,10,48,49,50]),(9,[11,40,44,45,46,47]),(8,[3,4,10,11,40,41,42,43]),(7,[39]),(6,[2,25,28,29,30,31,32,33,34,35,36,37,38]),(5,[2,3,4,25,26,27]),(4,[9,17,21,22,23,24]),(3,[2,3,4,9,17,18,19,20]),(2,[16]),(1,[13,14,15]),(0,[0,1,8])]
theorem ywl:yaq Tryz.prog [69,3,4,6,7,10] (fun i=>(yJq.lookup i).getD []) Tryz.f161=some ymi.fn:=by kernel_rfl
def yNZ:List (Nat×List Nat):=[(2,[1,6,7,11,14,15,16,17,18,19,20,21,22,23,24]),(1,[4,12,13]),(0,[0,2,3,10])]
theorem yH9:yaq Tryz.prog [4,6,7,8,9,11] (fun i=>(yNZ.lookup i).getD []) Tryz.f129=some yHs.fn:=by kernel_rfl
def yKD:List (Nat×List Nat):=[(4,[0,1,3,6,7,8,21,27]),(3,[0,1,3,6,7,21,22,23,24,25,26]),(2,[20]),(1,[2,9,10,11,12,13,14,15,16,17,18,19]),(0,[5])]
theorem yAl:yaq Tryz.prog [6,7] (fun i=>(yKD.lookup i).getD []) Tryz.f128=some yy4.fn:=by kernel_rfl
def yMy:List (Nat×List Nat):=[(28,[3,5,9,10,42,43,44,45,105]),(27,[13,70,104]),(26,[13,15,100,103]),(25,[3,5,9,10,13,15,42,43,44,100,101,102]),(24,[99]),(23,[16,90,93,94,95,96,97,98]),(22,[3,5,9,10,13,15,16,42,43,44,90,91,92]),(21,[89]),(20,[12,14,79,82,83,84,85,86,87,88]),(19,[3,5,9,10,12,13,14,15,42,43,44,79,80,81]),(18,[78]),(17,[67,72,73,74,75,76,77]),(16,[13,70,71]),(15,[12,67,68,69]),(14,[58,60,61,62,63,64,65,66]),(13,[58,59]),(12,[56,57]),(11,[11,49,50,51,52,53,54,55]),(10,[45,46,47,48]),(8,[41]),(7,[4,40]),(6,[37,39]),(5,[3,4,5,37,38]),(4,[8,20,23,24,25,26,27,28,29,30,31,32,33,34,35,36]),(3,[3,4,5,8,20,21,22]),(2,[19]),(1,[17,18]),(0,[0,1,2,7])]
theorem yEy:yaq Tryz.prog [3,4,5,6,9,10,13,14,16] (fun i=>(yMy.lookup i).getD []) Tryz.f114=some yDo.fn:=by kernel_rfl
def yGU:List (Nat×List Nat):=[(1,[1,4,6,7,10,11,12,13,14,15,16,17,18,19,20]),(0,[0,2,3,9])]
theorem yti:yaq Tryz.prog [4,6,7,8] (fun i=>(yGU.lookup i).getD []) Tryz.f65=some ysy.fn:=by kernel_rfl
def yNE:List (Nat×List Nat):=[(2,[1,6,7,11,14,15,16,17,18,19,20,21,22,23,24]),(1,[4,12,13]),(0,[0,2,3,10])]
theorem yGK:yaq Tryz.prog [4,6,7,8,9,11] (fun i=>(yNE.lookup i).getD []) Tryz.f131=some yFH.fn:=by kernel_rfl
def yNF:List (Nat×List Nat):=[(2,[5,13,14]),(1,[2,3,6,7,8,9,10,11,12]),(0,[0,1,4])]
theorem yGL:yaq Tryz.prog [2,3] (fun i=>(yNF.lookup i).getD []) Tryz.f132=some yFI.fn:=by kernel_rfl
def yMz:List (Nat×List Nat):=[(18,[1,3,5,9,10,11,12,29,30,31,32,38,76,77]),(17,[12,16,62,71,75]),(16,[1,3,5,9,10,16,29,30,31,71,72,73,74]),(15,[70]),(14,[12,40,67,68,69]),(13,[62,63,64,65,66]),(12,[14,57,58,59,60,61]),(11,[13,15,52,56]),(10,[1,3,5,9,10,12,13,14,15,29,30,31,52,53,54,55]),(9,[51]),(8,[40,41,42,43,44,45,46,47,48,49,50]),(7,[11,38,39]),(6,[36,37]),(5,[32,33,34,35]),(2,[28]),(1,[17,18,19,20,21,22,23,24,25,26,27]),(0,[0,2,8])]
theorem yEz:yaq Tryz.prog [6,7,13,14] (fun i=>(yMz.lookup i).getD []) Tryz.f77=some yDp.fn:=by kernel_rfl
def yIa:List (Nat×List Nat):=[(1,[0,1,4,5,6,7]),(0,[3])]
theorem yu3:yaq Tryz.prog [] (fun i=>(yIa.lookup i).getD []) Tryz.f79=some ykT.fn:=by kernel_rfl
def yEA:List (Nat×List Nat):=[(7,[0,1,7,8,9]),(6,[5,16,18]),(5,[0,1,5,7,8,16,17]),(4,[11,12,13,14,15]),(3,[9,10]),(1,[6]),(0,[4])]
theorem yoU:yaq Tryz.prog [] (fun i=>(yEA.lookup i).getD []) Tryz.f133=some yoF.fn:=by kernel_rfl
def yCC:List (Nat×List Nat):=[(12,[0,5,39,40,41]),(11,[1,6,19,36,37,38]),(6,[7,20,21,29]),(10,[34,35]),(9,[7,29,30,31,32,33]),(8,[26,27,28]),(7,[19,22,23,24,25]),(5,[16,17,18]),(4,[12,14,15]),(3,[0,1,5,12,13]),(2,[11]),(1,[8,9,10]),(0,[4])]
theorem yn9:yaq Tryz.prog [] (fun i=>(yCC.lookup i).getD []) Tryz.f78=some ync.fn:=by kernel_rfl
def yKv:List (Nat×List Nat):=[(15,[52]),(14,[6]),(13,[8,49,50,51]),(12,[7,45,46,47,48]),(11,[9,37,41,42,43,44]),(10,[0,1,2,4,6,7,8,9,37,38,39,40]),(9,[36]),(8,[27,28,29,30,31,32,33,34,35]),(7,[25,26]),(6,[15,16,17,24]),(5,[23]),(4,[5,19,20,21,22]),(3,[17,18]),(1,[14]),(0,[10,11,12,13]),(999999,[1])]
theorem yxJ:yaq Tryz.prog [6,7,6] (fun i=>(yKv.lookup i).getD []) Tryz.f75=some yKB.fn:=by kernel_rfl
def yMd:List (Nat×List Nat):=[(1,[2,3,5]),(0,[0,1,4])]
theorem yBu:yaq Tryz.prog [] (fun i=>(yMd.lookup i).getD []) Tryz.f36=some yrB.fn:=by kernel_rfl
def yN0:List (Nat×List Nat):=[(14,[50,53,54,55]),(13,[50,51,52]),(12,[1,24,48,49]),(11,[1,44,45,46,47]),(10,[8,33,34,35,36,37,38,39,40,41,42,43]),(9,[7,31,32]),(8,[27,28,29,30]),(7,[26]),(6,[24,25]),(5,[6,22,23]),(4,[15,18,19,20,21]),(3,[1,6,15,16,17]),(2,[14]),(1,[9,10,11,12,13]),(0,[0])]
theorem yIb:yaq Tryz.prog [29,42,6,1000002,1000003] (fun i=>(yN0.lookup i).getD []) Tryz.f11=some yHv.fn:=by kernel_rfl
def yMA:List (Nat×List Nat):=[(3,[0,9,10,11,12,13]),(2,[0,9]),(1,[4,5,6,7,8]),(0,[2,3])]
theorem yEB:yaq Tryz.prog [] (fun i=>(yMA.lookup i).getD []) Tryz.f9=some yDq.fn:=by kernel_rfl
def yOK:List (Nat×List Nat):=[(1,[0,3,4])]
theorem yMe:yaq Tryz.prog [2] (fun i=>(yOK.lookup i).getD []) Tryz.f39=some yLi.fn:=by kernel_rfl
def yKw:List (Nat×List Nat):=[(8,[0,1,5,14]),(5,[15,16,25]),(7,[0,1,5,25]),(6,[14,17,18,19,20,21,22,23,24]),(4,[11,12,13]),(3,[10]),(2,[0,1,10]),(1,[6,7,8,9]),(0,[4])]
theorem yxK:yaq Tryz.prog [] (fun i=>(yKw.lookup i).getD []) Tryz.f14=some ywZ.fn:=by kernel_rfl
def yNG:List (Nat×List Nat):=[(4,[2,3,4,5,6,7,8,9,10,26,27,28,29,30,31,32,33,34,35,36,37,38,39,40,41,42,43,44,45,46,47,48,49,50,51,52,53,54]),(3,[22,23,24,25]),(2,[18,19,20,21]),(1,[1,11,12,13,14,15,16,17]),(0,[0])]
theorem yGM:yaq Tryz.prog [39,1,7,8,9,10] (fun i=>(yNG.lookup i).getD []) Tryz.f27=some yFK.fn:=by kernel_rfl
def yMB:List (Nat×List Nat):=[(17,[1,6,25,26,27,28,76,77]),(16,[8,73,75]),(15,[1,6,8,25,26,27,73,74]),(14,[9,11,12,66,67,68,69,70,71,72]),(13,[10,53,55,56,57,58,59,60,61,62,63,64,65]),(12,[1,6,8,9,10,25,26,27,53,54]),(11,[36,39,40,41,42,43,44,45,46,47,48,49,50,51,52]),(10,[36,37,38]),(9,[34,35]),(8,[32,33]),(7,[28,29,30,31]),(5,[7,21,23,24]),(4,[1,6,7,21,22]),(3,[20]),(2,[17,18,19]),(1,[0,13,14,15,16]),(0,[4,5])]
theorem yEC:yaq Tryz.prog [6,9,11] (fun i=>(yMB.lookup i).getD []) Tryz.f28=some yDr.fn:=by kernel_rfl
def yMf:List (Nat×List Nat):=[(2,[3,4,13,14,15,16,17,18]),(1,[1,5,6,7,8,9,10,11,12]),(0,[0,2])]
theorem yBv:yaq Tryz.prog [1] (fun i=>(yMf.lookup i).getD []) Tryz.f212=some yAt.fn:=by kernel_rfl
def yNH:List (Nat×List Nat):=[(9,[8,9,10,11]),(8,[16,17]),(7,[8,9,10,16]),(6,[4,14,15]),(5,[11,12,13]),(3,[0,7]),(2,[0,7]),(1,[5,6]),(0,[2])]
theorem yGN:yaq Tryz.prog [4] (fun i=>(yNH.lookup i).getD []) Tryz.f191=some yFL.fn:=by kernel_rfl
def yMg:List (Nat×List Nat):=[(2,[5,13]),(1,[2,3,6,7,8,9,10,11,12]),(0,[0,1,4])]
theorem yBw:yaq Tryz.prog [2,3] (fun i=>(yMg.lookup i).getD []) Tryz.f172=some yAu.fn:=by kernel_rfl
def yMh:List (Nat×List Nat):=[(9,[0,4,13]),(6,[14,15,28]),(8,[0,4,28]),(7,[13,16,17,18,19,20,21,22,23,24,25,26,27]),(5,[10,11,12]),(4,[3,8]),(3,[0,3,8,9]),(2,[7]),(1,[5,6]),(0,[2])]
theorem yBx:yaq Tryz.prog [] (fun i=>(yMh.lookup i).getD []) Tryz.f171=some yAv.fn:=by kernel_rfl
def yMi:List (Nat×List Nat):=[(1,[0,3,4])]
theorem yBy:yaq Tryz.prog [2,1000002] (fun i=>(yMi.lookup i).getD []) Tryz.f116=some yAw.fn:=by kernel_rfl
def yMC:List (Nat×List Nat):=[(2,[5,13,14]),(1,[2,3,6,7,8,9,10,11,12]),(0,[0,1,4])]
theorem yED:yaq Tryz.prog [2,3,1000002,1000003] (fun i=>(yMC.lookup i).getD []) Tryz.f123=some yDs.fn:=by kernel_rfl
def yMj:List (Nat×List Nat):=[(20,[0,38,39,40,41]),(19,[69,70]),(18,[0,38,39,40,69]),(17,[10,11,46,47,48,49,50,51,52,53,54,55,56,57,58,59,60,61,62,63,64,65,66,67,68]),(16,[44,45]),(15,[41,42,43]),(13,[3,25,26,27,28,37]),(12,[8,34,36]),(11,[0,3,8,25,26,27,34,35]),(10,[33]),(9,[7,31,32]),(8,[28,29,30]),(6,[23,24]),(5,[0,3,23]),(4,[5,16,18,19,20,21,22]),(3,[0,3,5,16,17]),(2,[15]),(1,[12,13,14]),(0,[1,4])]
theorem yBz:yaq Tryz.prog [3,1000003] (fun i=>(yMj.lookup i).getD []) Tryz.f153=some yAx.fn:=by kernel_rfl
def yKx:List (Nat×List Nat):=[(1,[1,2,5,6,7,8,9,10,11,12]),(0,[0,4])]
theorem yxL:yaq Tryz.prog [2,3] (fun i=>(yKx.lookup i).getD []) Tryz.f174=some yoo.fn:=by kernel_rfl
def yNI:List (Nat×List Nat):=[(12,[1,6,12,13,14,15,39]),(11,[10,35,38]),(10,[1,6,10,12,13,14,35,36,37]),(9,[34]),(8,[9,25,28,29,30,31,32,33]),(7,[1,6,9,10,12,13,14,25,26,27]),(6,[24]),(5,[8,18,19,20,21,22,23]),(4,[15,16,17]),(2,[0]),(1,[11]),(0,[5])]
theorem yGO:yaq Tryz.prog [4,6,8,9] (fun i=>(yNI.lookup i).getD []) Tryz.f173=some yFM.fn:=by kernel_rfl
def yMk:List (Nat×List Nat):=[(10,[1,2,45,47,48,49,50,51]),(9,[1,2,45,46]),(8,[8,23,24,25,26,27,28,29,30,31,32,33,34,35,36,37,38,39,40,41,42,43,44]),(7,[7,18,21,22]),(6,[1,2,7,18,19,20]),(5,[17]),(4,[6,12,15,16]),(3,[1,2,6,12,13,14]),(2,[11]),(1,[9,10]),(0,[0,5])]
theorem yBA:yaq Tryz.prog [4] (fun i=>(yMk.lookup i).getD []) Tryz.f154=some yAy.fn:=by kernel_rfl
def yMl:List (Nat×List Nat):=[(17,[3,7,23,24,25,26,58]),(16,[8,9,31,32,33,34,57]),(15,[56]),(14,[12,13,44,46,47,48,49,50,51,52,53,54,55]),(13,[3,7,8,9,12,13,23,24,25,31,32,33,44,45]),(12,[43]),(11,[11,37,38,39,40,41,42]),(10,[34,35,36]),(8,[30]),(7,[26,27,28,29]),(5,[0]),(4,[6,18,20,21,22]),(3,[0,3,6,18,19]),(2,[17]),(1,[14,15,16]),(0,[1,4,5])]
theorem yBB:yaq Tryz.prog [53,3,9,12,1000003,1000022,1000009,1000012] (fun i=>(yMl.lookup i).getD []) Tryz.f115=some yrC.fn:=by kernel_rfl
def yJr:List (Nat×List Nat):=[(4,[0,3,6,7,15,17,18,19,20,21,22]),(3,[0,3,6,7,15,16]),(2,[14]),(1,[8,9,10,11,12,13]),(0,[1,4,5])]
theorem ywm:yaq Tryz.prog [3,1000003,1000022] (fun i=>(yJr.lookup i).getD []) Tryz.f68=some ygk.fn:=by kernel_rfl
def yGV:List (Nat×List Nat):=[(10,[0,12,13,14]),(9,[56]),(8,[6,7,44,46,47,48,49,50,51,52,53,54,55]),(7,[0,6,7,12,13,44,45]),(6,[43]),(5,[3,4,27,28,29,30,31,32,33,34,35,36,37,38,39,40,41,42]),(4,[5,16,17,18,19,20,21,22,23,24,25,26]),(3,[14,15]),(1,[8,9,10,11]),(0,[2])]
theorem ytj:yaq Tryz.prog [52,6] (fun i=>(yGV.lookup i).getD []) Tryz.f69=some yj9.fn:=by kernel_rfl
def yIc:List (Nat×List Nat):=[(1,[1,2,4,5,6,7,8,9,10,11,12,13,14,15]),(0,[0,3])]
theorem yu4:yaq Tryz.prog [2,1000002] (fun i=>(yIc.lookup i).getD []) Tryz.f157=some ykU.fn:=by kernel_rfl
def yu5:List (Nat×List Nat):=[(7,[0,1,7,8,9]),(6,[5,16,18]),(5,[0,1,5,7,8,16,17]),(4,[11,12,13,14,15]),(3,[9,10]),(1,[6]),(0,[4])]
theorem yhN:yaq Tryz.prog [] (fun i=>(yu5.lookup i).getD []) Tryz.f175=some yeT.fn:=by kernel_rfl
def ysb:List (Nat×List Nat):=[(1,[0,1,5,6,7,8]),(0,[4])]
theorem ygZ:yaq Tryz.prog [] (fun i=>(ysb.lookup i).getD []) Tryz.f155=some ybF.fn:=by kernel_rfl
def yKy:List (Nat×List Nat):=[(1,[1,2,4,5,6]),(0,[0,3])]
theorem yxM:yaq Tryz.prog [1000002] (fun i=>(yKy.lookup i).getD []) Tryz.f156=some yw0.fn:=by kernel_rfl
def yMm:List (Nat×List Nat):=[(1,[0,3,5,6,7]),(0,[1,4])]
theorem yBC:yaq Tryz.prog [1000003] (fun i=>(yMm.lookup i).getD []) Tryz.f119=some yAz.fn:=by kernel_rfl
def yCD:List (Nat×List Nat):=[(1,[0,1,2,6,7,8,9,10,11,12,13,14,15,16,17,18,19,20,21,22,23,24,25]),(0,[5])]
theorem yoa:yaq Tryz.prog [] (fun i=>(yCD.lookup i).getD []) Tryz.f118=some yhs.fn:=by kernel_rfl
def yGP:List (Nat×List Nat):=[(11,[0,1,13,14,15]),(10,[7,21,22,23,32]),(9,[8,28,31]),(8,[0,1,7,8,13,14,21,22,28,29,30]),(7,[25,26,27]),(6,[23,24]),(4,[17,18,19,20]),(3,[15,16]),(1,[9,10,11,12]),(0,[4,5,6])]
theorem yrj:yaq Tryz.prog [] (fun i=>(yGP.lookup i).getD []) Tryz.f117=some yqQ.fn:=by kernel_rfl
def yx6:List (Nat×List Nat):=[(6,[0,1,16,26]),(5,[1,16,17,18,19,20,21,22,23,24,25]),(4,[15]),(3,[6,8,9,10,11,12,13,14]),(2,[6,7]),(1,[5]),(0,[4])]
theorem ykH:yaq Tryz.prog [] (fun i=>(yx6.lookup i).getD []) Tryz.f176=some yf4.fn:=by kernel_rfl
def ywT:List (Nat×List Nat):=[(15,[6,25,26,27,28,35]),(14,[34]),(13,[8,31,32,33]),(12,[28,29,30]),(10,[0]),(9,[3,9,10,11,12,23,24]),(8,[20,22]),(7,[20,21]),(6,[19]),(5,[5,15,16,17,18]),(4,[12,13,14]),(0,[2])]
theorem yjf:yaq Tryz.prog [] (fun i=>(ywT.lookup i).getD []) Tryz.f158=some yiZ.fn:=by kernel_rfl
def yOH:List (Nat×List Nat):=[(7,[0,8,13,14,15,16,17,18]),(6,[11,12]),(5,[8,9,10]),(4,[4,7]),(2,[2,4,5,6]),(1,[3])]
theorem yKz:yaq Tryz.prog [] (fun i=>(yOH.lookup i).getD []) Tryz.f189=some yOJ.fn:=by kernel_rfl
def yPt:List (Nat×List Nat):=[(2,[0,6,7]),(1,[0,3,4,5]),(0,[2])]
theorem yNJ:yaq Tryz.prog [] (fun i=>(yPt.lookup i).getD []) Tryz.f167=some yPx.fn:=by kernel_rfl
def yoV:List (Nat×List Nat):=[(2,[9,15,16,34]),(5,[35,36]),(6,[34,37,38,39,40,41,42,43,44,45,46,47,48,49,50,51,52]),(4,[18,19,20,21,22,23,24,25,26,27,28,29,30,31,32,33]),(3,[14,17]),(1,[12,13]),(0,[10,11])]
theorem ygd:yaq Tryz.prog [] (fun i=>(yoV.lookup i).getD []) Tryz.f192=some ypd.fn:=by kernel_rfl
def ytk:List (Nat×List Nat):=[(30,[16,147]),(29,[2,140,141,142,143,144,145,146]),(28,[18,19,20,125,137,138,139]),(27,[16,135,136]),(26,[1,129,130,131,132,133,134]),(25,[18,19,20,125,126,127,128]),(24,[123,124]),(23,[12,121,122]),(22,[115,116,117,118,119,120]),(21,[17,114]),(20,[10,11,13,97,105,106,107,108,109,110,111,112,113]),(19,[15,104]),(18,[1,12,13,97,98,99,100,101,102,103]),(17,[75,80,81,82,83,84,85,86,87,88,89,90,91,92,93,94,95,96]),(16,[75,76,77,78,79]),(15,[14,56,68,69,70,71,72,73,74]),(13,[62,63,64,65,66,67]),(12,[14,56,57,58,59,60,61]),(11,[55]),(10,[39,47,48,49,50,51,52,53,54]),(9,[45,46]),(8,[39,40,41,42,43,44]),(7,[32,38]),(6,[0,1,2,3,4,10,11,12,32,33,34,35,36,37]),(5,[25,31]),(4,[0,1,2,3,4,10,11,12,25,26,27,28,29,30]),(3,[24]),(2,[21,22,23])]
theorem yhL:yaq Tryz.prog [] (fun i=>(ytk.lookup i).getD []) Tryz.f177=some ytQ.fn:=by kernel_rfl
def yu7:List (Nat×List Nat):=[(1,[0,1,4,7,8,9,10,11,12,13]),(0,[5,6])]
theorem yii:yaq Tryz.prog [] (fun i=>(yu7.lookup i).getD []) Tryz.f159=some yvu.fn:=by kernel_rfl
def yGQ:List (Nat×List Nat):=[(2,[5,15]),(1,[2,3,6,7,8,9,10,11,12,13,14]),(0,[0,1,4])]
theorem yrk:yaq Tryz.prog [2,3] (fun i=>(yGQ.lookup i).getD []) Tryz.f160=some yqR.fn:=by kernel_rfl
def yId:List (Nat×List Nat):=[(12,[0,4,15,16,17,18,32,33,34,35,36,37,38,39,40,41]),(11,[6,28,31]),(10,[6,28,29,30]),(9,[24,25,26,27]),(8,[0,4,6,15,16,17,24]),(7,[21,22,23]),(6,[18,19,20]),(4,[3]),(3,[14]),(2,[12,13]),(1,[7,8,9,10,11]),(0,[2])]
theorem yu6:yaq Tryz.prog [4,6] (fun i=>(yId.lookup i).getD []) Tryz.f120=some ytR.fn:=by kernel_rfl
def yCE:List (Nat×List Nat):=[(3,[0,1,2,8,31,32,33,34,35,36,37,38,39,40,41,42,43,44,45,46,47]),(2,[6,9,21,22,23,24,25,26,27,28,29,30]),(1,[7,10,11,12,13,14,15,16,17,18,19,20]),(0,[5])]
theorem yob:yaq Tryz.prog [8] (fun i=>(yCE.lookup i).getD []) Tryz.f121=some yht.fn:=by kernel_rfl
def yCF:List (Nat×List Nat):=[(1,[0,1,2,6,7,8,9,10,11,12,13,14,15,16,17,18,19,20,21,22,23,24,25,26]),(0,[5])]
theorem yoc:yaq Tryz.prog [] (fun i=>(yCF.lookup i).getD []) Tryz.f124=some yhu.fn:=by kernel_rfl
def yCG:List (Nat×List Nat):=[(1,[0,1,2,6,7,8,9,10,11,12,13,14,15,16,17,18,19,20,21,22,23]),(0,[5])]
theorem yod:yaq Tryz.prog [] (fun i=>(yCG.lookup i).getD []) Tryz.f125=some yhv.fn:=by kernel_rfl
def yCH:List (Nat×List Nat):=[(1,[0,1,2,6,7,8,9,10,11,12,13,14,15,16,17,18,19]),(0,[5])]
theorem yoe:yaq Tryz.prog [] (fun i=>(yCH.lookup i).getD []) Tryz.f126=some yhw.fn:=by kernel_rfl
def yEG:List (Nat×List Nat):=[(13,[2,45,53,54,55,56,57,58]),(12,[2,45,47,48,49,50,51,52]),(11,[10,37,46]),(10,[2,10,37,39,40,41,42,43,44]),(9,[29,38]),(8,[2,10,29,31,32,33,34,35,36]),(7,[11,30]),(6,[7,8,9,25,26,27,28]),(5,[7,8,9,25]),(4,[2,20,21,22,23,24]),(3,[10,11,13,14,15,16,17,18,19]),(2,[12]),(1,[1]),(0,[0,4,5,6])]
theorem yqi:yaq Tryz.prog [] (fun i=>(yEG.lookup i).getD []) Tryz.f70=some ype.fn:=by kernel_rfl
def yMD:List (Nat×List Nat):=[(14,[6,8,32,33,52]),(13,[9,44,51]),(12,[9,44,45,46,47,48,49,50]),(11,[12,43]),(10,[10,11,35,36,37,38,39,40,41,42]),(9,[33,34]),(6,[7,24,27,28,29,30,31]),(5,[6,7,24,25,26]),(4,[20,23]),(3,[20,21,22]),(2,[19]),(1,[0,3,13,14,15,16,17,18]),(0,[1,5])]
theorem yEE:yaq Tryz.prog [3,4,8,1000003,1000004,1000008] (fun i=>(yMD.lookup i).getD []) Tryz.f29=some yDt.fn:=by kernel_rfl
def yjg:List (Nat×List Nat):=[(10,[1,2,15,16,17,18]),(9,[30,31]),(8,[1,2,15,16,17,30]),(7,[8,9,26,27,28,29]),(6,[7,22,23,24,25]),(5,[18,19,20,21]),(3,[0,14]),(2,[0,1,2,14]),(1,[10,11,12,13]),(0,[6])]
theorem ydJ:yaq Tryz.prog [] (fun i=>(yjg.lookup i).getD []) Tryz.f71=some ydI.fn:=by kernel_rfl
def ywn:List (Nat×List Nat):=[(9,[0,1,12,13,14]),(8,[24,25]),(7,[0,1,12,13,24]),(6,[5,16,17,18,19,20,21,22,23]),(5,[14,15]),(3,[10,11]),(2,[0,1,10]),(1,[6,7,8,9]),(0,[4])]
theorem yiW:yaq Tryz.prog [] (fun i=>(ywn.lookup i).getD []) Tryz.f72=some yiN.fn:=by kernel_rfl
def yKE:List (Nat×List Nat):=[(18,[5,8,46,47]),(17,[11,54,63,64]),(16,[5,8,46,63]),(15,[14]),(14,[11,12,13,54,55,56,57,58,59,60,61,62]),(13,[49,50,51,52,53]),(12,[47,48]),(10,[10,40,44]),(9,[5,8,10,44,45]),(8,[43]),(7,[40,41,42]),(6,[36,37,38,39]),(5,[5,8,36]),(4,[9,22,24,25,26,27,28,29,30,31,32,33,34,35]),(3,[5,8,9,22,23]),(2,[21]),(1,[0,4,15,16,17,18,19,20]),(0,[1,2,6,7])]
theorem yAm:yaq Tryz.prog [4,5,1000004,1000005] (fun i=>(yKE.lookup i).getD []) Tryz.f30=some yy5.fn:=by kernel_rfl
def yKF:List (Nat×List Nat):=[(10,[13,14,79,80,81,82,83,84,85,86]),(9,[0,3,11,69,70,71,72,73,74,75,76,77,78]),(8,[0,3,11,69]),(7,[5,6,7,8,9,10,12,44,45,46,47,48,49,50,51,52,53,54,55,56,57,58,59,60,61,62,63,64,65,66,67,68]),(6,[38,39,40,41,42,43]),(5,[32,33,34,35,36,37]),(4,[26,27,28,29,30,31]),(3,[4,17,19,20,21,22,23,24,25]),(2,[0,17,18]),(1,[15,16]),(0,[2])]
theorem yAn:yaq Tryz.prog [3,11] (fun i=>(yKF.lookup i).getD []) Tryz.f6=some yy6.fn:=by kernel_rfl
theorem yPu:yyC Tryz.prog tab:=by
 unfold tab
 simp only [yyC]
 exact ⟨⟨Tryz.f34,_,_,Tryz.func34,yGu⟩,⟨Tryz.f8,_,_,Tryz.func8,ywj⟩,⟨Tryz.f113,_,_,Tryz.func113,yGv⟩,⟨Tryz.f62,_,_,Tryz.func62,yGw⟩,⟨Tryz.f26,_,_,Tryz.func26,yKo⟩,⟨Tryz.f63,_,_,Tryz.func63,yGx⟩,⟨Tryz.f141,_,_,Tryz.func141,yxH⟩,⟨Tryz.f142,_,_,Tryz.func142,yxI⟩,⟨Tryz.f95,_,_,Tryz.func95,yEn⟩,⟨Tryz.f64,_,_,Tryz.func64,yGy⟩,⟨Tryz.f127,_,_,Tryz.func127,yu0⟩,⟨Tryz.f74,_,_,Tryz.func74,yEo⟩,⟨Tryz.f35,_,_,Tryz.func35,yH6⟩,⟨Tryz.f37,_,_,Tryz.func37,yEp⟩,⟨Tryz.f76,_,_,Tryz.func76,yEq⟩,⟨Tryz.f67,_,_,Tryz.func67,ywk⟩,⟨Tryz.f54,_,_,Tryz.func54,yEr⟩,⟨Tryz.f162,_,_,Tryz.func162,yGz⟩,⟨Tryz.f93,_,_,Tryz.func93,yEs⟩,⟨Tryz.f94,_,_,Tryz.func94,yGA⟩,⟨Tryz.f98,_,_,Tryz.func98,yAk⟩,⟨Tryz.f122,_,_,Tryz.func122,yEt⟩,⟨Tryz.f130,_,_,Tryz.func130,yEu⟩,⟨Tryz.f52,_,_,Tryz.func52,yBr⟩,⟨Tryz.f105,_,_,Tryz.func105,yEv⟩,⟨Tryz.f143,_,_,Tryz.func143,ytf⟩,⟨Tryz.f96,_,_,Tryz.func96,yBs⟩,⟨Tryz.f169,_,_,Tryz.func169,yu1⟩,⟨Tryz.f150,_,_,Tryz.func150,yri⟩,⟨Tryz.f97,_,_,Tryz.func97,yKr⟩,⟨Tryz.f170,_,_,Tryz.func170,ytg⟩,⟨Tryz.f152,_,_,Tryz.func152,yqh⟩,⟨Tryz.f151,_,_,Tryz.func151,yEw⟩,⟨Tryz.f112,_,_,Tryz.func112,yGC⟩,⟨Tryz.f102,_,_,Tryz.func102,yGD⟩,⟨Tryz.f99,_,_,Tryz.func99,yEx⟩,⟨Tryz.f190,_,_,Tryz.func190,yKs⟩,⟨Tryz.f168,_,_,Tryz.func168,yth⟩,⟨Tryz.f147,_,_,Tryz.func147,yKt⟩,⟨Tryz.f146,_,_,Tryz.func146,yKu⟩,⟨Tryz.f106,_,_,Tryz.func106,yGE⟩,⟨Tryz.f103,_,_,Tryz.func103,yGF⟩,⟨Tryz.f55,_,_,Tryz.func55,yGG⟩,⟨Tryz.f104,_,_,Tryz.func104,yGH⟩,⟨Tryz.f101,_,_,Tryz.func101,yBt⟩,⟨Tryz.f100,_,_,Tryz.func100,yGI⟩,⟨Tryz.f56,_,_,Tryz.func56,yGJ⟩,⟨Tryz.f66,_,_,Tryz.func66,yu2⟩,⟨Tryz.f161,_,_,Tryz.func161,ywl⟩,⟨Tryz.f129,_,_,Tryz.func129,yH9⟩,⟨Tryz.f128,_,_,Tryz.func128,yAl⟩,⟨Tryz.f114,_,_,Tryz.func114,yEy⟩,⟨Tryz.f65,_,_,Tryz.func65,yti⟩,⟨Tryz.f131,_,_,Tryz.func131,yGK⟩,⟨Tryz.f132,_,_,Tryz.func132,yGL⟩,⟨Tryz.f77,_,_,Tryz.func77,yEz⟩,⟨Tryz.f79,_,_,Tryz.func79,yu3⟩,⟨Tryz.f133,_,_,Tryz.func133,yoU⟩,⟨Tryz.f78,_,_,Tryz.func78,yn9⟩,⟨Tryz.f75,_,_,Tryz.func75,yxJ⟩,⟨Tryz.f36,_,_,Tryz.func36,yBu⟩,⟨Tryz.f11,_,_,Tryz.func11,yIb⟩,⟨Tryz.f9,_,_,Tryz.func9,yEB⟩,⟨Tryz.f39,_,_,Tryz.func39,yMe⟩,⟨Tryz.f14,_,_,Tryz.func14,yxK⟩,⟨Tryz.f27,_,_,Tryz.func27,yGM⟩,⟨Tryz.f28,_,_,Tryz.func28,yEC⟩,⟨Tryz.f212,_,_,Tryz.func212,yBv⟩,⟨Tryz.f191,_,_,Tryz.func191,yGN⟩,⟨Tryz.f172,_,_,Tryz.func172,yBw⟩,⟨Tryz.f171,_,_,Tryz.func171,yBx⟩,⟨Tryz.f116,_,_,Tryz.func116,yBy⟩,⟨Tryz.f123,_,_,Tryz.func123,yED⟩,⟨Tryz.f153,_,_,Tryz.func153,yBz⟩,⟨Tryz.f174,_,_,Tryz.func174,yxL⟩,⟨Tryz.f173,_,_,Tryz.func173,yGO⟩,⟨Tryz.f154,_,_,Tryz.func154,yBA⟩,⟨Tryz.f115,_,_,Tryz.func115,yBB⟩,⟨Tryz.f68,_,_,Tryz.func68,ywm⟩,⟨Tryz.f69,_,_,Tryz.func69,ytj⟩,⟨Tryz.f157,_,_,Tryz.func157,yu4⟩,⟨Tryz.f175,_,_,Tryz.func175,yhN⟩,⟨Tryz.f155,_,_,Tryz.func155,ygZ⟩,⟨Tryz.f156,_,_,Tryz.func156,yxM⟩,⟨Tryz.f119,_,_,Tryz.func119,yBC⟩,⟨Tryz.f118,_,_,Tryz.func118,yoa⟩,⟨Tryz.f117,_,_,Tryz.func117,yrj⟩,⟨Tryz.f176,_,_,Tryz.func176,ykH⟩,⟨Tryz.f158,_,_,Tryz.func158,yjf⟩,⟨Tryz.f189,_,_,Tryz.func189,yKz⟩,⟨Tryz.f167,_,_,Tryz.func167,yNJ⟩,⟨Tryz.f192,_,_,Tryz.func192,ygd⟩,⟨Tryz.f177,_,_,Tryz.func177,yhL⟩,⟨Tryz.f159,_,_,Tryz.func159,yii⟩,⟨Tryz.f160,_,_,Tryz.func160,yrk⟩,⟨Tryz.f120,_,_,Tryz.func120,yu6⟩,⟨Tryz.f121,_,_,Tryz.func121,yob⟩,⟨Tryz.f124,_,_,Tryz.func124,yoc⟩,⟨Tryz.f125,_,_,Tryz.func125,yod⟩,⟨Tryz.f126,_,_,Tryz.func126,yoe⟩,⟨Tryz.f70,_,_,Tryz.func70,yqi⟩,⟨Tryz.f29,_,_,Tryz.func29,yEE⟩,⟨Tryz.f71,_,_,Tryz.func71,ydJ⟩,⟨Tryz.f72,_,_,Tryz.func72,yiW⟩,⟨Tryz.f30,_,_,Tryz.func30,yAm⟩,⟨Tryz.f6,_,_,Tryz.func6,yAn⟩,trivial⟩
theorem hm:Tryz.prog.follows .mixedOrders=true:=by kernel_rfl
theorem yPv:IsExtern Tryz.prog ygi add64Entry:=⟨_,Tryz.func144,by kernel_rfl,by kernel_rfl,by kernel_rfl,by kernel_rfl⟩
theorem yPw:IsExtern Tryz.prog ygj yyE:=⟨_,Tryz.func145,by kernel_rfl,by kernel_rfl,by kernel_rfl,by kernel_rfl⟩
theorem k0C:EO Tryz.prog E0C:=by
 refine yLe hm yPv yPw yPu ?_
 intro n e b h
 simp only [cloL,qAr,Prod.mk.injEq,List.not_mem_nil,or_false] at h
 rcases h with ⟨rfl,rfl,rfl⟩
 exact ⟨(.int .i64 (0)),by kernel_rfl⟩
theorem kN:EO Tryz.prog (E []):=yFr k0C fun e h=>by cases h
theorem yqj:SortsAt Tryz.prog yoG.s yoG.cf yoG.srt where
 size:=fun d=>(pdq_sorts _ (yHX _ _) d 0 d.size (Go.Lib.bitLen d.size) true true (Nat.zero_le _) (Nat.le_refl _) (Or.inl rfl)).1.1
 pos:=by decide
 enters:=enters_of Tryz.func160 (by kernel_rfl) rfl
 entersN:=enters_of Tryz.func159 (by kernel_rfl) rfl
 law:=fun blk off cap d w hc hH hb hs=>AnyQ.slices_SortFunc_eq Tryz.sortSp 4 Tryz.isAgg77 Tryz.sizeOf77 yoG.s.enc (fun x=>Srt.enc_len x) (fun x=>Srt.enc_one x) yoG.cf (yHX _ _) 160 #[] blk off cap d w (enters_of Tryz.func160 (by kernel_rfl) rfl) hc hH hb hs
theorem kS:EO Tryz.prog (E ef0):=by
 refine yFr k0C ?_
 intro e h
 simp only [ef0,qAr,List.not_mem_nil,or_false] at h
 rcases h with rfl
 exact fun y0=>yKn yoG.s yqj (fun x y=>by
   have h:=yL0 [] ybm x.2 y.2
   exact yIC kN hm (yax (by kernel_rfl) _) (by kernel_rfl) (Ans.solo h)) (yvm (k0C.ats (y:=y0) (Nat.zero_le _)) hm 60) (fun H=>by kernel_rfl) (fun H=>by kernel_rfl)
end Go.Proofs.YtijdgcomldpncaaGreat.Tf
