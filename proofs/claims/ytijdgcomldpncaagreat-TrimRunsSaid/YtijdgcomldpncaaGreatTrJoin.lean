/- The statement TrimRuns: what the conditions and their plain laws say of the program's functions, joined with the program. -/
import Derived.Test.YtijdgcomldpncaaGreatRows

import Derived.Test.YtijdgcomldpncaaGreatTrW5
import Derived.WalkKit
import Derived.ProofKit
import Derived.OpenShut
import Derived.ReadAgain
import Derived.ChangeBears






namespace Go.Proofs.YtijdgcomldpncaaGreat.Tr
open Go Go.Pf Go.Pf.Vc Go.ChangeShapes Go.WideShapes Go.ChangeAt Go.RowKit
set_option maxRecDepth 100000
def yK6:List (Nat×List Nat):=[(1,[1,3,4,5,6,7,8,9,10,11,12]),(0,[0,2])]
theorem yEi:yan Tryz.prog [1] (fun i=>(yK6.lookup i).getD []) Tryz.f34=some yCR.fn:=by kernel_rfl
def yHy:List (Nat×List Nat):=[(6,[0,3,7,15,16,17]),(3,[8,9,14]),(5,[0,3,14]),(4,[7,10,11,12,13]),(2,[4,5,6]),(0,[2])]
theorem ytV:yan Tryz.prog [] (fun i=>(yHy.lookup i).getD []) Tryz.f8=some ys8.fn:=by kernel_rfl
def yKc:List (Nat×List Nat):=[(3,[0,9,10,11,12,13]),(2,[0,9]),(1,[4,5,6,7,8]),(0,[2,3])]
theorem yBR:yan Tryz.prog [] (fun i=>(yKc.lookup i).getD []) Tryz.f9=some yAb.fn:=by kernel_rfl
def yK7:List (Nat×List Nat):=[(3,[0,9,10,11,12,13]),(2,[0,9]),(1,[4,5,6,7,8]),(0,[2,3])]
theorem yEj:yan Tryz.prog [] (fun i=>(yK7.lookup i).getD []) Tryz.f10=some yCS.fn:=by kernel_rfl
def yIx:List (Nat×List Nat):=[(8,[0,3,4,15,24]),(6,[16,17]),(7,[15,18,19,20,21,22,23]),(5,[12,13,14]),(3,[7,9,10,11]),(2,[7,8]),(1,[5,6]),(0,[2])]
theorem yvr:yan Tryz.prog [] (fun i=>(yIx.lookup i).getD []) Tryz.f141=some yuI.fn:=by kernel_rfl
def yIy:List (Nat×List Nat):=[(8,[0,3,4,15,24]),(6,[16,17]),(7,[15,18,19,20,21,22,23]),(5,[12,13,14]),(3,[7,9,10,11]),(2,[7,8]),(1,[5,6]),(0,[2])]
theorem yvs:yan Tryz.prog [] (fun i=>(yIy.lookup i).getD []) Tryz.f142=some yuJ.fn:=by kernel_rfl
def yKd:List (Nat×List Nat):=[(14,[81]),(13,[81]),(12,[1,49,50,51,66,67,68,69,70,71,72,73,74,75,76,77,78,79,80]),(11,[64,65]),(10,[1,49,50,64]),(9,[4,53,54,55,56,57,58,59,60,61,62,63]),(8,[51,52]),(6,[3,47,48]),(5,[1,3,47]),(4,[14,15,16,17,18,19,20,21,22,23,24,25,26,27,28,29,30,31,32,33,34,35,36,37,38,39,40,41,42,43,44,45,46]),(3,[1,3,14]),(2,[8,9,10,11,12,13]),(1,[5,6,7]),(0,[0,2])]
theorem yBS:yan Tryz.prog [1] (fun i=>(yKd.lookup i).getD []) Tryz.f95=some yAc.fn:=by kernel_rfl
def yK8:List (Nat×List Nat):=[(18,[1,36,37,38,39]),(17,[49,50]),(16,[1,36,37,38,49]),(15,[7,42,43,44,45,46,47,48]),(14,[39,40,41]),(12,[23,24,25,26,35]),(11,[5,32,34]),(10,[1,5,23,24,25,32,33]),(9,[31]),(8,[4,29,30]),(7,[26,27,28]),(5,[21,22]),(4,[1,21]),(3,[17,18,19,20]),(2,[1,17]),(1,[8,9,10,11,12,13,14,15,16]),(0,[0,2])]
theorem yEk:yan Tryz.prog [1,4,7] (fun i=>(yK8.lookup i).getD []) Tryz.f64=some yCT.fn:=by kernel_rfl
def yGn:List (Nat×List Nat):=[(3,[0,4,5,6,7]),(2,[0,4]),(1,[3]),(0,[2])]
theorem ysM:yan Tryz.prog [] (fun i=>(yGn.lookup i).getD []) Tryz.f127=some yG9.fn:=by kernel_rfl
def yKe:List (Nat×List Nat):=[(7,[3,6,7,8,9,25]),(6,[24]),(5,[5,12,13,14,15,16,17,18,19,20,21,22,23]),(4,[9,10,11]),(2,[0]),(0,[2])]
theorem yBT:yan Tryz.prog [22,5] (fun i=>(yKe.lookup i).getD []) Tryz.f74=some yAd.fn:=by kernel_rfl
def yLK:List (Nat×List Nat):=[(4,[0,4,9,12,13,14]),(3,[0,4,9,10,11]),(2,[8]),(1,[5,6,7]),(0,[3])]
theorem yGo:yan Tryz.prog [2] (fun i=>(yLK.lookup i).getD []) Tryz.f35=some yFq.fn:=by kernel_rfl
def yKf:List (Nat×List Nat):=[(0,[0,1,3])]
theorem yBU:yan Tryz.prog [] (fun i=>(yKf.lookup i).getD []) Tryz.f37=some yrH.fn:=by kernel_rfl
def yKg:List (Nat×List Nat):=[(1,[0,3,4])]
theorem yBV:yan Tryz.prog [2] (fun i=>(yKg.lookup i).getD []) Tryz.f76=some yAe.fn:=by kernel_rfl
def yHz:List (Nat×List Nat):=[(1,[1,2,5,6,7,8,9,10,11,12,13,14]),(0,[0,4])]
theorem ytW:yan Tryz.prog [2] (fun i=>(yHz.lookup i).getD []) Tryz.f67=some ys9.fn:=by kernel_rfl
def yKh:List (Nat×List Nat):=[(10,[1,5,14,15,16,17,38]),(9,[37]),(8,[6,7,21,22,23,24,25,26,27,28,29,30,31,32,33,34,35,36]),(7,[17,18,19,20]),(5,[13]),(4,[4,11]),(3,[1,4,11,12]),(2,[10]),(1,[8,9]),(0,[0,2,3])]
theorem yBW:yan Tryz.prog [1] (fun i=>(yKh.lookup i).getD []) Tryz.f54=some yAf.fn:=by kernel_rfl
def yK9:List (Nat×List Nat):=[(6,[1,2,16,17,18,19,20,21,22,23,24]),(5,[1,2,16]),(4,[6,10,12,13,14,15]),(3,[1,2,6,10,11]),(2,[9]),(1,[7,8]),(0,[0,4,5])]
theorem yEl:yan Tryz.prog [2] (fun i=>(yK9.lookup i).getD []) Tryz.f162=some yCU.fn:=by kernel_rfl
def yKi:List (Nat×List Nat):=[(3,[0,4,8,9]),(2,[0,4,5,6,7]),(1,[3]),(0,[2])]
theorem yBX:yan Tryz.prog [] (fun i=>(yKi.lookup i).getD []) Tryz.f93=some yAg.fn:=by kernel_rfl
def yLa:List (Nat×List Nat):=[(3,[0,1,6,11]),(2,[6,7,8,9,10]),(1,[5]),(0,[4])]
theorem yEm:yan Tryz.prog [] (fun i=>(yLa.lookup i).getD []) Tryz.f94=some yCV.fn:=by kernel_rfl
def yIP:List (Nat×List Nat):=[(5,[1,2,13,20,21,22,23,24]),(4,[1,2,13,14,15,16,17,18,19]),(3,[0,11]),(2,[0,1,2,11,12]),(1,[8,9,10]),(0,[7])]
theorem yxN:yan Tryz.prog [6] (fun i=>(yIP.lookup i).getD []) Tryz.f98=some ywB.fn:=by kernel_rfl
def yKj:List (Nat×List Nat):=[(5,[0,1,6,7,8,19,20,21,22,23,24,25,26,27,28,29,30,31,32]),(4,[16,17,18]),(3,[10,12,13,14,15]),(2,[0,1,10,11]),(1,[9]),(0,[5])]
theorem yBY:yan Tryz.prog [4] (fun i=>(yKj.lookup i).getD []) Tryz.f122=some yAh.fn:=by kernel_rfl
def yKk:List (Nat×List Nat):=[(3,[7,23]),(2,[2,5,8,15,16,17,18,19,20,21,22]),(1,[1,6,9,10,11,12,13,14]),(0,[0])]
theorem yBZ:yan Tryz.prog [2,4,7] (fun i=>(yKk.lookup i).getD []) Tryz.f130=some yAi.fn:=by kernel_rfl
def yJ6:List (Nat×List Nat):=[(3,[25]),(2,[25]),(1,[1,3,4,5,6,7,8,9,10,11,12,13,14,15,16,17,18,19,20,21,22,23,24]),(0,[0,2])]
theorem yyM:yan Tryz.prog [1] (fun i=>(yJ6.lookup i).getD []) Tryz.f52=some yxU.fn:=by kernel_rfl
def yKl:List (Nat×List Nat):=[(1,[0,3,4])]
theorem yB0:yan Tryz.prog [2] (fun i=>(yKl.lookup i).getD []) Tryz.f105=some yAj.fn:=by kernel_rfl
def yEP:List (Nat×List Nat):=[(8,[3,6,7,8,9,17]),(7,[5,14,16]),(6,[3,5,6,7,8,14,15]),(5,[12,13]),(4,[9,10,11]),(2,[0]),(0,[2])]
theorem yrd:yan Tryz.prog [] (fun i=>(yEP.lookup i).getD []) Tryz.f143=some yqA.fn:=by kernel_rfl
def yJ7:List (Nat×List Nat):=[(1,[2,3,5,6,7,8,9,10]),(0,[0,1,4])]
theorem yyN:yan Tryz.prog [9,2,3] (fun i=>(yJ7.lookup i).getD []) Tryz.f96=some yxV.fn:=by kernel_rfl
def yGp:List (Nat×List Nat):=[(1,[0,3,4,5]),(0,[2])]
theorem ysN:yan Tryz.prog [] (fun i=>(yGp.lookup i).getD []) Tryz.f169=some yrI.fn:=by kernel_rfl
def yEn:List (Nat×List Nat):=[(13,[19]),(12,[19]),(11,[0,1,16,17,18]),(10,[0,1,16]),(9,[13,14,15]),(8,[0,1,13]),(7,[6,11]),(6,[12]),(5,[12]),(4,[0,1,6,11]),(3,[5]),(2,[9,10]),(1,[7,8]),(0,[4])]
theorem ypm:yan Tryz.prog [] (fun i=>(yEn.lookup i).getD []) Tryz.f150=some yo3.fn:=by kernel_rfl
def yMu:List (Nat×List Nat):=[(11,[0,1,48,49,50]),(10,[7,9,12,13,40,41,42,43,44,45,46,47]),(9,[6,35,36,37,38,39]),(8,[11,33,34]),(7,[31,32]),(6,[8,10,25,26,27,28,29,30]),(5,[22,23,24]),(4,[20,21]),(3,[18,19]),(2,[16,17]),(1,[14,15]),(0,[4,5])]
theorem yIz:yan Tryz.prog [] (fun i=>(yMu.lookup i).getD []) Tryz.f97=some yH0.fn:=by kernel_rfl
def yEQ:List (Nat×List Nat):=[(1,[0,3,4,5]),(0,[2])]
theorem yre:yan Tryz.prog [] (fun i=>(yEQ.lookup i).getD []) Tryz.f170=some yqB.fn:=by kernel_rfl
def yB8:List (Nat×List Nat):=[(13,[19]),(12,[19]),(11,[0,1,16,17,18]),(10,[0,1,16]),(9,[13,14,15]),(8,[0,1,13]),(7,[6,11]),(6,[12]),(5,[12]),(4,[0,1,6,11]),(3,[5]),(2,[9,10]),(1,[7,8]),(0,[4])]
theorem yoy:yan Tryz.prog [] (fun i=>(yB8.lookup i).getD []) Tryz.f152=some ynn.fn:=by kernel_rfl
def yKm:List (Nat×List Nat):=[(8,[3,6,7,8,9,17]),(7,[5,14,16]),(6,[3,5,6,7,8,14,15]),(5,[12,13]),(4,[9,10,11]),(2,[0]),(0,[2])]
theorem yB1:yan Tryz.prog [] (fun i=>(yKm.lookup i).getD []) Tryz.f151=some yAk.fn:=by kernel_rfl
def yLb:List (Nat×List Nat):=[(11,[11,60,63]),(10,[60,61,62]),(9,[2,58,59]),(8,[7,8,9,10,50,51,52,53,54,55,56,57]),(7,[3,40,41,42,43,44,45,46,47,48,49]),(6,[24,30,31,32,33,34,35,36,37,38,39]),(5,[2,3,24,25,26,27,28,29]),(4,[6,16,18,19,20,21,22,23]),(3,[2,3,6,16,17]),(2,[15]),(1,[12,13,14]),(0,[0,1,4,5])]
theorem yEo:yan Tryz.prog [56,2,3] (fun i=>(yLb.lookup i).getD []) Tryz.f112=some yCW.fn:=by kernel_rfl
def yLc:List (Nat×List Nat):=[(2,[5,13,14]),(1,[2,3,6,7,8,9,10,11,12]),(0,[0,1,4])]
theorem yEp:yan Tryz.prog [2,3] (fun i=>(yLc.lookup i).getD []) Tryz.f102=some yCX.fn:=by kernel_rfl
def yKn:List (Nat×List Nat):=[(1,[2,3,5,6,7,8,9,10,11,12,13,14,15,16,17,18,19,20]),(0,[0,1,4])]
theorem yB2:yan Tryz.prog [2,3] (fun i=>(yKn.lookup i).getD []) Tryz.f99=some yAl.fn:=by kernel_rfl
def yMv:List (Nat×List Nat):=[(10,[0,14,19,20,21,22,23,24]),(9,[17,18]),(8,[14,15,16]),(7,[8,13]),(6,[11,12]),(5,[8,9,10]),(4,[4,7]),(2,[2,4,5,6]),(1,[3])]
theorem yIA:yan Tryz.prog [] (fun i=>(yMv.lookup i).getD []) Tryz.f190=some yH1.fn:=by kernel_rfl
def yER:List (Nat×List Nat):=[(1,[0,3,4,5]),(0,[2])]
theorem yrf:yan Tryz.prog [] (fun i=>(yER.lookup i).getD []) Tryz.f168=some yqC.fn:=by kernel_rfl
def yMw:List (Nat×List Nat):=[(28,[2,8,9,10,14,15,16,17,18,113,120,121,122,123,124,125,126,127,128,129,130,131,132,133,134]),(27,[119]),(26,[116,117,118]),(25,[113,114,115]),(24,[102,103,104,105,106,107,108,109,110,111,112,120]),(23,[97,98,99,100,101]),(22,[94,95,96]),(21,[11,13,16,78,85,86,87,88,89,90,91,92,93]),(20,[84]),(19,[81,82,83]),(18,[78,79,80]),(17,[67,68,69,70,71,72,73,74,75,76,77,85]),(16,[62,63,64,65,66]),(15,[59,60,61]),(14,[12,57,58]),(13,[55,56]),(12,[1,52,53,54]),(11,[0,44,45,46,47,48,49,50,51]),(10,[42,43]),(9,[40,41]),(8,[37,38,39]),(7,[27,34,35,36]),(6,[0,1,2,27,28,29,30,31,32,33]),(5,[24,26]),(4,[24,25]),(3,[20,22,23]),(2,[20,21]),(1,[19]),(0,[6,7])]
theorem yIB:yan Tryz.prog [] (fun i=>(yMw.lookup i).getD []) Tryz.f147=some yH2.fn:=by kernel_rfl
def yMx:List (Nat×List Nat):=[(2,[8,18]),(1,[0,1,2,7,9,10,11,12,13,14,15,16,17]),(0,[6])]
theorem yIC:yan Tryz.prog [] (fun i=>(yMx.lookup i).getD []) Tryz.f146=some yH3.fn:=by kernel_rfl
def yLd:List (Nat×List Nat):=[(26,[12,17,20,153,155,156,157,158,159,160]),(25,[12,17,20,153,154]),(24,[19,152]),(23,[2,3,7,16,138,139,140,141,142,143,144,145,146,147,148,149,150,151]),(22,[13,14,18,129,131,132,133,134,135,136,137]),(21,[2,3,7,12,13,14,16,129,130]),(20,[127,128]),(19,[119,121,122,123,124,125,126]),(18,[2,3,7,12,13,14,119,120]),(17,[114,115,116,117,118]),(16,[8,10,15,107,108,109,110,111,112,113]),(15,[9,11,94,101,102,103,104,105,106]),(14,[99,100]),(13,[94,95,96,97,98]),(12,[68,82,83,84,85,86,87,88,89,90,91,92,93]),(11,[8,10,15,75,76,77,78,79,80,81]),(10,[9,11,68,69,70,71,72,73,74]),(9,[62,63,64,65,66,67]),(8,[13,14,15]),(7,[59,60,61]),(6,[47,48,49,50,51,52,53,54,55,56,57,58]),(5,[35,36,37,38,39,40,41,42,43,44,45,46]),(4,[6,25,28,29,30,31,32,33,34]),(3,[2,3,6,25,26,27]),(2,[24]),(1,[21,22,23]),(0,[0,1,5])]
theorem yEq:yan Tryz.prog [2,3,4] (fun i=>(yLd.lookup i).getD []) Tryz.f106=some yCY.fn:=by kernel_rfl
def yLe:List (Nat×List Nat):=[(5,[2,3,18,19,20,21,22]),(4,[6,11,14,15,16,17]),(3,[2,3,6,11,12,13]),(2,[10]),(1,[7,8,9]),(0,[0,1,5])]
theorem yEr:yan Tryz.prog [2,3,4] (fun i=>(yLe.lookup i).getD []) Tryz.f103=some yCZ.fn:=by kernel_rfl
def yLf:List (Nat×List Nat):=[(10,[2,3,14,16,65,67,68,69,70,71,72,73,74,75,76,77,78,79,80,81,82]),(9,[2,3,14,16,65,66]),(8,[13,15,62,63,64]),(7,[8,10,11,12,52,53,54,55,56,57,58,59,60,61]),(6,[7,9,42,43,44,45,46,47,48,49,50,51]),(5,[36,37,38,39,40,41]),(4,[6,21,24,25,26,27,28,29,30,31,32,33,34,35]),(3,[2,3,6,21,22,23]),(2,[20]),(1,[17,18,19]),(0,[0,1,5])]
theorem yEs:yan Tryz.prog [2,3,4] (fun i=>(yLf.lookup i).getD []) Tryz.f55=some yC0.fn:=by kernel_rfl
def yLg:List (Nat×List Nat):=[(8,[2,3,19,34,35,36,37,38,39,40,41,42]),(7,[2,3,19,23,24,25,26,27,28,29,30,31,32,33]),(6,[14,20,21,22]),(5,[2,3,14,18]),(4,[6,11,15,16,17]),(3,[2,3,6,11,12,13]),(2,[10]),(1,[7,8,9]),(0,[0,1,5])]
theorem yEt:yan Tryz.prog [2,3,4] (fun i=>(yLg.lookup i).getD []) Tryz.f104=some yC1.fn:=by kernel_rfl
def yJ8:List (Nat×List Nat):=[(12,[5,6,7,14,15,41,48]),(11,[6,7,14,41,42,43,44,45,46,47]),(10,[40]),(9,[3,4,9,20,33,34,35,36,37,38,39]),(8,[5,13,29,31,32]),(7,[5,29,30]),(6,[28]),(5,[4,12,27]),(4,[3,6,7,9,20,21,22,23,24,25,26]),(3,[17,18,19]),(2,[3,4,5,6,7,9,17]),(1,[16]),(0,[0,1,2,8,11])]
theorem yyO:yan Tryz.prog [7,8,9,12,14] (fun i=>(yJ8.lookup i).getD []) Tryz.f101=some ypB.fn:=by kernel_rfl
def yLh:List (Nat×List Nat):=[(18,[2,3,4,14,15,16,17]),(17,[8,9,31,61]),(16,[9,59,60]),(15,[2,3,4,9,14,15,16,59]),(14,[8,10,12,34,52,54,55,56,57,58]),(13,[2,3,4,8,9,10,12,14,15,16,52,53]),(12,[51]),(11,[11,42,44,45,46,47,48,49,50]),(10,[2,3,4,8,9,10,11,12,14,15,16,42,43]),(9,[41]),(8,[34,35,36,37,38,39,40]),(7,[33]),(6,[31,32]),(5,[28,29,30]),(4,[7,21,22,23,24,25,26,27]),(3,[17,18,19,20]),(1,[13]),(0,[0,1,6])]
theorem yEu:yan Tryz.prog [3,4,9,10,11] (fun i=>(yLh.lookup i).getD []) Tryz.f100=some yC2.fn:=by kernel_rfl
def yLi:List (Nat×List Nat):=[(15,[9,10,45,48]),(14,[9,10,45,46,47]),(13,[11,42,44]),(12,[11,42,43]),(11,[41]),(10,[3,4,5,37,38,39,40]),(8,[35]),(7,[3,4,5,35,36]),(6,[31,33,34]),(5,[3,4,5,31,32]),(4,[8,15,18,19,20,21,22,23,24,25,26,27,28,29,30]),(3,[3,4,5,8,15,16,17]),(2,[14]),(1,[12,13]),(0,[0,1,2,7])]
theorem yEv:yan Tryz.prog [3,4,6] (fun i=>(yLi.lookup i).getD []) Tryz.f56=some yC3.fn:=by kernel_rfl
def yGq:List (Nat×List Nat):=[(1,[1,4,6,7,10,11,12,13,14,15,16,17,18,19,20]),(0,[0,2,3,9])]
theorem ysO:yan Tryz.prog [4,6,7,8] (fun i=>(yGq.lookup i).getD []) Tryz.f66=some yrJ.fn:=by kernel_rfl
def yHA:List (Nat×List Nat):=[(13,[3,4,10,12,59,60,61,62,63,64,65,66,67,68,69,70,71,72]),(12,[53,54,55,56,57,58]),(11,[48,51,52]),(10,[3,4,10,48,49,50]),(9,[11,40,44,45,46,47]),(8,[3,4,10,11,40,41,42,43]),(7,[39]),(6,[2,25,28,29,30,31,32,33,34,35,36,37,38]),(5,[2,3,4,25,26,27]),(4,[9,17,21,22,23,24]),(3,[2,3,4,9,17,18,19,20]),(2,[16]),(1,[13,14,15]),(0,[0,1,8])]
theorem ytX:yan Tryz.prog [69,3,4,6,7,10] (fun i=>(yHA.lookup i).getD []) Tryz.f161=some ykr.fn:=by kernel_rfl
def yLL:List (Nat×List Nat):=[(2,[1,6,7,11,14,15,16,17,18,19,20,21,22,23,24]),(1,[4,12,13]),(0,[0,2,3,10])]
theorem yGr:yan Tryz.prog [4,6,7,8,9,11] (fun i=>(yLL.lookup i).getD []) Tryz.f129=some yFr.fn:=by kernel_rfl
def yIQ:List (Nat×List Nat):=[(4,[0,1,3,6,7,8,21,27]),(3,[0,1,3,6,7,21,22,23,24,25,26]),(2,[20]),(1,[2,9,10,11,12,13,14,15,16,17,18,19]),(0,[5])]
theorem yxO:yan Tryz.prog [6,7] (fun i=>(yIQ.lookup i).getD []) Tryz.f128=some ywC.fn:=by kernel_rfl
def yKo:List (Nat×List Nat):=[(28,[3,5,9,10,42,43,44,45,105]),(27,[13,70,104]),(26,[13,15,100,103]),(25,[3,5,9,10,13,15,42,43,44,100,101,102]),(24,[99]),(23,[16,90,93,94,95,96,97,98]),(22,[3,5,9,10,13,15,16,42,43,44,90,91,92]),(21,[89]),(20,[12,14,79,82,83,84,85,86,87,88]),(19,[3,5,9,10,12,13,14,15,42,43,44,79,80,81]),(18,[78]),(17,[67,72,73,74,75,76,77]),(16,[13,70,71]),(15,[12,67,68,69]),(14,[58,60,61,62,63,64,65,66]),(13,[58,59]),(12,[56,57]),(11,[11,49,50,51,52,53,54,55]),(10,[45,46,47,48]),(8,[41]),(7,[4,40]),(6,[37,39]),(5,[3,4,5,37,38]),(4,[8,20,23,24,25,26,27,28,29,30,31,32,33,34,35,36]),(3,[3,4,5,8,20,21,22]),(2,[19]),(1,[17,18]),(0,[0,1,2,7])]
theorem yB3:yan Tryz.prog [3,4,5,6,9,10,13,14,16] (fun i=>(yKo.lookup i).getD []) Tryz.f114=some yAm.fn:=by kernel_rfl
def yES:List (Nat×List Nat):=[(1,[1,4,6,7,10,11,12,13,14,15,16,17,18,19,20]),(0,[0,2,3,9])]
theorem yrg:yan Tryz.prog [4,6,7,8] (fun i=>(yES.lookup i).getD []) Tryz.f65=some yqD.fn:=by kernel_rfl
def yLj:List (Nat×List Nat):=[(2,[1,6,7,11,14,15,16,17,18,19,20,21,22,23,24]),(1,[4,12,13]),(0,[0,2,3,10])]
theorem yEw:yan Tryz.prog [4,6,7,8,9,11] (fun i=>(yLj.lookup i).getD []) Tryz.f131=some yC4.fn:=by kernel_rfl
def yLk:List (Nat×List Nat):=[(2,[5,13,14]),(1,[2,3,6,7,8,9,10,11,12]),(0,[0,1,4])]
theorem yEx:yan Tryz.prog [2,3] (fun i=>(yLk.lookup i).getD []) Tryz.f132=some yC5.fn:=by kernel_rfl
def yKp:List (Nat×List Nat):=[(18,[1,3,5,9,10,11,12,29,30,31,32,38,76,77]),(17,[12,16,62,71,75]),(16,[1,3,5,9,10,16,29,30,31,71,72,73,74]),(15,[70]),(14,[12,40,67,68,69]),(13,[62,63,64,65,66]),(12,[14,57,58,59,60,61]),(11,[13,15,52,56]),(10,[1,3,5,9,10,12,13,14,15,29,30,31,52,53,54,55]),(9,[51]),(8,[40,41,42,43,44,45,46,47,48,49,50]),(7,[11,38,39]),(6,[36,37]),(5,[32,33,34,35]),(2,[28]),(1,[17,18,19,20,21,22,23,24,25,26,27]),(0,[0,2,8])]
theorem yB4:yan Tryz.prog [6,7,13,14] (fun i=>(yKp.lookup i).getD []) Tryz.f77=some yAn.fn:=by kernel_rfl
def yGs:List (Nat×List Nat):=[(1,[0,1,4,5,6,7]),(0,[3])]
theorem ysP:yan Tryz.prog [] (fun i=>(yGs.lookup i).getD []) Tryz.f79=some yjh.fn:=by kernel_rfl
def yB5:List (Nat×List Nat):=[(7,[0,1,7,8,9]),(6,[5,16,18]),(5,[0,1,5,7,8,16,17]),(4,[11,12,13,14,15]),(3,[9,10]),(1,[6]),(0,[4])]
theorem ym5:yan Tryz.prog [] (fun i=>(yB5.lookup i).getD []) Tryz.f133=some ymY.fn:=by kernel_rfl
def yzH:List (Nat×List Nat):=[(12,[0,5,39,40,41]),(11,[1,6,19,36,37,38]),(6,[7,20,21,29]),(10,[34,35]),(9,[7,29,30,31,32,33]),(8,[26,27,28]),(7,[19,22,23,24,25]),(5,[16,17,18]),(4,[12,14,15]),(3,[0,1,5,12,13]),(2,[11]),(1,[8,9,10]),(0,[4])]
theorem ymE:yan Tryz.prog [] (fun i=>(yzH.lookup i).getD []) Tryz.f78=some ylf.fn:=by kernel_rfl
def yID:List (Nat×List Nat):=[(15,[52]),(14,[6]),(13,[8,49,50,51]),(12,[7,45,46,47,48]),(11,[9,37,41,42,43,44]),(10,[0,1,2,4,6,7,8,9,37,38,39,40]),(9,[36]),(8,[27,28,29,30,31,32,33,34,35]),(7,[25,26]),(6,[15,16,17,24]),(5,[23]),(4,[5,19,20,21,22]),(3,[17,18]),(1,[14]),(0,[10,11,12,13]),(999999,[1])]
theorem yvt:yan Tryz.prog [6,7,6] (fun i=>(yID.lookup i).getD []) Tryz.f75=some yIO.fn:=by kernel_rfl
def yJ9:List (Nat×List Nat):=[(1,[2,3,5]),(0,[0,1,4])]
theorem yyP:yan Tryz.prog [] (fun i=>(yJ9.lookup i).getD []) Tryz.f36=some ypC.fn:=by kernel_rfl
def yLM:List (Nat×List Nat):=[(14,[50,53,54,55]),(13,[50,51,52]),(12,[1,24,48,49]),(11,[1,44,45,46,47]),(10,[8,33,34,35,36,37,38,39,40,41,42,43]),(9,[7,31,32]),(8,[27,28,29,30]),(7,[26]),(6,[24,25]),(5,[6,22,23]),(4,[15,18,19,20,21]),(3,[1,6,15,16,17]),(2,[14]),(1,[9,10,11,12,13]),(0,[0])]
theorem yGt:yan Tryz.prog [29,42,6,1000002,1000003] (fun i=>(yLM.lookup i).getD []) Tryz.f11=some yFu.fn:=by kernel_rfl
def yLl:List (Nat×List Nat):=[(14,[98]),(13,[98]),(12,[1,3,4,57,97]),(8,[58,59]),(11,[87,88,89,90,91,92,93,94,95,96]),(10,[1,3,4,87]),(9,[57,60,61,62,63,64,65,66,67,68,69,70,71,72,73,74,75,76,77,78,79,80,81,82,83,84,85,86]),(7,[53,54,55,56]),(5,[52]),(4,[1,52]),(3,[13,14,15,16,17,18,19,20,21,22,23,24,25,26,27,28,29,30,31,32,33,34,35,36,37,38,39,40,41,42,43,44,45,46,47,48,49,50,51]),(2,[1,13]),(1,[5,6,7,8,9,10,11,12]),(0,[0,2])]
theorem yEy:yan Tryz.prog [1] (fun i=>(yLl.lookup i).getD []) Tryz.f113=some yC7.fn:=by kernel_rfl
def yLm:List (Nat×List Nat):=[(15,[1,4,43]),(12,[44,45,57]),(14,[1,4,57]),(13,[43,46,47,48,49,50,51,52,53,54,55,56]),(11,[39,40,41,42]),(10,[3,23]),(7,[24,25,32]),(9,[1,3,32,33,34,35,36,37,38]),(8,[23,26,27,28,29,30,31]),(6,[19,20,21,22]),(5,[18]),(4,[1,18]),(3,[14,15,16,17]),(2,[1,14]),(1,[5,6,7,8,9,10,11,12,13]),(0,[0,2])]
theorem yEz:yan Tryz.prog [1] (fun i=>(yLm.lookup i).getD []) Tryz.f62=some yC8.fn:=by kernel_rfl
def yLN:List (Nat×List Nat):=[(1,[1,3,4,5,6,7,8,9,10,11,12,13]),(0,[0])]
theorem yGu:yan Tryz.prog [5,9,1,2] (fun i=>(yLN.lookup i).getD []) Tryz.f134=some yFv.fn:=by kernel_rfl
def yLn:List (Nat×List Nat):=[(6,[0,3,4,8,19]),(4,[9,10]),(5,[8,11,12,13,14,15,16,17,18]),(3,[5,6,7]),(0,[2])]
theorem yEA:yan Tryz.prog [17] (fun i=>(yLn.lookup i).getD []) Tryz.f80=some yC9.fn:=by kernel_rfl
def yLO:List (Nat×List Nat):=[(4,[0,4,9,13,14,15]),(3,[0,4,9,10,11,12]),(2,[7,8]),(1,[5,6]),(0,[3])]
theorem yGv:yan Tryz.prog [2,4] (fun i=>(yLO.lookup i).getD []) Tryz.f38=some yFw.fn:=by kernel_rfl
def yMH:List (Nat×List Nat):=[(1,[0,3,4])]
theorem yKa:yan Tryz.prog [2] (fun i=>(yMH.lookup i).getD []) Tryz.f39=some yJv.fn:=by kernel_rfl
def yLo:List (Nat×List Nat):=[(6,[1,3,4,9,32]),(4,[10,11]),(5,[9,12,13,14,15,16,17,18,19,20,21,22,23,24,25,26,27,28,29,30,31]),(3,[5,6,7,8]),(0,[0,2])]
theorem yEB:yan Tryz.prog [1] (fun i=>(yLo.lookup i).getD []) Tryz.f33=some yDa.fn:=by kernel_rfl
def yMy:List (Nat×List Nat):=[(3,[0,4,10,11]),(2,[0,4,5,6,7,8,9]),(1,[3]),(0,[2])]
theorem yIE:yan Tryz.prog [] (fun i=>(yMy.lookup i).getD []) Tryz.f46=some yH4.fn:=by kernel_rfl
def yMz:List (Nat×List Nat):=[(3,[0,1,6,11]),(2,[6,7,8,9,10]),(1,[5]),(0,[4])]
theorem yIF:yan Tryz.prog [] (fun i=>(yMz.lookup i).getD []) Tryz.f45=some yH5.fn:=by kernel_rfl
def yLP:List (Nat×List Nat):=[(6,[8,35,40]),(5,[35,36,37,38,39]),(4,[0]),(3,[4,5,26,28,29,30,31,32,33,34]),(2,[0,4,5,26,27]),(1,[9,10,11,12,13,14,15,16,17,18,19,20,21,22,23,24,25]),(0,[1,2,7])]
theorem yGw:yan Tryz.prog [4,5,6,8] (fun i=>(yLP.lookup i).getD []) Tryz.f73=some yFx.fn:=by kernel_rfl
def yLQ:List (Nat×List Nat):=[(5,[0,1,6,7,8,19,20,21,22,23,24,25,26,27,28,29,30,31,32,33,34]),(4,[16,17,18]),(3,[10,12,13,14,15]),(2,[0,1,10,11]),(1,[9]),(0,[5])]
theorem yGx:yan Tryz.prog [4] (fun i=>(yLQ.lookup i).getD []) Tryz.f136=some yFy.fn:=by kernel_rfl
def yLp:List (Nat×List Nat):=[(2,[5,20]),(1,[1,2,6,7,8,9,10,11,12,13,14,15,16,17,18,19]),(0,[0])]
theorem yEC:yan Tryz.prog [2,4,5] (fun i=>(yLp.lookup i).getD []) Tryz.f82=some yDb.fn:=by kernel_rfl
def yLq:List (Nat×List Nat):=[(1,[1,2,5,6,7,8,9,10,11,12,13]),(0,[0,4])]
theorem yED:yan Tryz.prog [2] (fun i=>(yLq.lookup i).getD []) Tryz.f163=some yDc.fn:=by kernel_rfl
def yLr:List (Nat×List Nat):=[(3,[30]),(2,[30]),(1,[1,3,4,5,6,7,8,9,10,11,12,13,14,15,16,17,18,19,20,21,22,23,24,25,26,27,28,29]),(0,[0,2])]
theorem yEE:yan Tryz.prog [1] (fun i=>(yLr.lookup i).getD []) Tryz.f17=some yDd.fn:=by kernel_rfl
def yLs:List (Nat×List Nat):=[(5,[5,7,9,10,11,35,36,37,38,39,40,41,42,43,44,45,46,47,48,49]),(4,[6,26,27,28,29,30,31,32,33,34]),(3,[8,20,21,22,23,24,25]),(2,[1,16,17,18,19]),(1,[0,12,13,14,15])]
theorem yEF:yan Tryz.prog [4] (fun i=>(yLs.lookup i).getD []) Tryz.f57=some yDe.fn:=by kernel_rfl
def yLR:List (Nat×List Nat):=[(1,[2,3,5,6,7,8,9,10,11,12,13,14,15,16,17,18,19,20,21,22,23]),(0,[0,1,4])]
theorem yGy:yan Tryz.prog [2,3] (fun i=>(yLR.lookup i).getD []) Tryz.f58=some yFz.fn:=by kernel_rfl
def yLS:List (Nat×List Nat):=[(6,[5,6,33,37,38,39]),(5,[5,6,33,34,35,36]),(4,[2,31,32]),(3,[3,13,17,18,19,20,21,22,23,24,25,26,27,28,29,30]),(2,[2,3,13,14,15,16]),(1,[7,8,9,10,11,12]),(0,[0,1,4])]
theorem yGz:yan Tryz.prog [2,3,5,6] (fun i=>(yLS.lookup i).getD []) Tryz.f21=some yFA.fn:=by kernel_rfl
def yLt:List (Nat×List Nat):=[(1,[0,3,5,6,7,8,9,10,11,12,13,14,15,16,17,18,19]),(0,[1,4])]
theorem yEG:yan Tryz.prog [3] (fun i=>(yLt.lookup i).getD []) Tryz.f200=some yDf.fn:=by kernel_rfl
def yLu:List (Nat×List Nat):=[(3,[2,3,7,9]),(2,[2,3,7,8]),(1,[5,6]),(0,[0,1])]
theorem yEH:yan Tryz.prog [2,3,4] (fun i=>(yLu.lookup i).getD []) Tryz.f203=some yDg.fn:=by kernel_rfl
def yKq:List (Nat×List Nat):=[(3,[2,3,7,9]),(2,[2,3,7,8]),(1,[5,6]),(0,[0,1])]
theorem yB6:yan Tryz.prog [2,3,4] (fun i=>(yKq.lookup i).getD []) Tryz.f216=some yAo.fn:=by kernel_rfl
def yLT:List (Nat×List Nat):=[(3,[2,3,7,10,11]),(2,[2,3,7,8,9]),(1,[5,6]),(0,[0,1,4])]
theorem yGA:yan Tryz.prog [2,3] (fun i=>(yLT.lookup i).getD []) Tryz.f24=some yFB.fn:=by kernel_rfl
def yMA:List (Nat×List Nat):=[(2,[1,7]),(1,[3,4,5,6]),(0,[0])]
theorem yIG:yan Tryz.prog [1,2] (fun i=>(yMA.lookup i).getD []) Tryz.f220=some yH6.fn:=by kernel_rfl
def yLU:List (Nat×List Nat):=[(5,[5,6,20,23,24,25]),(4,[20,21,22]),(3,[2,17,18,19]),(2,[3,12,13,14,15,16]),(1,[7,8,9,10,11]),(0,[0,1])]
theorem yGB:yan Tryz.prog [2,3,4] (fun i=>(yLU.lookup i).getD []) Tryz.f217=some yFC.fn:=by kernel_rfl
def yLv:List (Nat×List Nat):=[(4,[2,3,5,15,18,19,20,21,22,23,24]),(3,[15,16,17]),(2,[11,12,13,14]),(1,[6,7,8,9,10]),(0,[0,1])]
theorem yEI:yan Tryz.prog [2,3,4] (fun i=>(yLv.lookup i).getD []) Tryz.f218=some yDh.fn:=by kernel_rfl
def yLw:List (Nat×List Nat):=[(14,[1,2,6,7,8,11,45,46]),(5,[12,13,37]),(13,[41,42,43,44]),(12,[37,38,39,40]),(11,[35,36]),(10,[32,33,34]),(9,[9,21,28,29,30,31]),(8,[21,22,23,24,25,26,27]),(7,[20]),(6,[11,14,15,16,17,18,19]),(4,[10]),(0,[0,5])]
theorem yEJ:yan Tryz.prog [2,4,6] (fun i=>(yLw.lookup i).getD []) Tryz.f219=some yDi.fn:=by kernel_rfl
def yMB:List (Nat×List Nat):=[(17,[2,3,6,9,13,14,93,94,95,96,97,98,99,100,101,102,103,104,105,106,107,108]),(16,[10,15,87,88,89,90,91,92]),(15,[12,84,85,86]),(14,[11,76,78,79,80,81,82,83]),(13,[2,3,6,9,10,76,77]),(12,[7,8,61,67,74,75]),(11,[71,72,73]),(10,[7,8,9,67,68,69,70]),(9,[65,66]),(8,[61,62,63,64]),(7,[55,56,57,58,59,60]),(6,[52,53,54]),(5,[49,50,51]),(4,[31,32,33,34,35,36,37,38,39,40,41,42,43,44,45,46,47,48]),(3,[19,24,25,26,27,28,29,30]),(2,[2,3,19,20,21,22,23]),(1,[16,17,18]),(0,[0,1,5])]
theorem yIH:yan Tryz.prog [2,3,4,7,8,10,11,14] (fun i=>(yMB.lookup i).getD []) Tryz.f202=some yH7.fn:=by kernel_rfl
def yMC:List (Nat×List Nat):=[(3,[2,3,9,14,15,16,17,18,19]),(2,[2,3,9,10,11,12,13]),(1,[6,7,8]),(0,[0,1,5])]
theorem yII:yan Tryz.prog [2,3,4] (fun i=>(yMC.lookup i).getD []) Tryz.f205=some yH8.fn:=by kernel_rfl
def yMD:List (Nat×List Nat):=[(4,[2,3,6,7,30,31,32,33,34,35,36,37,38,39,40,41,42,43,44,45,46,47,48,49,50,51,52,53,54,55,56,57,58,59,60,61,62,63,64,65,66,67,68,69,70,71]),(3,[11,16,17,18,19,20,21,22,23,24,25,26,27,28,29]),(2,[2,3,11,12,13,14,15]),(1,[8,9,10]),(0,[0,1,5])]
theorem yIJ:yan Tryz.prog [2,3,4] (fun i=>(yMD.lookup i).getD []) Tryz.f32=some yH9.fn:=by kernel_rfl
def yLx:List (Nat×List Nat):=[(7,[1,4,12,13,51,54,55,56,57,58,59,60,61,62,63]),(6,[1,4,12,13,51,52,53]),(5,[50]),(4,[10,11,42,44,45,46,47,48,49]),(3,[1,4,10,11,42,43]),(2,[31,32,33,34,35,36,37,38,39,40,41]),(1,[6,7,14,15,16,17,18,19,20,21,22,23,24,25,26,27,28,29,30]),(0,[0,2,3,9])]
theorem yEK:yan Tryz.prog [4,6,7,8,10,11,12] (fun i=>(yLx.lookup i).getD []) Tryz.f201=some yDj.fn:=by kernel_rfl
def yLy:List (Nat×List Nat):=[(15,[3,4,5,8,9,41,66]),(8,[11,42,43,63]),(14,[3,4,5,8,9,11,63,64,65]),(13,[62]),(12,[10,53,56,57,58,59,60,61]),(11,[3,4,5,8,9,10,11,53,54,55]),(10,[52]),(9,[41,44,45,46,47,48,49,50,51]),(7,[37,38,39,40]),(5,[34,36]),(4,[3,4,5,34,35]),(3,[14,18,19,20,21,22,23,24,25,26,27,28,29,30,31,32,33]),(2,[3,4,5,14,15,16,17]),(1,[12,13]),(0,[0,1,2,7])]
theorem yEL:yan Tryz.prog [3,4,5,6,8,10] (fun i=>(yLy.lookup i).getD []) Tryz.f178=some yDk.fn:=by kernel_rfl
def yME:List (Nat×List Nat):=[(8,[2,3,6,26,34,35,36,37,38]),(7,[3,26,27,28,29,30,31,32,33]),(6,[24,25]),(5,[17,19,20,21,22,23]),(4,[2,3,17,18]),(3,[10,15,16]),(2,[2,3,10,11,12,13,14]),(1,[7,8,9]),(0,[0,1,5])]
theorem yIK:yan Tryz.prog [2,3,4,6] (fun i=>(yME.lookup i).getD []) Tryz.f204=some yIa.fn:=by kernel_rfl
def yLV:List (Nat×List Nat):=[(26,[4,121,123]),(25,[4,121,122]),(24,[3,5,8,9,47,119,120]),(8,[48,49]),(23,[10,12,115,118]),(22,[3,4,5,8,9,10,12,115,116,117]),(21,[114]),(20,[11,87,108,109,110,111,112,113]),(19,[8,13,14,100,103,104,105,106,107]),(18,[8,13,14,100,101,102]),(17,[99]),(16,[3,4,5,9,10,11,87,88,89,90,91,92,93,94,95,96,97,98]),(15,[12,81,84,85,86]),(14,[3,4,5,8,9,10,11,12,81,82,83]),(13,[80]),(12,[68,72,73,74,75,76,77,78,79]),(11,[10,68,69,70,71]),(10,[57,58,59,60,61,62,63,64,65,66,67]),(9,[47,50,51,52,53,54,55,56]),(7,[38,39,40,41,42,43,44,45,46]),(5,[35,37]),(4,[3,4,5,35,36]),(3,[17,21,22,23,24,25,26,27,28,29,30,31,32,33,34]),(2,[3,4,5,17,18,19,20]),(1,[15,16]),(0,[0,1,2,7])]
theorem yGC:yan Tryz.prog [3,4,5,6,8,10,11,13] (fun i=>(yLV.lookup i).getD []) Tryz.f179=some yFD.fn:=by kernel_rfl
def yKr:List (Nat×List Nat):=[(3,[0,3,8,21,22,23,24,25,26,27,28,29,30,31,32]),(2,[0,3,8,9,10,11,12,13,14,15,16,17,18,19,20]),(1,[6,7]),(0,[1,5])]
theorem yB7:yan Tryz.prog [3,4] (fun i=>(yKr.lookup i).getD []) Tryz.f164=some yAp.fn:=by kernel_rfl
def yLz:List (Nat×List Nat):=[(11,[2,3,7,43,44,45,46,47,48,49,50,51,52,53,54]),(10,[38,41,42]),(9,[2,3,7,38,39,40]),(8,[8,31,35,36,37]),(7,[2,3,7,8,31,32,33,34]),(6,[30]),(5,[20,23,24,25,26,27,28,29]),(4,[2,3,20,21,22]),(3,[11,16,17,18,19]),(2,[2,3,11,12,13,14,15]),(1,[9,10]),(0,[0,1,6])]
theorem yEM:yan Tryz.prog [46,51,2,3,4,5,7] (fun i=>(yLz.lookup i).getD []) Tryz.f135=some yDl.fn:=by kernel_rfl
def yLW:List (Nat×List Nat):=[(1,[1,4,6,7,11,12,13,14,15,16,17,18,19]),(0,[0,2,3,10])]
theorem yGD:yan Tryz.prog [4,6,7,8,9] (fun i=>(yLW.lookup i).getD []) Tryz.f81=some yFE.fn:=by kernel_rfl
def yLA:List (Nat×List Nat):=[(1,[1,4,6,7,11,12,13,14,15,16,17,18,19]),(0,[0,2,3,10])]
theorem yEN:yan Tryz.prog [4,6,7,8,9] (fun i=>(yLA.lookup i).getD []) Tryz.f83=some yDm.fn:=by kernel_rfl
def yLB:List (Nat×List Nat):=[(17,[3,9,10,110,114,115]),(16,[3,9,10,110,111,112,113]),(15,[1,5,11,52,109]),(8,[53,54,81]),(14,[105,106,107,108]),(13,[100,101,102,103,104]),(12,[81,82,83,84,85,86,87,88,89,90,91,92,93,94,95,96,97,98,99]),(11,[12,69,70,71,72,73,74,75,76,77,78,79,80]),(10,[56,57,58,59,60,61,62,63,64,65,66,67,68]),(9,[10,52,55]),(7,[45,46,47,48,49,50,51]),(5,[29,30,31,32,33,34,35,36,37,38,39,40,41,42,43,44]),(4,[10,26]),(3,[1,3,5,9,26,27,28]),(2,[24,25]),(1,[13,14,15,16,17,18,19,20,21,22,23]),(0,[0,2,8])]
theorem yEO:yan Tryz.prog [3,5,6,7,9,12] (fun i=>(yLB.lookup i).getD []) Tryz.f40=some yDn.fn:=by kernel_rfl
def yKb:List (Nat×List Nat):=[(7,[0,1,5,6,10,26]),(4,[11,12,18]),(6,[18,19,20,21,22,23,24,25]),(5,[10,13,14,15,16,17]),(3,[7,8,9]),(0,[4])]
theorem yyQ:yan Tryz.prog [24] (fun i=>(yKb.lookup i).getD []) Tryz.f41=some yxW.fn:=by kernel_rfl
def yMF:List (Nat×List Nat):=[(19,[6,8,9,11,12,42,77,78,79,80]),(18,[13,14,70,71,72,73,74,75,76]),(17,[66,67,68,69]),(16,[15,52,55,56,57,58,59,60,61,62,63,64,65]),(15,[6,8,9,11,12,13,14,15,52,53,54]),(14,[51]),(13,[42,43,44,45,46,47,48,49,50]),(12,[40,41]),(11,[39]),(10,[0,10,32]),(8,[33,34]),(9,[32,35,36,37,38]),(7,[29,30,31]),(4,[7,22,25,26,27,28]),(3,[0,6,7,22,23,24]),(2,[21]),(1,[16,17,18,19,20]),(0,[3,4,5])]
theorem yIL:yan Tryz.prog [37,64,68,2,6,8,12,13,14] (fun i=>(yMF.lookup i).getD []) Tryz.f12=some yIb.fn:=by kernel_rfl
def yLX:List (Nat×List Nat):=[(8,[0,1,5,14]),(5,[15,16,25]),(7,[0,1,5,25]),(6,[14,17,18,19,20,21,22,23,24]),(4,[11,12,13]),(3,[10]),(2,[0,1,10]),(1,[6,7,8,9]),(0,[4])]
theorem yGE:yan Tryz.prog [] (fun i=>(yLX.lookup i).getD []) Tryz.f42=some yFF.fn:=by kernel_rfl
def yLY:List (Nat×List Nat):=[(8,[2,3,5,17]),(5,[18,19,31]),(7,[2,3,5,31]),(6,[17,20,21,22,23,24,25,26,27,28,29,30]),(4,[13,14,15,16]),(3,[12]),(2,[2,3,12]),(1,[6,7,8,9,10,11]),(0,[0,1,4])]
theorem yGF:yan Tryz.prog [2,3] (fun i=>(yLY.lookup i).getD []) Tryz.f13=some yFG.fn:=by kernel_rfl
def yIM:List (Nat×List Nat):=[(8,[0,1,5,14]),(5,[15,16,25]),(7,[0,1,5,25]),(6,[14,17,18,19,20,21,22,23,24]),(4,[11,12,13]),(3,[10]),(2,[0,1,10]),(1,[6,7,8,9]),(0,[4])]
theorem yvu:yan Tryz.prog [] (fun i=>(yIM.lookup i).getD []) Tryz.f14=some yuK.fn:=by kernel_rfl
def yIR:List (Nat×List Nat):=[(8,[0,1,5,14]),(5,[15,16,25]),(7,[0,1,5,25]),(6,[14,17,18,19,20,21,22,23,24]),(4,[11,12,13]),(3,[10]),(2,[0,1,10]),(1,[6,7,8,9]),(0,[4])]
theorem yxP:yan Tryz.prog [] (fun i=>(yIR.lookup i).getD []) Tryz.f15=some ywD.fn:=by kernel_rfl
def yIS:List (Nat×List Nat):=[(7,[5,6,7,8,9,10,11,12,13,14,15,16,43,44,45,46,47,48,49,50,51,52,53,54,55,56,57,58,59,60,61,62,63,64,65,66,67,68,69,70]),(6,[0,36,37,38,39,40,41,42]),(5,[29,30,31,32,33,34,35]),(4,[1,24,25,26,27,28]),(3,[18,19,20,21,22,23]),(2,[0,1,18]),(1,[17]),(0,[4])]
theorem yxQ:yan Tryz.prog [9,13] (fun i=>(yIS.lookup i).getD []) Tryz.f3=some ywE.fn:=by kernel_rfl
theorem yMT:ywd Tryz.prog tab:=by
  unfold tab
  simp only [ywd]
  exact ⟨⟨Tryz.f34,_,_,Tryz.func34,yEi⟩,⟨Tryz.f8,_,_,Tryz.func8,ytV⟩,⟨Tryz.f9,_,_,Tryz.func9,yBR⟩,⟨Tryz.f10,_,_,Tryz.func10,yEj⟩,⟨Tryz.f141,_,_,Tryz.func141,yvr⟩,⟨Tryz.f142,_,_,Tryz.func142,yvs⟩,⟨Tryz.f95,_,_,Tryz.func95,yBS⟩,⟨Tryz.f64,_,_,Tryz.func64,yEk⟩,⟨Tryz.f127,_,_,Tryz.func127,ysM⟩,⟨Tryz.f74,_,_,Tryz.func74,yBT⟩,⟨Tryz.f35,_,_,Tryz.func35,yGo⟩,⟨Tryz.f37,_,_,Tryz.func37,yBU⟩,⟨Tryz.f76,_,_,Tryz.func76,yBV⟩,⟨Tryz.f67,_,_,Tryz.func67,ytW⟩,⟨Tryz.f54,_,_,Tryz.func54,yBW⟩,⟨Tryz.f162,_,_,Tryz.func162,yEl⟩,⟨Tryz.f93,_,_,Tryz.func93,yBX⟩,⟨Tryz.f94,_,_,Tryz.func94,yEm⟩,⟨Tryz.f98,_,_,Tryz.func98,yxN⟩,⟨Tryz.f122,_,_,Tryz.func122,yBY⟩,⟨Tryz.f130,_,_,Tryz.func130,yBZ⟩,⟨Tryz.f52,_,_,Tryz.func52,yyM⟩,⟨Tryz.f105,_,_,Tryz.func105,yB0⟩,⟨Tryz.f143,_,_,Tryz.func143,yrd⟩,⟨Tryz.f96,_,_,Tryz.func96,yyN⟩,⟨Tryz.f169,_,_,Tryz.func169,ysN⟩,⟨Tryz.f150,_,_,Tryz.func150,ypm⟩,⟨Tryz.f97,_,_,Tryz.func97,yIz⟩,⟨Tryz.f170,_,_,Tryz.func170,yre⟩,⟨Tryz.f152,_,_,Tryz.func152,yoy⟩,⟨Tryz.f151,_,_,Tryz.func151,yB1⟩,⟨Tryz.f112,_,_,Tryz.func112,yEo⟩,⟨Tryz.f102,_,_,Tryz.func102,yEp⟩,⟨Tryz.f99,_,_,Tryz.func99,yB2⟩,⟨Tryz.f190,_,_,Tryz.func190,yIA⟩,⟨Tryz.f168,_,_,Tryz.func168,yrf⟩,⟨Tryz.f147,_,_,Tryz.func147,yIB⟩,⟨Tryz.f146,_,_,Tryz.func146,yIC⟩,⟨Tryz.f106,_,_,Tryz.func106,yEq⟩,⟨Tryz.f103,_,_,Tryz.func103,yEr⟩,⟨Tryz.f55,_,_,Tryz.func55,yEs⟩,⟨Tryz.f104,_,_,Tryz.func104,yEt⟩,⟨Tryz.f101,_,_,Tryz.func101,yyO⟩,⟨Tryz.f100,_,_,Tryz.func100,yEu⟩,⟨Tryz.f56,_,_,Tryz.func56,yEv⟩,⟨Tryz.f66,_,_,Tryz.func66,ysO⟩,⟨Tryz.f161,_,_,Tryz.func161,ytX⟩,⟨Tryz.f129,_,_,Tryz.func129,yGr⟩,⟨Tryz.f128,_,_,Tryz.func128,yxO⟩,⟨Tryz.f114,_,_,Tryz.func114,yB3⟩,⟨Tryz.f65,_,_,Tryz.func65,yrg⟩,⟨Tryz.f131,_,_,Tryz.func131,yEw⟩,⟨Tryz.f132,_,_,Tryz.func132,yEx⟩,⟨Tryz.f77,_,_,Tryz.func77,yB4⟩,⟨Tryz.f79,_,_,Tryz.func79,ysP⟩,⟨Tryz.f133,_,_,Tryz.func133,ym5⟩,⟨Tryz.f78,_,_,Tryz.func78,ymE⟩,⟨Tryz.f75,_,_,Tryz.func75,yvt⟩,⟨Tryz.f36,_,_,Tryz.func36,yyP⟩,⟨Tryz.f11,_,_,Tryz.func11,yGt⟩,⟨Tryz.f113,_,_,Tryz.func113,yEy⟩,⟨Tryz.f62,_,_,Tryz.func62,yEz⟩,⟨Tryz.f134,_,_,Tryz.func134,yGu⟩,⟨Tryz.f80,_,_,Tryz.func80,yEA⟩,⟨Tryz.f38,_,_,Tryz.func38,yGv⟩,⟨Tryz.f39,_,_,Tryz.func39,yKa⟩,⟨Tryz.f33,_,_,Tryz.func33,yEB⟩,⟨Tryz.f46,_,_,Tryz.func46,yIE⟩,⟨Tryz.f45,_,_,Tryz.func45,yIF⟩,⟨Tryz.f73,_,_,Tryz.func73,yGw⟩,⟨Tryz.f136,_,_,Tryz.func136,yGx⟩,⟨Tryz.f82,_,_,Tryz.func82,yEC⟩,⟨Tryz.f163,_,_,Tryz.func163,yED⟩,⟨Tryz.f17,_,_,Tryz.func17,yEE⟩,⟨Tryz.f57,_,_,Tryz.func57,yEF⟩,⟨Tryz.f58,_,_,Tryz.func58,yGy⟩,⟨Tryz.f21,_,_,Tryz.func21,yGz⟩,⟨Tryz.f200,_,_,Tryz.func200,yEG⟩,⟨Tryz.f203,_,_,Tryz.func203,yEH⟩,⟨Tryz.f216,_,_,Tryz.func216,yB6⟩,⟨Tryz.f24,_,_,Tryz.func24,yGA⟩,⟨Tryz.f220,_,_,Tryz.func220,yIG⟩,⟨Tryz.f217,_,_,Tryz.func217,yGB⟩,⟨Tryz.f218,_,_,Tryz.func218,yEI⟩,⟨Tryz.f219,_,_,Tryz.func219,yEJ⟩,⟨Tryz.f202,_,_,Tryz.func202,yIH⟩,⟨Tryz.f205,_,_,Tryz.func205,yII⟩,⟨Tryz.f32,_,_,Tryz.func32,yIJ⟩,⟨Tryz.f201,_,_,Tryz.func201,yEK⟩,⟨Tryz.f178,_,_,Tryz.func178,yEL⟩,⟨Tryz.f204,_,_,Tryz.func204,yIK⟩,⟨Tryz.f179,_,_,Tryz.func179,yGC⟩,⟨Tryz.f164,_,_,Tryz.func164,yB7⟩,⟨Tryz.f135,_,_,Tryz.func135,yEM⟩,⟨Tryz.f81,_,_,Tryz.func81,yGD⟩,⟨Tryz.f83,_,_,Tryz.func83,yEN⟩,⟨Tryz.f40,_,_,Tryz.func40,yEO⟩,⟨Tryz.f41,_,_,Tryz.func41,yyQ⟩,⟨Tryz.f12,_,_,Tryz.func12,yIL⟩,⟨Tryz.f42,_,_,Tryz.func42,yGE⟩,⟨Tryz.f13,_,_,Tryz.func13,yGF⟩,⟨Tryz.f14,_,_,Tryz.func14,yvu⟩,⟨Tryz.f15,_,_,Tryz.func15,yxP⟩,⟨Tryz.f3,_,_,Tryz.func3,yxQ⟩,trivial⟩
theorem hm:Tryz.prog.follows .mixedOrders=true:=by kernel_rfl
theorem yMU:IsExtern Tryz.prog ye4 add64Entry:=⟨_,Tryz.func144,by kernel_rfl,by kernel_rfl,by kernel_rfl,by kernel_rfl⟩
theorem yMV:IsExtern Tryz.prog ye5 ywf:=⟨_,Tryz.func145,by kernel_rfl,by kernel_rfl,by kernel_rfl,by kernel_rfl⟩
theorem k0C:EnvOk Tryz.prog E0C:=by
  refine yJr hm yMU yMV yMT ?_
  intro n e b h
  simp only [cloL,List.mem_cons,Prod.mk.injEq,List.not_mem_nil,or_false] at h
  rcases h with ⟨rfl,rfl,rfl⟩
  exact ⟨(.int .i64 (0)),by kernel_rfl⟩
theorem kN:EnvOk Tryz.prog (E []):=yJu k0C fun e h=>by cases h
end Go.Proofs.YtijdgcomldpncaaGreat.Tr
