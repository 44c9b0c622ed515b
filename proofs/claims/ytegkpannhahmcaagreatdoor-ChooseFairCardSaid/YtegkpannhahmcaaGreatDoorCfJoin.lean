/- The statement ChooseFair: what the conditions and their plain laws say of the program's functions, joined with the program. -/
import Derived.Test.YtegkpannhahmcaaGreatDoorCards
import Derived.Test.YtegkpannhahmcaaGreatDoorTie
import Derived.Test.YtegkpannhahmcaaGreatDoorCfW7
import Derived.WalkKit
import Derived.ProofKit
import Derived.OpenShut
import Derived.ReadAgain
import Derived.ChangeBears
import Derived.LaidMore
import Derived.Lay
import Derived.SevenTiedAt
import Derived.Stop.Joined
import Derived.Shelf.SlSortCmp.WholeK
import Derived.Test.YtegkpannhahmcaaGreatDoorShelf
namespace Go.Proofs.YtegkpannhahmcaaGreatDoor.Cf
open Go Go.Pf Go.Pf.Vc Go.ChangeShapes Go.WideShapes Go.ChangeAt Go.RowKit Go.Shelf Go.Sort Go.Lib Go.Proofs
set_option maxRecDepth 100000
def yOB:List (Nat×List Nat):=[(1,[1,3,4,5,6,7,8,9,10,11,12]),(0,[0,2])]
theorem yId:compFn Tryz.prog [1] (fun i=>(yOB.lookup i).getD []) Tryz.f32=some yG0.fn:=by kernel_rfl
def yKT:List (Nat×List Nat):=[(6,[0,3,7,15,16,17]),(3,[8,9,14]),(5,[0,3,14]),(4,[7,10,11,12,13]),(2,[4,5,6]),(0,[2])]
theorem yzq:compFn Tryz.prog [] (fun i=>(yKT.lookup i).getD []) Tryz.f12=some yyz.fn:=by kernel_rfl
def yOC:List (Nat×List Nat):=[(14,[98]),(13,[98]),(12,[1,3,4,57,97]),(8,[58,59]),(11,[87,88,89,90,91,92,93,94,95,96]),(10,[1,3,4,87]),(9,[57,60,61,62,63,64,65,66,67,68,69,70,71,72,73,74,75,76,77,78,79,80,81,82,83,84,85,86]),(7,[53,54,55,56]),(5,[52]),(4,[1,52]),(3,[13,14,15,16,17,18,19,20,21,22,23,24,25,26,27,28,29,30,31,32,33,34,35,36,37,38,39,40,41,42,43,44,45,46,47,48,49,50,51]),(2,[1,13]),(1,[5,6,7,8,9,10,11,12]),(0,[0,2])]
theorem yIe:compFn Tryz.prog [1] (fun i=>(yOC.lookup i).getD []) Tryz.f61=some yG1.fn:=by kernel_rfl
def yOD:List (Nat×List Nat):=[(15,[1,4,43]),(12,[44,45,57]),(14,[1,4,57]),(13,[43,46,47,48,49,50,51,52,53,54,55,56]),(11,[39,40,41,42]),(10,[3,23]),(7,[24,25,32]),(9,[1,3,32,33,34,35,36,37,38]),(8,[23,26,27,28,29,30,31]),(6,[19,20,21,22]),(5,[18]),(4,[1,18]),(3,[14,15,16,17]),(2,[1,14]),(1,[5,6,7,8,9,10,11,12,13]),(0,[0,2])]
theorem yIf:compFn Tryz.prog [1] (fun i=>(yOD.lookup i).getD []) Tryz.f33=some yG2.fn:=by kernel_rfl
def yOE:List (Nat×List Nat):=[(6,[22]),(5,[22]),(4,[0,1,5,10,12,13,14,15,16,17,18,19,20,21]),(3,[0,1,5,10,11]),(2,[9]),(1,[6,7,8]),(0,[4])]
theorem yIg:compFn Tryz.prog [] (fun i=>(yOE.lookup i).getD []) Tryz.f13=some yG3.fn:=by kernel_rfl
def yPA:List (Nat×List Nat):=[(1,[0,1,5,6,7,8,9,10,11,12,13]),(0,[4])]
theorem yL2:compFn Tryz.prog [] (fun i=>(yPA.lookup i).getD []) Tryz.f4=some yLj.fn:=by kernel_rfl
def yPK:List (Nat×List Nat):=[(1,[0,3,4])]
theorem yNx:compFn Tryz.prog [2] (fun i=>(yPK.lookup i).getD []) Tryz.f14=some yMH.fn:=by kernel_rfl
def yPB:List (Nat×List Nat):=[(1,[1,2,3,4,5,6,7]),(0,[0])]
theorem yL3:compFn Tryz.prog [1,2,4,5] (fun i=>(yPB.lookup i).getD []) Tryz.f15=some yLk.fn:=by kernel_rfl
def yL4:List (Nat×List Nat):=[(8,[0,3,4,15,24]),(6,[16,17]),(7,[15,18,19,20,21,22,23]),(5,[12,13,14]),(3,[7,9,10,11]),(2,[7,8]),(1,[5,6]),(0,[2])]
theorem yAK:compFn Tryz.prog [] (fun i=>(yL4.lookup i).getD []) Tryz.f82=some yz7.fn:=by kernel_rfl
def yL5:List (Nat×List Nat):=[(8,[0,3,4,15,24]),(6,[16,17]),(7,[15,18,19,20,21,22,23]),(5,[12,13,14]),(3,[7,9,10,11]),(2,[7,8]),(1,[5,6]),(0,[2])]
theorem yAL:compFn Tryz.prog [] (fun i=>(yL5.lookup i).getD []) Tryz.f83=some yz8.fn:=by kernel_rfl
def yNL:List (Nat×List Nat):=[(14,[81]),(13,[81]),(12,[1,49,50,51,66,67,68,69,70,71,72,73,74,75,76,77,78,79,80]),(11,[64,65]),(10,[1,49,50,64]),(9,[4,53,54,55,56,57,58,59,60,61,62,63]),(8,[51,52]),(6,[3,47,48]),(5,[1,3,47]),(4,[14,15,16,17,18,19,20,21,22,23,24,25,26,27,28,29,30,31,32,33,34,35,36,37,38,39,40,41,42,43,44,45,46]),(3,[1,3,14]),(2,[8,9,10,11,12,13]),(1,[5,6,7]),(0,[0,2])]
theorem yGl:compFn Tryz.prog [1] (fun i=>(yNL.lookup i).getD []) Tryz.f55=some yFe.fn:=by kernel_rfl
def yOF:List (Nat×List Nat):=[(18,[1,36,37,38,39]),(17,[49,50]),(16,[1,36,37,38,49]),(15,[7,42,43,44,45,46,47,48]),(14,[39,40,41]),(12,[23,24,25,26,35]),(11,[5,32,34]),(10,[1,5,23,24,25,32,33]),(9,[31]),(8,[4,29,30]),(7,[26,27,28]),(5,[21,22]),(4,[1,21]),(3,[17,18,19,20]),(2,[1,17]),(1,[8,9,10,11,12,13,14,15,16]),(0,[0,2])]
theorem yIh:compFn Tryz.prog [1,4,7] (fun i=>(yOF.lookup i).getD []) Tryz.f24=some yG4.fn:=by kernel_rfl
def yJV:List (Nat×List Nat):=[(3,[0,4,5,6,7]),(2,[0,4]),(1,[3]),(0,[2])]
theorem yyh:compFn Tryz.prog [] (fun i=>(yJV.lookup i).getD []) Tryz.f92=some yKp.fn:=by kernel_rfl
def yNM:List (Nat×List Nat):=[(7,[3,6,7,8,9,25]),(6,[24]),(5,[5,12,13,14,15,16,17,18,19,20,21,22,23]),(4,[9,10,11]),(2,[0]),(0,[2])]
theorem yGm:compFn Tryz.prog [22,5] (fun i=>(yNM.lookup i).getD []) Tryz.f62=some yFf.fn:=by kernel_rfl
def yOY:List (Nat×List Nat):=[(4,[0,4,9,12,13,14]),(3,[0,4,9,10,11]),(2,[8]),(1,[5,6,7]),(0,[3])]
theorem yJW:compFn Tryz.prog [2] (fun i=>(yOY.lookup i).getD []) Tryz.f35=some yI5.fn:=by kernel_rfl
def yMh:List (Nat×List Nat):=[(6,[1,6,27,29,30,31,32]),(5,[1,6,27,28]),(4,[0,7,14,17,18,19,20,21,22,23,24,25,26]),(3,[0,1,6,7,14,15,16]),(2,[13]),(1,[8,9,10,11,12]),(0,[5])]
theorem yCR:compFn Tryz.prog [4,6] (fun i=>(yMh.lookup i).getD []) Tryz.f18=some yBu.fn:=by kernel_rfl
def yNN:List (Nat×List Nat):=[(10,[1,5,14,15,16,17,38]),(9,[37]),(8,[6,7,21,22,23,24,25,26,27,28,29,30,31,32,33,34,35,36]),(7,[17,18,19,20]),(5,[13]),(4,[4,11]),(3,[1,4,11,12]),(2,[10]),(1,[8,9]),(0,[0,2,3])]
theorem yGn:compFn Tryz.prog [1] (fun i=>(yNN.lookup i).getD []) Tryz.f42=some yFg.fn:=by kernel_rfl
def yNO:List (Nat×List Nat):=[(3,[0,4,8,9]),(2,[0,4,5,6,7]),(1,[3]),(0,[2])]
theorem yGo:compFn Tryz.prog [] (fun i=>(yNO.lookup i).getD []) Tryz.f67=some yFh.fn:=by kernel_rfl
def yOG:List (Nat×List Nat):=[(3,[0,1,6,11]),(2,[6,7,8,9,10]),(1,[5]),(0,[4])]
theorem yIi:compFn Tryz.prog [] (fun i=>(yOG.lookup i).getD []) Tryz.f80=some yG5.fn:=by kernel_rfl
def yMi:List (Nat×List Nat):=[(5,[1,2,13,20,21,22,23,24]),(4,[1,2,13,14,15,16,17,18,19]),(3,[0,11]),(2,[0,1,2,11,12]),(1,[8,9,10]),(0,[7])]
theorem yCS:compFn Tryz.prog [6] (fun i=>(yMi.lookup i).getD []) Tryz.f81=some yBv.fn:=by kernel_rfl
def yNP:List (Nat×List Nat):=[(5,[0,1,6,7,8,19,20,21,22,23,24,25,26,27,28,29,30,31,32]),(4,[16,17,18]),(3,[10,12,13,14,15]),(2,[0,1,10,11]),(1,[9]),(0,[5])]
theorem yGp:compFn Tryz.prog [4] (fun i=>(yNP.lookup i).getD []) Tryz.f50=some yFi.fn:=by kernel_rfl
def yNy:List (Nat×List Nat):=[(3,[5,17]),(2,[3,6,12,13,14,15,16]),(1,[1,4,7,8,9,10,11]),(0,[0])]
theorem yD4:compFn Tryz.prog [1,2,5] (fun i=>(yNy.lookup i).getD []) Tryz.f37=some yCZ.fn:=by kernel_rfl
def yNz:List (Nat×List Nat):=[(3,[25]),(2,[25]),(1,[1,3,4,5,6,7,8,9,10,11,12,13,14,15,16,17,18,19,20,21,22,23,24]),(0,[0,2])]
theorem yD5:compFn Tryz.prog [1] (fun i=>(yNz.lookup i).getD []) Tryz.f89=some yC0.fn:=by kernel_rfl
def yNQ:List (Nat×List Nat):=[(1,[0,3,4])]
theorem yGq:compFn Tryz.prog [2] (fun i=>(yNQ.lookup i).getD []) Tryz.f86=some yFj.fn:=by kernel_rfl
def yIB:List (Nat×List Nat):=[(8,[3,6,7,8,9,17]),(7,[5,14,16]),(6,[3,5,6,7,8,14,15]),(5,[12,13]),(4,[9,10,11]),(2,[0]),(0,[2])]
theorem yws:compFn Tryz.prog [] (fun i=>(yIB.lookup i).getD []) Tryz.f93=some yvt.fn:=by kernel_rfl
def yNA:List (Nat×List Nat):=[(1,[2,3,5,6,7,8,9,10]),(0,[0,1,4])]
theorem yD6:compFn Tryz.prog [9,2,3] (fun i=>(yNA.lookup i).getD []) Tryz.f64=some yC1.fn:=by kernel_rfl
def yJX:List (Nat×List Nat):=[(1,[0,3,4,5]),(0,[2])]
theorem yyi:compFn Tryz.prog [] (fun i=>(yJX.lookup i).getD []) Tryz.f94=some ywO.fn:=by kernel_rfl
def yIj:List (Nat×List Nat):=[(13,[19]),(12,[19]),(11,[0,1,16,17,18]),(10,[0,1,16]),(9,[13,14,15]),(8,[0,1,13]),(7,[6,11]),(6,[12]),(5,[12]),(4,[0,1,6,11]),(3,[5]),(2,[9,10]),(1,[7,8]),(0,[4])]
theorem yuw:compFn Tryz.prog [] (fun i=>(yIj.lookup i).getD []) Tryz.f65=some ytV.fn:=by kernel_rfl
def yPC:List (Nat×List Nat):=[(11,[0,1,48,49,50]),(10,[7,9,12,13,40,41,42,43,44,45,46,47]),(9,[6,35,36,37,38,39]),(8,[11,33,34]),(7,[31,32]),(6,[8,10,25,26,27,28,29,30]),(5,[22,23,24]),(4,[20,21]),(3,[18,19]),(2,[16,17]),(1,[14,15]),(0,[4,5])]
theorem yL6:compFn Tryz.prog [] (fun i=>(yPC.lookup i).getD []) Tryz.f66=some yLl.fn:=by kernel_rfl
def yIC:List (Nat×List Nat):=[(1,[0,3,4,5]),(0,[2])]
theorem ywt:compFn Tryz.prog [] (fun i=>(yIC.lookup i).getD []) Tryz.f95=some yvu.fn:=by kernel_rfl
def yGy:List (Nat×List Nat):=[(13,[19]),(12,[19]),(11,[0,1,16,17,18]),(10,[0,1,16]),(9,[13,14,15]),(8,[0,1,13]),(7,[6,11]),(6,[12]),(5,[12]),(4,[0,1,6,11]),(3,[5]),(2,[9,10]),(1,[7,8]),(0,[4])]
theorem yty:compFn Tryz.prog [] (fun i=>(yGy.lookup i).getD []) Tryz.f69=some ysj.fn:=by kernel_rfl
def yNR:List (Nat×List Nat):=[(8,[3,6,7,8,9,17]),(7,[5,14,16]),(6,[3,5,6,7,8,14,15]),(5,[12,13]),(4,[9,10,11]),(2,[0]),(0,[2])]
theorem yGr:compFn Tryz.prog [] (fun i=>(yNR.lookup i).getD []) Tryz.f68=some yFk.fn:=by kernel_rfl
def yOH:List (Nat×List Nat):=[(11,[11,60,63]),(10,[60,61,62]),(9,[2,58,59]),(8,[7,8,9,10,50,51,52,53,54,55,56,57]),(7,[3,40,41,42,43,44,45,46,47,48,49]),(6,[24,30,31,32,33,34,35,36,37,38,39]),(5,[2,3,24,25,26,27,28,29]),(4,[6,16,18,19,20,21,22,23]),(3,[2,3,6,16,17]),(2,[15]),(1,[12,13,14]),(0,[0,1,4,5])]
theorem yIk:compFn Tryz.prog [56,2,3] (fun i=>(yOH.lookup i).getD []) Tryz.f39=some yG6.fn:=by kernel_rfl
def yOI:List (Nat×List Nat):=[(2,[5,13,14]),(1,[2,3,6,7,8,9,10,11,12]),(0,[0,1,4])]
theorem yIl:compFn Tryz.prog [2,3] (fun i=>(yOI.lookup i).getD []) Tryz.f85=some yG7.fn:=by kernel_rfl
def yNS:List (Nat×List Nat):=[(1,[2,3,5,6,7,8,9,10,11,12,13,14,15,16,17,18,19,20]),(0,[0,1,4])]
theorem yGs:compFn Tryz.prog [2,3] (fun i=>(yNS.lookup i).getD []) Tryz.f84=some yFl.fn:=by kernel_rfl
def yPD:List (Nat×List Nat):=[(10,[0,14,19,20,21,22,23,24]),(9,[17,18]),(8,[14,15,16]),(7,[8,13]),(6,[11,12]),(5,[8,9,10]),(4,[4,7]),(2,[2,4,5,6]),(1,[3])]
theorem yL7:compFn Tryz.prog [] (fun i=>(yPD.lookup i).getD []) Tryz.f118=some yLm.fn:=by kernel_rfl
def yID:List (Nat×List Nat):=[(1,[0,3,4,5]),(0,[2])]
theorem ywu:compFn Tryz.prog [] (fun i=>(yID.lookup i).getD []) Tryz.f119=some yvv.fn:=by kernel_rfl
def yPE:List (Nat×List Nat):=[(28,[2,8,9,10,14,15,16,17,18,113,120,121,122,123,124,125,126,127,128,129,130,131,132,133,134]),(27,[119]),(26,[116,117,118]),(25,[113,114,115]),(24,[102,103,104,105,106,107,108,109,110,111,112,120]),(23,[97,98,99,100,101]),(22,[94,95,96]),(21,[11,13,16,78,85,86,87,88,89,90,91,92,93]),(20,[84]),(19,[81,82,83]),(18,[78,79,80]),(17,[67,68,69,70,71,72,73,74,75,76,77,85]),(16,[62,63,64,65,66]),(15,[59,60,61]),(14,[12,57,58]),(13,[55,56]),(12,[1,52,53,54]),(11,[0,44,45,46,47,48,49,50,51]),(10,[42,43]),(9,[40,41]),(8,[37,38,39]),(7,[27,34,35,36]),(6,[0,1,2,27,28,29,30,31,32,33]),(5,[24,26]),(4,[24,25]),(3,[20,22,23]),(2,[20,21]),(1,[19]),(0,[6,7])]
theorem yL8:compFn Tryz.prog [] (fun i=>(yPE.lookup i).getD []) Tryz.f107=some yLn.fn:=by kernel_rfl
def yPF:List (Nat×List Nat):=[(2,[8,18]),(1,[0,1,2,7,9,10,11,12,13,14,15,16,17]),(0,[6])]
theorem yL9:compFn Tryz.prog [] (fun i=>(yPF.lookup i).getD []) Tryz.f106=some yLo.fn:=by kernel_rfl
def yOJ:List (Nat×List Nat):=[(26,[12,17,20,153,155,156,157,158,159,160]),(25,[12,17,20,153,154]),(24,[19,152]),(23,[2,3,7,16,138,139,140,141,142,143,144,145,146,147,148,149,150,151]),(22,[13,14,18,129,131,132,133,134,135,136,137]),(21,[2,3,7,12,13,14,16,129,130]),(20,[127,128]),(19,[119,121,122,123,124,125,126]),(18,[2,3,7,12,13,14,119,120]),(17,[114,115,116,117,118]),(16,[8,10,15,107,108,109,110,111,112,113]),(15,[9,11,94,101,102,103,104,105,106]),(14,[99,100]),(13,[94,95,96,97,98]),(12,[68,82,83,84,85,86,87,88,89,90,91,92,93]),(11,[8,10,15,75,76,77,78,79,80,81]),(10,[9,11,68,69,70,71,72,73,74]),(9,[62,63,64,65,66,67]),(8,[13,14,15]),(7,[59,60,61]),(6,[47,48,49,50,51,52,53,54,55,56,57,58]),(5,[35,36,37,38,39,40,41,42,43,44,45,46]),(4,[6,25,28,29,30,31,32,33,34]),(3,[2,3,6,25,26,27]),(2,[24]),(1,[21,22,23]),(0,[0,1,5])]
theorem yIm:compFn Tryz.prog [2,3,4] (fun i=>(yOJ.lookup i).getD []) Tryz.f88=some yG8.fn:=by kernel_rfl
def yOK:List (Nat×List Nat):=[(5,[2,3,18,19,20,21,22]),(4,[6,11,14,15,16,17]),(3,[2,3,6,11,12,13]),(2,[10]),(1,[7,8,9]),(0,[0,1,5])]
theorem yIn:compFn Tryz.prog [2,3,4] (fun i=>(yOK.lookup i).getD []) Tryz.f87=some yG9.fn:=by kernel_rfl
def yOL:List (Nat×List Nat):=[(10,[2,3,14,16,65,67,68,69,70,71,72,73,74,75,76,77,78,79,80,81,82]),(9,[2,3,14,16,65,66]),(8,[13,15,62,63,64]),(7,[8,10,11,12,52,53,54,55,56,57,58,59,60,61]),(6,[7,9,42,43,44,45,46,47,48,49,50,51]),(5,[36,37,38,39,40,41]),(4,[6,21,24,25,26,27,28,29,30,31,32,33,34,35]),(3,[2,3,6,21,22,23]),(2,[20]),(1,[17,18,19]),(0,[0,1,5])]
theorem yIo:compFn Tryz.prog [2,3,4] (fun i=>(yOL.lookup i).getD []) Tryz.f73=some yHa.fn:=by kernel_rfl
def yOM:List (Nat×List Nat):=[(8,[2,3,19,34,35,36,37,38,39,40,41,42]),(7,[2,3,19,23,24,25,26,27,28,29,30,31,32,33]),(6,[14,20,21,22]),(5,[2,3,14,18]),(4,[6,11,15,16,17]),(3,[2,3,6,11,12,13]),(2,[10]),(1,[7,8,9]),(0,[0,1,5])]
theorem yIp:compFn Tryz.prog [2,3,4] (fun i=>(yOM.lookup i).getD []) Tryz.f43=some yHb.fn:=by kernel_rfl
def yNB:List (Nat×List Nat):=[(12,[5,6,7,14,15,41,48]),(11,[6,7,14,41,42,43,44,45,46,47]),(10,[40]),(9,[3,4,9,20,33,34,35,36,37,38,39]),(8,[5,13,29,31,32]),(7,[5,29,30]),(6,[28]),(5,[4,12,27]),(4,[3,6,7,9,20,21,22,23,24,25,26]),(3,[17,18,19]),(2,[3,4,5,6,7,9,17]),(1,[16]),(0,[0,1,2,8,11])]
theorem yD7:compFn Tryz.prog [7,8,9,12,14] (fun i=>(yNB.lookup i).getD []) Tryz.f91=some yuJ.fn:=by kernel_rfl
def yON:List (Nat×List Nat):=[(18,[2,3,4,14,15,16,17]),(17,[8,9,31,61]),(16,[9,59,60]),(15,[2,3,4,9,14,15,16,59]),(14,[8,10,12,34,52,54,55,56,57,58]),(13,[2,3,4,8,9,10,12,14,15,16,52,53]),(12,[51]),(11,[11,42,44,45,46,47,48,49,50]),(10,[2,3,4,8,9,10,11,12,14,15,16,42,43]),(9,[41]),(8,[34,35,36,37,38,39,40]),(7,[33]),(6,[31,32]),(5,[28,29,30]),(4,[7,21,22,23,24,25,26,27]),(3,[17,18,19,20]),(1,[13]),(0,[0,1,6])]
theorem yIq:compFn Tryz.prog [3,4,9,10,11] (fun i=>(yON.lookup i).getD []) Tryz.f90=some yHc.fn:=by kernel_rfl
def yOO:List (Nat×List Nat):=[(15,[9,10,45,48]),(14,[9,10,45,46,47]),(13,[11,42,44]),(12,[11,42,43]),(11,[41]),(10,[3,4,5,37,38,39,40]),(8,[35]),(7,[3,4,5,35,36]),(6,[31,33,34]),(5,[3,4,5,31,32]),(4,[8,15,18,19,20,21,22,23,24,25,26,27,28,29,30]),(3,[3,4,5,8,15,16,17]),(2,[14]),(1,[12,13]),(0,[0,1,2,7])]
theorem yIr:compFn Tryz.prog [3,4,6] (fun i=>(yOO.lookup i).getD []) Tryz.f57=some yHd.fn:=by kernel_rfl
def yJY:List (Nat×List Nat):=[(1,[1,4,6,7,10,11,12,13,14,15,16,17,18,19,20]),(0,[0,2,3,9])]
theorem yyj:compFn Tryz.prog [4,6,7,8] (fun i=>(yJY.lookup i).getD []) Tryz.f26=some ywP.fn:=by kernel_rfl
def yKU:List (Nat×List Nat):=[(1,[1,2,5,6,7,8,9,10,11,12,13,14]),(0,[0,4])]
theorem yzr:compFn Tryz.prog [2] (fun i=>(yKU.lookup i).getD []) Tryz.f27=some yyA.fn:=by kernel_rfl
def yKV:List (Nat×List Nat):=[(13,[3,4,10,12,59,60,61,62,63,64,65,66,67,68,69,70,71,72]),(12,[53,54,55,56,57,58]),(11,[48,51,52]),(10,[3,4,10,48,49,50]),(9,[11,40,44,45,46,47]),(8,[3,4,10,11,40,41,42,43]),(7,[39]),(6,[2,25,28,29,30,31,32,33,34,35,36,37,38]),(5,[2,3,4,25,26,27]),(4,[9,17,21,22,23,24]),(3,[2,3,4,9,17,18,19,20]),(2,[16]),(1,[13,14,15]),(0,[0,1,8])]
theorem yzs:compFn Tryz.prog [69,3,4,6,7,10] (fun i=>(yKV.lookup i).getD []) Tryz.f63=some yp9.fn:=by kernel_rfl
def yOZ:List (Nat×List Nat):=[(2,[1,6,7,11,14,15,16,17,18,19,20,21,22,23,24]),(1,[4,12,13]),(0,[0,2,3,10])]
theorem yJZ:compFn Tryz.prog [4,6,7,8,9,11] (fun i=>(yOZ.lookup i).getD []) Tryz.f36=some yI6.fn:=by kernel_rfl
def yNT:List (Nat×List Nat):=[(28,[3,5,9,10,42,43,44,45,105]),(27,[13,70,104]),(26,[13,15,100,103]),(25,[3,5,9,10,13,15,42,43,44,100,101,102]),(24,[99]),(23,[16,90,93,94,95,96,97,98]),(22,[3,5,9,10,13,15,16,42,43,44,90,91,92]),(21,[89]),(20,[12,14,79,82,83,84,85,86,87,88]),(19,[3,5,9,10,12,13,14,15,42,43,44,79,80,81]),(18,[78]),(17,[67,72,73,74,75,76,77]),(16,[13,70,71]),(15,[12,67,68,69]),(14,[58,60,61,62,63,64,65,66]),(13,[58,59]),(12,[56,57]),(11,[11,49,50,51,52,53,54,55]),(10,[45,46,47,48]),(8,[41]),(7,[4,40]),(6,[37,39]),(5,[3,4,5,37,38]),(4,[8,20,23,24,25,26,27,28,29,30,31,32,33,34,35,36]),(3,[3,4,5,8,20,21,22]),(2,[19]),(1,[17,18]),(0,[0,1,2,7])]
theorem yGt:compFn Tryz.prog [3,4,5,6,9,10,13,14,16] (fun i=>(yNT.lookup i).getD []) Tryz.f56=some yFm.fn:=by kernel_rfl
def yIE:List (Nat×List Nat):=[(1,[1,4,6,7,10,11,12,13,14,15,16,17,18,19,20]),(0,[0,2,3,9])]
theorem ywv:compFn Tryz.prog [4,6,7,8] (fun i=>(yIE.lookup i).getD []) Tryz.f25=some yvw.fn:=by kernel_rfl
def yOP:List (Nat×List Nat):=[(2,[1,6,7,11,14,15,16,17,18,19,20,21,22,23,24]),(1,[4,12,13]),(0,[0,2,3,10])]
theorem yIs:compFn Tryz.prog [4,6,7,8,9,11] (fun i=>(yOP.lookup i).getD []) Tryz.f38=some yHe.fn:=by kernel_rfl
def yNC:List (Nat×List Nat):=[(9,[1,66]),(8,[4,7,60,61,62,63,64,65]),(7,[3,5,8,48,49,50,51,52,53,54,55,56,57,58,59]),(6,[6,37,38,39,40,41,42,43,44,45,46,47]),(5,[11,34,35,36]),(4,[1,33]),(3,[32]),(2,[11,12,13,14,15,16,17,18,19,20,21,22,23,24,25,26,27,28,29,30,31]),(1,[9,10]),(0,[0])]
theorem yD8:compFn Tryz.prog [1,2,4,5] (fun i=>(yNC.lookup i).getD []) Tryz.f19=some yC2.fn:=by kernel_rfl
def yzt:List (Nat×List Nat):=[(9,[0,1,12,13,14]),(8,[24,25]),(7,[0,1,12,13,24]),(6,[5,16,17,18,19,20,21,22,23]),(5,[14,15]),(3,[10,11]),(2,[0,1,10]),(1,[6,7,8,9]),(0,[4])]
theorem ymh:compFn Tryz.prog [] (fun i=>(yzt.lookup i).getD []) Tryz.f70=some ylU.fn:=by kernel_rfl
def yMj:List (Nat×List Nat):=[(11,[60]),(10,[60]),(9,[1,4,29,32,33,34,35,36,37,38,39,40,41,42,43,44,45,46,47,48,49,50,51,52,53,54,55,56,57,58,59]),(8,[29,30,31]),(7,[5,22,24,25,26,27,28]),(6,[1,4,5,22,23]),(5,[21]),(4,[3,10,12,13,14,15,16,17,18,19,20]),(3,[1,3,10,11]),(2,[9]),(1,[6,7,8]),(0,[0,2])]
theorem yCT:compFn Tryz.prog [1,4] (fun i=>(yMj.lookup i).getD []) Tryz.f40=some yBw.fn:=by kernel_rfl
def yJ0:List (Nat×List Nat):=[(12,[6,50]),(11,[1,5,34,35,36,37,38,39,40,41,42,43,44,45,46,47,48,49]),(10,[25,26,27,28,29,30,31,32,33]),(9,[20,23,24]),(8,[20,21,22]),(7,[19]),(6,[15,17,18]),(5,[1,15,16]),(4,[4,10,13,14]),(3,[1,4,10,11,12]),(2,[9]),(1,[7,8]),(0,[0,3])]
theorem yyk:compFn Tryz.prog [32,48,1,2,6] (fun i=>(yJ0.lookup i).getD []) Tryz.f20=some ywQ.fn:=by kernel_rfl
def yNU:List (Nat×List Nat):=[(6,[7,26,27,28,29,30]),(5,[21,22,23,24,25]),(4,[6,15,18,19,20]),(3,[7,15,16,17]),(2,[14]),(1,[0,1,8,9,10,11,12,13]),(0,[5,6])]
theorem yGu:compFn Tryz.prog [4,7] (fun i=>(yNU.lookup i).getD []) Tryz.f6=some yFn.fn:=by kernel_rfl
def yOQ:List (Nat×List Nat):=[(1,[2,3,5,6,7,8]),(0,[0,1,4])]
theorem yIt:compFn Tryz.prog [2,3] (fun i=>(yOQ.lookup i).getD []) Tryz.f17=some yHf.fn:=by kernel_rfl
def yO0:List (Nat×List Nat):=[(8,[0,1,5,14]),(5,[15,16,25]),(7,[0,1,5,25]),(6,[14,17,18,19,20,21,22,23,24]),(4,[11,12,13]),(3,[10]),(2,[0,1,10]),(1,[6,7,8,9]),(0,[4])]
theorem yJ1:compFn Tryz.prog [] (fun i=>(yO0.lookup i).getD []) Tryz.f34=some yI7.fn:=by kernel_rfl
def yO1:List (Nat×List Nat):=[(8,[2,3,5,17]),(5,[18,19,31]),(7,[2,3,5,31]),(6,[17,20,21,22,23,24,25,26,27,28,29,30]),(4,[13,14,15,16]),(3,[12]),(2,[2,3,12]),(1,[6,7,8,9,10,11]),(0,[0,1,4])]
theorem yJ2:compFn Tryz.prog [2,3] (fun i=>(yO1.lookup i).getD []) Tryz.f16=some yI8.fn:=by kernel_rfl
def yOR:List (Nat×List Nat):=[(4,[1,2,3,4,5,7,8,9,10,27,28,29,30,31,32,33,34,35,36,37,38,39,40,41,42,43,44,45,46,47,48,49,50,51,52,53,54,55,56,57,58,59,60,61]),(3,[21,22,23,24,25,26]),(2,[6,15,16,17,18,19,20]),(1,[11,12,13,14]),(0,[0])]
theorem yIu:compFn Tryz.prog [37,58,1,2,3,4,5,8] (fun i=>(yOR.lookup i).getD []) Tryz.f5=some yHg.fn:=by kernel_rfl
def yND:List (Nat×List Nat):=[(2,[3,4,13,14,15,16,17,18]),(1,[1,5,6,7,8,9,10,11,12]),(0,[0,2])]
theorem yD9:compFn Tryz.prog [1] (fun i=>(yND.lookup i).getD []) Tryz.f120=some yC3.fn:=by kernel_rfl
def yOS:List (Nat×List Nat):=[(9,[8,9,10,11]),(8,[16,17]),(7,[8,9,10,16]),(6,[4,14,15]),(5,[11,12,13]),(3,[0,7]),(2,[0,7]),(1,[5,6]),(0,[2])]
theorem yIv:compFn Tryz.prog [4] (fun i=>(yOS.lookup i).getD []) Tryz.f108=some yHh.fn:=by kernel_rfl
def yNE:List (Nat×List Nat):=[(2,[5,13]),(1,[2,3,6,7,8,9,10,11,12]),(0,[0,1,4])]
theorem yEa:compFn Tryz.prog [2,3] (fun i=>(yNE.lookup i).getD []) Tryz.f97=some yC4.fn:=by kernel_rfl
def yNF:List (Nat×List Nat):=[(9,[0,4,13]),(6,[14,15,28]),(8,[0,4,28]),(7,[13,16,17,18,19,20,21,22,23,24,25,26,27]),(5,[10,11,12]),(4,[3,8]),(3,[0,3,8,9]),(2,[7]),(1,[5,6]),(0,[2])]
theorem yEb:compFn Tryz.prog [] (fun i=>(yNF.lookup i).getD []) Tryz.f96=some yC5.fn:=by kernel_rfl
def yNG:List (Nat×List Nat):=[(1,[0,3,4])]
theorem yEc:compFn Tryz.prog [2,1000002] (fun i=>(yNG.lookup i).getD []) Tryz.f44=some yC6.fn:=by kernel_rfl
def yNV:List (Nat×List Nat):=[(2,[5,13,14]),(1,[2,3,6,7,8,9,10,11,12]),(0,[0,1,4])]
theorem yGv:compFn Tryz.prog [2,3,1000002,1000003] (fun i=>(yNV.lookup i).getD []) Tryz.f51=some yFo.fn:=by kernel_rfl
def yNH:List (Nat×List Nat):=[(20,[0,38,39,40,41]),(19,[69,70]),(18,[0,38,39,40,69]),(17,[10,11,46,47,48,49,50,51,52,53,54,55,56,57,58,59,60,61,62,63,64,65,66,67,68]),(16,[44,45]),(15,[41,42,43]),(13,[3,25,26,27,28,37]),(12,[8,34,36]),(11,[0,3,8,25,26,27,34,35]),(10,[33]),(9,[7,31,32]),(8,[28,29,30]),(6,[23,24]),(5,[0,3,23]),(4,[5,16,18,19,20,21,22]),(3,[0,3,5,16,17]),(2,[15]),(1,[12,13,14]),(0,[1,4])]
theorem yEd:compFn Tryz.prog [3,1000003] (fun i=>(yNH.lookup i).getD []) Tryz.f71=some yC7.fn:=by kernel_rfl
def yMa:List (Nat×List Nat):=[(1,[1,2,5,6,7,8,9,10,11,12]),(0,[0,4])]
theorem yAM:compFn Tryz.prog [2,3] (fun i=>(yMa.lookup i).getD []) Tryz.f99=some yrA.fn:=by kernel_rfl
def yOT:List (Nat×List Nat):=[(12,[1,6,12,13,14,15,39]),(11,[10,35,38]),(10,[1,6,10,12,13,14,35,36,37]),(9,[34]),(8,[9,25,28,29,30,31,32,33]),(7,[1,6,9,10,12,13,14,25,26,27]),(6,[24]),(5,[8,18,19,20,21,22,23]),(4,[15,16,17]),(2,[0]),(1,[11]),(0,[5])]
theorem yIw:compFn Tryz.prog [4,6,8,9] (fun i=>(yOT.lookup i).getD []) Tryz.f98=some yHi.fn:=by kernel_rfl
def yNI:List (Nat×List Nat):=[(10,[1,2,45,47,48,49,50,51]),(9,[1,2,45,46]),(8,[8,23,24,25,26,27,28,29,30,31,32,33,34,35,36,37,38,39,40,41,42,43,44]),(7,[7,18,21,22]),(6,[1,2,7,18,19,20]),(5,[17]),(4,[6,12,15,16]),(3,[1,2,6,12,13,14]),(2,[11]),(1,[9,10]),(0,[0,5])]
theorem yEe:compFn Tryz.prog [4] (fun i=>(yNI.lookup i).getD []) Tryz.f72=some yC8.fn:=by kernel_rfl
def yNJ:List (Nat×List Nat):=[(17,[3,7,23,24,25,26,58]),(16,[8,9,31,32,33,34,57]),(15,[56]),(14,[12,13,44,46,47,48,49,50,51,52,53,54,55]),(13,[3,7,8,9,12,13,23,24,25,31,32,33,44,45]),(12,[43]),(11,[11,37,38,39,40,41,42]),(10,[34,35,36]),(8,[30]),(7,[26,27,28,29]),(5,[0]),(4,[6,18,20,21,22]),(3,[0,3,6,18,19]),(2,[17]),(1,[14,15,16]),(0,[1,4,5])]
theorem yEf:compFn Tryz.prog [53,3,9,12,1000003,1000022,1000009,1000012] (fun i=>(yNJ.lookup i).getD []) Tryz.f41=some yuK.fn:=by kernel_rfl
def yKW:List (Nat×List Nat):=[(4,[0,3,6,7,15,17,18,19,20,21,22]),(3,[0,3,6,7,15,16]),(2,[14]),(1,[8,9,10,11,12,13]),(0,[1,4,5])]
theorem yzu:compFn Tryz.prog [3,1000003,1000022] (fun i=>(yKW.lookup i).getD []) Tryz.f21=some yh3.fn:=by kernel_rfl
def yIF:List (Nat×List Nat):=[(10,[0,12,13,14]),(9,[56]),(8,[6,7,44,46,47,48,49,50,51,52,53,54,55]),(7,[0,6,7,12,13,44,45]),(6,[43]),(5,[3,4,27,28,29,30,31,32,33,34,35,36,37,38,39,40,41,42]),(4,[5,16,17,18,19,20,21,22,23,24,25,26]),(3,[14,15]),(1,[8,9,10,11]),(0,[2])]
theorem yww:compFn Tryz.prog [52,6] (fun i=>(yIF.lookup i).getD []) Tryz.f22=some yn2.fn:=by kernel_rfl
def yJ3:List (Nat×List Nat):=[(1,[1,2,4,5,6,7,8,9,10,11,12,13,14,15]),(0,[0,3])]
theorem yyl:compFn Tryz.prog [2,1000002] (fun i=>(yJ3.lookup i).getD []) Tryz.f76=some yoX.fn:=by kernel_rfl
def yym:List (Nat×List Nat):=[(7,[0,1,7,8,9]),(6,[5,16,18]),(5,[0,1,5,7,8,16,17]),(4,[11,12,13,14,15]),(3,[9,10]),(1,[6]),(0,[4])]
theorem ykt:compFn Tryz.prog [] (fun i=>(yym.lookup i).getD []) Tryz.f100=some yfW.fn:=by kernel_rfl
def yve:List (Nat×List Nat):=[(1,[0,1,5,6,7,8]),(0,[4])]
theorem yjj:compFn Tryz.prog [] (fun i=>(yve.lookup i).getD []) Tryz.f74=some ybZ.fn:=by kernel_rfl
def yMb:List (Nat×List Nat):=[(1,[1,2,4,5,6]),(0,[0,3])]
theorem yAN:compFn Tryz.prog [1000002] (fun i=>(yMb.lookup i).getD []) Tryz.f75=some yz9.fn:=by kernel_rfl
def yNK:List (Nat×List Nat):=[(1,[0,3,5,6,7]),(0,[1,4])]
theorem yEg:compFn Tryz.prog [1000003] (fun i=>(yNK.lookup i).getD []) Tryz.f47=some yC9.fn:=by kernel_rfl
def yEU:List (Nat×List Nat):=[(1,[0,1,2,6,7,8,9,10,11,12,13,14,15,16,17,18,19,20,21,22,23,24,25]),(0,[5])]
theorem yrs:compFn Tryz.prog [] (fun i=>(yEU.lookup i).getD []) Tryz.f46=some yjI.fn:=by kernel_rfl
def yIx:List (Nat×List Nat):=[(11,[0,1,13,14,15]),(10,[7,21,22,23,32]),(9,[8,28,31]),(8,[0,1,7,8,13,14,21,22,28,29,30]),(7,[25,26,27]),(6,[23,24]),(4,[17,18,19,20]),(3,[15,16]),(1,[9,10,11,12]),(0,[4,5,6])]
theorem yux:compFn Tryz.prog [] (fun i=>(yIx.lookup i).getD []) Tryz.f45=some ytW.fn:=by kernel_rfl
def yAZ:List (Nat×List Nat):=[(6,[0,1,16,26]),(5,[1,16,17,18,19,20,21,22,23,24,25]),(4,[15]),(3,[6,8,9,10,11,12,13,14]),(2,[6,7]),(1,[5]),(0,[4])]
theorem yoO:compFn Tryz.prog [] (fun i=>(yAZ.lookup i).getD []) Tryz.f101=some yhC.fn:=by kernel_rfl
def yz3:List (Nat×List Nat):=[(15,[6,25,26,27,28,35]),(14,[34]),(13,[8,31,32,33]),(12,[28,29,30]),(10,[0]),(9,[3,9,10,11,12,23,24]),(8,[20,22]),(7,[20,21]),(6,[19]),(5,[5,15,16,17,18]),(4,[12,13,14]),(0,[2])]
theorem ymL:compFn Tryz.prog [] (fun i=>(yz3.lookup i).getD []) Tryz.f77=some yml.fn:=by kernel_rfl
def yPG:List (Nat×List Nat):=[(7,[0,8,13,14,15,16,17,18]),(6,[11,12]),(5,[8,9,10]),(4,[4,7]),(2,[2,4,5,6]),(1,[3])]
theorem yMc:compFn Tryz.prog [] (fun i=>(yPG.lookup i).getD []) Tryz.f117=some yPJ.fn:=by kernel_rfl
def yPL:List (Nat×List Nat):=[(2,[0,6,7]),(1,[0,3,4,5]),(0,[2])]
theorem yOU:compFn Tryz.prog [] (fun i=>(yPL.lookup i).getD []) Tryz.f103=some yPM.fn:=by kernel_rfl
def ysb:List (Nat×List Nat):=[(2,[9,15,16,34]),(5,[35,36]),(6,[34,37,38,39,40,41,42,43,44,45,46,47,48,49,50,51,52]),(4,[18,19,20,21,22,23,24,25,26,27,28,29,30,31,32,33]),(3,[14,17]),(1,[12,13]),(0,[10,11])]
theorem yh1:compFn Tryz.prog [] (fun i=>(ysb.lookup i).getD []) Tryz.f109=some ysk.fn:=by kernel_rfl
def ywx:List (Nat×List Nat):=[(30,[16,147]),(29,[2,140,141,142,143,144,145,146]),(28,[18,19,20,125,137,138,139]),(27,[16,135,136]),(26,[1,129,130,131,132,133,134]),(25,[18,19,20,125,126,127,128]),(24,[123,124]),(23,[12,121,122]),(22,[115,116,117,118,119,120]),(21,[17,114]),(20,[10,11,13,97,105,106,107,108,109,110,111,112,113]),(19,[15,104]),(18,[1,12,13,97,98,99,100,101,102,103]),(17,[75,80,81,82,83,84,85,86,87,88,89,90,91,92,93,94,95,96]),(16,[75,76,77,78,79]),(15,[14,56,68,69,70,71,72,73,74]),(13,[62,63,64,65,66,67]),(12,[14,56,57,58,59,60,61]),(11,[55]),(10,[39,47,48,49,50,51,52,53,54]),(9,[45,46]),(8,[39,40,41,42,43,44]),(7,[32,38]),(6,[0,1,2,3,4,10,11,12,32,33,34,35,36,37]),(5,[25,31]),(4,[0,1,2,3,4,10,11,12,25,26,27,28,29,30]),(3,[24]),(2,[21,22,23])]
theorem ykq:compFn Tryz.prog [] (fun i=>(ywx.lookup i).getD []) Tryz.f102=some ywR.fn:=by kernel_rfl
def yyo:List (Nat×List Nat):=[(1,[0,1,4,7,8,9,10,11,12,13]),(0,[5,6])]
theorem ylk:compFn Tryz.prog [] (fun i=>(yyo.lookup i).getD []) Tryz.f78=some yyB.fn:=by kernel_rfl
def yIy:List (Nat×List Nat):=[(2,[5,15]),(1,[2,3,6,7,8,9,10,11,12,13,14]),(0,[0,1,4])]
theorem yuy:compFn Tryz.prog [2,3] (fun i=>(yIy.lookup i).getD []) Tryz.f79=some ytX.fn:=by kernel_rfl
def yJ4:List (Nat×List Nat):=[(12,[0,4,15,16,17,18,32,33,34,35,36,37,38,39,40,41]),(11,[6,28,31]),(10,[6,28,29,30]),(9,[24,25,26,27]),(8,[0,4,6,15,16,17,24]),(7,[21,22,23]),(6,[18,19,20]),(4,[3]),(3,[14]),(2,[12,13]),(1,[7,8,9,10,11]),(0,[2])]
theorem yyn:compFn Tryz.prog [4,6] (fun i=>(yJ4.lookup i).getD []) Tryz.f48=some ywS.fn:=by kernel_rfl
def yEV:List (Nat×List Nat):=[(3,[0,1,2,8,31,32,33,34,35,36,37,38,39,40,41,42,43,44,45,46,47]),(2,[6,9,21,22,23,24,25,26,27,28,29,30]),(1,[7,10,11,12,13,14,15,16,17,18,19,20]),(0,[5])]
theorem yrt:compFn Tryz.prog [8] (fun i=>(yEV.lookup i).getD []) Tryz.f49=some yjJ.fn:=by kernel_rfl
def yEW:List (Nat×List Nat):=[(1,[0,1,2,6,7,8,9,10,11,12,13,14,15,16,17,18,19,20,21,22,23,24,25,26]),(0,[5])]
theorem yru:compFn Tryz.prog [] (fun i=>(yEW.lookup i).getD []) Tryz.f52=some yjK.fn:=by kernel_rfl
def yEX:List (Nat×List Nat):=[(1,[0,1,2,6,7,8,9,10,11,12,13,14,15,16,17,18,19,20,21,22,23]),(0,[5])]
theorem yrv:compFn Tryz.prog [] (fun i=>(yEX.lookup i).getD []) Tryz.f53=some yjL.fn:=by kernel_rfl
def yEY:List (Nat×List Nat):=[(1,[0,1,2,6,7,8,9,10,11,12,13,14,15,16,17,18,19]),(0,[5])]
theorem yrw:compFn Tryz.prog [] (fun i=>(yEY.lookup i).getD []) Tryz.f54=some yjM.fn:=by kernel_rfl
def yGz:List (Nat×List Nat):=[(13,[2,45,53,54,55,56,57,58]),(12,[2,45,47,48,49,50,51,52]),(11,[10,37,46]),(10,[2,10,37,39,40,41,42,43,44]),(9,[29,38]),(8,[2,10,29,31,32,33,34,35,36]),(7,[11,30]),(6,[7,8,9,25,26,27,28]),(5,[7,8,9,25]),(4,[2,20,21,22,23,24]),(3,[10,11,13,14,15,16,17,18,19]),(2,[12]),(1,[1]),(0,[0,4,5,6])]
theorem ytz:compFn Tryz.prog [] (fun i=>(yGz.lookup i).getD []) Tryz.f23=some ysl.fn:=by kernel_rfl
def yNW:List (Nat×List Nat):=[(14,[6,8,32,33,52]),(13,[9,44,51]),(12,[9,44,45,46,47,48,49,50]),(11,[12,43]),(10,[10,11,35,36,37,38,39,40,41,42]),(9,[33,34]),(6,[7,24,27,28,29,30,31]),(5,[6,7,24,25,26]),(4,[20,23]),(3,[20,21,22]),(2,[19]),(1,[0,3,13,14,15,16,17,18]),(0,[1,5])]
theorem yGw:compFn Tryz.prog [3,4,8,1000003,1000004,1000008] (fun i=>(yNW.lookup i).getD []) Tryz.f7=some yFp.fn:=by kernel_rfl
def yNX:List (Nat×List Nat):=[(17,[1,6,25,26,27,28,76,77]),(16,[8,73,75]),(15,[1,6,8,25,26,27,73,74]),(14,[9,11,12,66,67,68,69,70,71,72]),(13,[10,53,55,56,57,58,59,60,61,62,63,64,65]),(12,[1,6,8,9,10,25,26,27,53,54]),(11,[36,39,40,41,42,43,44,45,46,47,48,49,50,51,52]),(10,[36,37,38]),(9,[34,35]),(8,[32,33]),(7,[28,29,30,31]),(5,[7,21,23,24]),(4,[1,6,7,21,22]),(3,[20]),(2,[17,18,19]),(1,[0,13,14,15,16]),(0,[4,5])]
theorem yGx:compFn Tryz.prog [6,9,11] (fun i=>(yNX.lookup i).getD []) Tryz.f8=some yFq.fn:=by kernel_rfl
def yOV:List (Nat×List Nat):=[(10,[1,5,12,13,14,15,25]),(9,[21,24]),(8,[21,22,23]),(7,[7,18,19,20]),(6,[15,16,17]),(4,[0]),(3,[9]),(2,[0,1,9,10,11]),(1,[8]),(0,[4])]
theorem yIz:compFn Tryz.prog [7] (fun i=>(yOV.lookup i).getD []) Tryz.f9=some yHj.fn:=by kernel_rfl
def ymM:List (Nat×List Nat):=[(10,[1,2,15,16,17,18]),(9,[30,31]),(8,[1,2,15,16,17,30]),(7,[8,9,26,27,28,29]),(6,[7,22,23,24,25]),(5,[18,19,20,21]),(3,[0,14]),(2,[0,1,2,14]),(1,[10,11,12,13]),(0,[6])]
theorem yeG:compFn Tryz.prog [] (fun i=>(ymM.lookup i).getD []) Tryz.f28=some yeC.fn:=by kernel_rfl
def yzv:List (Nat×List Nat):=[(9,[0,1,12,13,14]),(8,[24,25]),(7,[0,1,12,13,24]),(6,[5,16,17,18,19,20,21,22,23]),(5,[14,15]),(3,[10,11]),(2,[0,1,10]),(1,[6,7,8,9]),(0,[4])]
theorem ymi:compFn Tryz.prog [] (fun i=>(yzv.lookup i).getD []) Tryz.f29=some ylV.fn:=by kernel_rfl
def yMk:List (Nat×List Nat):=[(18,[5,8,46,47]),(17,[11,54,63,64]),(16,[5,8,46,63]),(15,[14]),(14,[11,12,13,54,55,56,57,58,59,60,61,62]),(13,[49,50,51,52,53]),(12,[47,48]),(10,[10,40,44]),(9,[5,8,10,44,45]),(8,[43]),(7,[40,41,42]),(6,[36,37,38,39]),(5,[5,8,36]),(4,[9,22,24,25,26,27,28,29,30,31,32,33,34,35]),(3,[5,8,9,22,23]),(2,[21]),(1,[0,4,15,16,17,18,19,20]),(0,[1,2,6,7])]
theorem yCU:compFn Tryz.prog [4,5,1000004,1000005] (fun i=>(yMk.lookup i).getD []) Tryz.f10=some yBx.fn:=by kernel_rfl
def yOW:List (Nat×List Nat):=[(6,[1,3,4,9,32]),(4,[10,11]),(5,[9,12,13,14,15,16,17,18,19,20,21,22,23,24,25,26,27,28,29,30,31]),(3,[5,6,7,8]),(0,[0,2])]
theorem yIA:compFn Tryz.prog [1] (fun i=>(yOW.lookup i).getD []) Tryz.f31=some yHk.fn:=by kernel_rfl
def yPH:List (Nat×List Nat):=[(3,[0,4,10,11]),(2,[0,4,5,6,7,8,9]),(1,[3]),(0,[2])]
theorem yMd:compFn Tryz.prog [] (fun i=>(yPH.lookup i).getD []) Tryz.f58=some yLp.fn:=by kernel_rfl
def yPI:List (Nat×List Nat):=[(3,[0,1,6,11]),(2,[6,7,8,9,10]),(1,[5]),(0,[4])]
theorem yMe:compFn Tryz.prog [] (fun i=>(yPI.lookup i).getD []) Tryz.f59=some yLq.fn:=by kernel_rfl
def yO2:List (Nat×List Nat):=[(6,[8,35,40]),(5,[35,36,37,38,39]),(4,[0]),(3,[4,5,26,28,29,30,31,32,33,34]),(2,[0,4,5,26,27]),(1,[9,10,11,12,13,14,15,16,17,18,19,20,21,22,23,24,25]),(0,[1,2,7])]
theorem yJ5:compFn Tryz.prog [4,5,6,8] (fun i=>(yO2.lookup i).getD []) Tryz.f60=some yJc.fn:=by kernel_rfl
def yO3:List (Nat×List Nat):=[(5,[0,1,6,7,8,19,20,21,22,23,24,25,26,27,28,29,30,31,32,33,34]),(4,[16,17,18]),(3,[10,12,13,14,15]),(2,[0,1,10,11]),(1,[9]),(0,[5])]
theorem yJ6:compFn Tryz.prog [4] (fun i=>(yO3.lookup i).getD []) Tryz.f30=some yJd.fn:=by kernel_rfl
def yO4:List (Nat×List Nat):=[(2,[3,11]),(1,[1,4,5,6,7,8,9,10]),(0,[0])]
theorem yJ7:compFn Tryz.prog [1,2,3] (fun i=>(yO4.lookup i).getD []) Tryz.f11=some yJe.fn:=by kernel_rfl
def yKX:List (Nat×List Nat):=[(9,[0,1,8,12,13,76,77,78,79,80,81,82,83,84,85,86,87,88,89,90,91,92,93,94,95,96,97,98,99,100,101,102,103,104,105,106,107,108,109,110,111,112,113,114,115,116,117,118,119,120]),(8,[5,66,67,68,69,70,71,72,73,74,75]),(7,[0,1,5,8,66]),(6,[6,7,9,10,11,38,39,40,41,42,43,44,45,46,47,48,49,50,51,52,53,54,55,56,57,58,59,60,61,62,63,64,65]),(5,[32,33,34,35,36,37]),(4,[26,27,28,29,30,31]),(3,[17,19,20,21,22,23,24,25]),(2,[0,1,17,18]),(1,[14,15,16]),(0,[4])]
theorem yzw:compFn Tryz.prog [5,8] (fun i=>(yKX.lookup i).getD []) Tryz.f3=some yyC.fn:=by kernel_rfl
theorem tabOk:AllOk Tryz.prog tab:=by
  unfold tab
  simp only [AllOk]
  exact ⟨⟨Tryz.f32,_,_,Tryz.func32,yId⟩,⟨Tryz.f12,_,_,Tryz.func12,yzq⟩,⟨Tryz.f61,_,_,Tryz.func61,yIe⟩,⟨Tryz.f33,_,_,Tryz.func33,yIf⟩,⟨Tryz.f13,_,_,Tryz.func13,yIg⟩,⟨Tryz.f4,_,_,Tryz.func4,yL2⟩,⟨Tryz.f14,_,_,Tryz.func14,yNx⟩,⟨Tryz.f15,_,_,Tryz.func15,yL3⟩,⟨Tryz.f82,_,_,Tryz.func82,yAK⟩,⟨Tryz.f83,_,_,Tryz.func83,yAL⟩,⟨Tryz.f55,_,_,Tryz.func55,yGl⟩,⟨Tryz.f24,_,_,Tryz.func24,yIh⟩,⟨Tryz.f92,_,_,Tryz.func92,yyh⟩,⟨Tryz.f62,_,_,Tryz.func62,yGm⟩,⟨Tryz.f35,_,_,Tryz.func35,yJW⟩,⟨Tryz.f18,_,_,Tryz.func18,yCR⟩,⟨Tryz.f42,_,_,Tryz.func42,yGn⟩,⟨Tryz.f67,_,_,Tryz.func67,yGo⟩,⟨Tryz.f80,_,_,Tryz.func80,yIi⟩,⟨Tryz.f81,_,_,Tryz.func81,yCS⟩,⟨Tryz.f50,_,_,Tryz.func50,yGp⟩,⟨Tryz.f37,_,_,Tryz.func37,yD4⟩,⟨Tryz.f89,_,_,Tryz.func89,yD5⟩,⟨Tryz.f86,_,_,Tryz.func86,yGq⟩,⟨Tryz.f93,_,_,Tryz.func93,yws⟩,⟨Tryz.f64,_,_,Tryz.func64,yD6⟩,⟨Tryz.f94,_,_,Tryz.func94,yyi⟩,⟨Tryz.f65,_,_,Tryz.func65,yuw⟩,⟨Tryz.f66,_,_,Tryz.func66,yL6⟩,⟨Tryz.f95,_,_,Tryz.func95,ywt⟩,⟨Tryz.f69,_,_,Tryz.func69,yty⟩,⟨Tryz.f68,_,_,Tryz.func68,yGr⟩,⟨Tryz.f39,_,_,Tryz.func39,yIk⟩,⟨Tryz.f85,_,_,Tryz.func85,yIl⟩,⟨Tryz.f84,_,_,Tryz.func84,yGs⟩,⟨Tryz.f118,_,_,Tryz.func118,yL7⟩,⟨Tryz.f119,_,_,Tryz.func119,ywu⟩,⟨Tryz.f107,_,_,Tryz.func107,yL8⟩,⟨Tryz.f106,_,_,Tryz.func106,yL9⟩,⟨Tryz.f88,_,_,Tryz.func88,yIm⟩,⟨Tryz.f87,_,_,Tryz.func87,yIn⟩,⟨Tryz.f73,_,_,Tryz.func73,yIo⟩,⟨Tryz.f43,_,_,Tryz.func43,yIp⟩,⟨Tryz.f91,_,_,Tryz.func91,yD7⟩,⟨Tryz.f90,_,_,Tryz.func90,yIq⟩,⟨Tryz.f57,_,_,Tryz.func57,yIr⟩,⟨Tryz.f26,_,_,Tryz.func26,yyj⟩,⟨Tryz.f27,_,_,Tryz.func27,yzr⟩,⟨Tryz.f63,_,_,Tryz.func63,yzs⟩,⟨Tryz.f36,_,_,Tryz.func36,yJZ⟩,⟨Tryz.f56,_,_,Tryz.func56,yGt⟩,⟨Tryz.f25,_,_,Tryz.func25,ywv⟩,⟨Tryz.f38,_,_,Tryz.func38,yIs⟩,⟨Tryz.f19,_,_,Tryz.func19,yD8⟩,⟨Tryz.f70,_,_,Tryz.func70,ymh⟩,⟨Tryz.f40,_,_,Tryz.func40,yCT⟩,⟨Tryz.f20,_,_,Tryz.func20,yyk⟩,⟨Tryz.f6,_,_,Tryz.func6,yGu⟩,⟨Tryz.f17,_,_,Tryz.func17,yIt⟩,⟨Tryz.f34,_,_,Tryz.func34,yJ1⟩,⟨Tryz.f16,_,_,Tryz.func16,yJ2⟩,⟨Tryz.f5,_,_,Tryz.func5,yIu⟩,⟨Tryz.f120,_,_,Tryz.func120,yD9⟩,⟨Tryz.f108,_,_,Tryz.func108,yIv⟩,⟨Tryz.f97,_,_,Tryz.func97,yEa⟩,⟨Tryz.f96,_,_,Tryz.func96,yEb⟩,⟨Tryz.f44,_,_,Tryz.func44,yEc⟩,⟨Tryz.f51,_,_,Tryz.func51,yGv⟩,⟨Tryz.f71,_,_,Tryz.func71,yEd⟩,⟨Tryz.f99,_,_,Tryz.func99,yAM⟩,⟨Tryz.f98,_,_,Tryz.func98,yIw⟩,⟨Tryz.f72,_,_,Tryz.func72,yEe⟩,⟨Tryz.f41,_,_,Tryz.func41,yEf⟩,⟨Tryz.f21,_,_,Tryz.func21,yzu⟩,⟨Tryz.f22,_,_,Tryz.func22,yww⟩,⟨Tryz.f76,_,_,Tryz.func76,yyl⟩,⟨Tryz.f100,_,_,Tryz.func100,ykt⟩,⟨Tryz.f74,_,_,Tryz.func74,yjj⟩,⟨Tryz.f75,_,_,Tryz.func75,yAN⟩,⟨Tryz.f47,_,_,Tryz.func47,yEg⟩,⟨Tryz.f46,_,_,Tryz.func46,yrs⟩,⟨Tryz.f45,_,_,Tryz.func45,yux⟩,⟨Tryz.f101,_,_,Tryz.func101,yoO⟩,⟨Tryz.f77,_,_,Tryz.func77,ymL⟩,⟨Tryz.f117,_,_,Tryz.func117,yMc⟩,⟨Tryz.f103,_,_,Tryz.func103,yOU⟩,⟨Tryz.f109,_,_,Tryz.func109,yh1⟩,⟨Tryz.f102,_,_,Tryz.func102,ykq⟩,⟨Tryz.f78,_,_,Tryz.func78,ylk⟩,⟨Tryz.f79,_,_,Tryz.func79,yuy⟩,⟨Tryz.f48,_,_,Tryz.func48,yyn⟩,⟨Tryz.f49,_,_,Tryz.func49,yrt⟩,⟨Tryz.f52,_,_,Tryz.func52,yru⟩,⟨Tryz.f53,_,_,Tryz.func53,yrv⟩,⟨Tryz.f54,_,_,Tryz.func54,yrw⟩,⟨Tryz.f23,_,_,Tryz.func23,ytz⟩,⟨Tryz.f7,_,_,Tryz.func7,yGw⟩,⟨Tryz.f8,_,_,Tryz.func8,yGx⟩,⟨Tryz.f9,_,_,Tryz.func9,yIz⟩,⟨Tryz.f28,_,_,Tryz.func28,yeG⟩,⟨Tryz.f29,_,_,Tryz.func29,ymi⟩,⟨Tryz.f10,_,_,Tryz.func10,yCU⟩,⟨Tryz.f31,_,_,Tryz.func31,yIA⟩,⟨Tryz.f58,_,_,Tryz.func58,yMd⟩,⟨Tryz.f59,_,_,Tryz.func59,yMe⟩,⟨Tryz.f60,_,_,Tryz.func60,yJ5⟩,⟨Tryz.f30,_,_,Tryz.func30,yJ6⟩,⟨Tryz.f11,_,_,Tryz.func11,yJ7⟩,⟨Tryz.f3,_,_,Tryz.func3,yzw⟩,trivial⟩
theorem hm:Tryz.prog.follows .mixedOrders=true:=by kernel_rfl
theorem isAdd:IsExtern Tryz.prog yjl add64Entry:=⟨_,Tryz.func104,by kernel_rfl,by kernel_rfl,by kernel_rfl,by kernel_rfl⟩
theorem isSub:IsExtern Tryz.prog yjm sub64E:=⟨_,Tryz.func105,by kernel_rfl,by kernel_rfl,by kernel_rfl,by kernel_rfl⟩
theorem k0C:EnvOk Tryz.prog E0C:=by
  refine yMD hm isAdd isSub tabOk ?_
  intro n e b h
  simp only [cloL,List.mem_cons,Prod.mk.injEq,List.not_mem_nil,or_false] at h
  rcases h with ⟨rfl,rfl,rfl⟩
  exact ⟨(.int .i64 (0)),by kernel_rfl⟩
theorem kN:EnvOk Tryz.prog (E []):=yGZ k0C fun e h=>by cases h
theorem ytA:SortsAt Tryz.prog yrP.s yrP.cf yrP.srt where
  size:=yrP.srt_size (yJM _ _)
  pos:=by decide
  enters:=enters_of Tryz.func79 (by kernel_rfl) rfl
  entersN:=enters_of Tryz.func78 (by kernel_rfl) rfl
  law:=fun blk off cap d w hc hH hb hs=>AnyQ.slices_SortFunc_eq Tryz.sortSp 4 Tryz.isAgg90 Tryz.sizeOf90 yrP.s.enc (fun x=>Srt.enc_len x) (fun x=>Srt.enc_one x) yrP.cf (yJM _ _) 79 #[] blk off cap d w (enters_of Tryz.func79 (by kernel_rfl) rfl) hc hH hb hs
theorem kS:EnvOk Tryz.prog (E ef0):=by
  refine yGZ k0C ?_
  intro e h
  simp only [ef0,List.mem_cons,List.not_mem_nil,or_false] at h
  rcases h with rfl
  exact yL1 yrP.s ytA (fun x y=>yKk kN hm (yaa (by kernel_rfl) _) (by kernel_rfl) (yNu [] ya6 x.2 y.2)) (yyw k0C hm 60) (fun H=>by kernel_rfl) (fun H=>by kernel_rfl)
end Go.Proofs.YtegkpannhahmcaaGreatDoor.Cf
