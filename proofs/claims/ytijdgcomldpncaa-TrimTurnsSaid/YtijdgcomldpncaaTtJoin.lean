/- The statement TrimTurns: what the conditions and their plain laws say of the program's functions, joined with the program. -/
import Derived.Test.YtijdgcomldpncaaRows

import Derived.Test.YtijdgcomldpncaaTtW5
import Derived.WalkKit
import Derived.ProofKit
import Derived.OpenShut
import Derived.ReadAgain
import Derived.ChangeBears






namespace Go.Proofs.Ytijdgcomldpncaa.Tt
open Go Go.Pf Go.Pf.Vc Go.ChangeShapes Go.WideShapes Go.ChangeAt Go.RowKit
set_option maxRecDepth 100000
def yHV:List (Nat×List Nat):=[(1,[1,3,4,5,6,7,8,9,10,11,12]),(0,[0,2])]
theorem yA9:yal Try.prog [1] (fun i=>(yHV.lookup i).getD []) Try.f46=some yzX.fn:=by kernel_rfl
def yEb:List (Nat×List Nat):=[(6,[0,3,7,15,16,17]),(3,[8,9,14]),(5,[0,3,14]),(4,[7,10,11,12,13]),(2,[4,5,6]),(0,[2])]
theorem yrG:yal Try.prog [] (fun i=>(yEb.lookup i).getD []) Try.f18=some yqX.fn:=by kernel_rfl
def yHW:List (Nat×List Nat):=[(14,[98]),(13,[98]),(12,[1,3,4,57,97]),(8,[58,59]),(11,[87,88,89,90,91,92,93,94,95,96]),(10,[1,3,4,87]),(9,[57,60,61,62,63,64,65,66,67,68,69,70,71,72,73,74,75,76,77,78,79,80,81,82,83,84,85,86]),(7,[53,54,55,56]),(5,[52]),(4,[1,52]),(3,[13,14,15,16,17,18,19,20,21,22,23,24,25,26,27,28,29,30,31,32,33,34,35,36,37,38,39,40,41,42,43,44,45,46,47,48,49,50,51]),(2,[1,13]),(1,[5,6,7,8,9,10,11,12]),(0,[0,2])]
theorem yBa:yal Try.prog [1] (fun i=>(yHW.lookup i).getD []) Try.f34=some yzY.fn:=by kernel_rfl
def yHX:List (Nat×List Nat):=[(15,[1,4,43]),(12,[44,45,57]),(14,[1,4,57]),(13,[43,46,47,48,49,50,51,52,53,54,55,56]),(11,[39,40,41,42]),(10,[3,23]),(7,[24,25,32]),(9,[1,3,32,33,34,35,36,37,38]),(8,[23,26,27,28,29,30,31]),(6,[19,20,21,22]),(5,[18]),(4,[1,18]),(3,[14,15,16,17]),(2,[1,14]),(1,[5,6,7,8,9,10,11,12,13]),(0,[0,2])]
theorem yBb:yal Try.prog [1] (fun i=>(yHX.lookup i).getD []) Try.f27=some yzZ.fn:=by kernel_rfl
def yJc:List (Nat×List Nat):=[(1,[0,3,4,5,6,7,8,9,10,11]),(0,[2])]
theorem yFb:yal Try.prog [] (fun i=>(yJc.lookup i).getD []) Try.f10=some yED.fn:=by kernel_rfl
def yHY:List (Nat×List Nat):=[(1,[1,2,3,4,5,6,7,8,9,10]),(0,[0])]
theorem yBc:yal Try.prog [1,2,4,5,7,8] (fun i=>(yHY.lookup i).getD []) Try.f28=some yz0.fn:=by kernel_rfl
def yFc:List (Nat×List Nat):=[(8,[0,3,4,15,24]),(6,[16,17]),(7,[15,18,19,20,21,22,23]),(5,[12,13,14]),(3,[7,9,10,11]),(2,[7,8]),(1,[5,6]),(0,[2])]
theorem ysV:yal Try.prog [] (fun i=>(yFc.lookup i).getD []) Try.f104=some yso.fn:=by kernel_rfl
def yFd:List (Nat×List Nat):=[(8,[0,3,4,15,24]),(6,[16,17]),(7,[15,18,19,20,21,22,23]),(5,[12,13,14]),(3,[7,9,10,11]),(2,[7,8]),(1,[5,6]),(0,[2])]
theorem ysW:yal Try.prog [] (fun i=>(yFd.lookup i).getD []) Try.f105=some ysp.fn:=by kernel_rfl
def yGV:List (Nat×List Nat):=[(14,[81]),(13,[81]),(12,[1,49,50,51,66,67,68,69,70,71,72,73,74,75,76,77,78,79,80]),(11,[64,65]),(10,[1,49,50,64]),(9,[4,53,54,55,56,57,58,59,60,61,62,63]),(8,[51,52]),(6,[3,47,48]),(5,[1,3,47]),(4,[14,15,16,17,18,19,20,21,22,23,24,25,26,27,28,29,30,31,32,33,34,35,36,37,38,39,40,41,42,43,44,45,46]),(3,[1,3,14]),(2,[8,9,10,11,12,13]),(1,[5,6,7]),(0,[0,2])]
theorem yyW:yal Try.prog [1] (fun i=>(yGV.lookup i).getD []) Try.f80=some yxo.fn:=by kernel_rfl
def yHZ:List (Nat×List Nat):=[(18,[1,36,37,38,39]),(17,[49,50]),(16,[1,36,37,38,49]),(15,[7,42,43,44,45,46,47,48]),(14,[39,40,41]),(12,[23,24,25,26,35]),(11,[5,32,34]),(10,[1,5,23,24,25,32,33]),(9,[31]),(8,[4,29,30]),(7,[26,27,28]),(5,[21,22]),(4,[1,21]),(3,[17,18,19,20]),(2,[1,17]),(1,[8,9,10,11,12,13,14,15,16]),(0,[0,2])]
theorem yBd:yal Try.prog [1,4,7] (fun i=>(yHZ.lookup i).getD []) Try.f40=some yz1.fn:=by kernel_rfl
def yC4:List (Nat×List Nat):=[(3,[0,4,5,6,7]),(2,[0,4]),(1,[3]),(0,[2])]
theorem yqB:yal Try.prog [] (fun i=>(yC4.lookup i).getD []) Try.f101=some yDI.fn:=by kernel_rfl
def yGW:List (Nat×List Nat):=[(7,[3,6,7,8,9,25]),(6,[24]),(5,[5,12,13,14,15,16,17,18,19,20,21,22,23]),(4,[9,10,11]),(2,[0]),(0,[2])]
theorem yyX:yal Try.prog [22,5] (fun i=>(yGW.lookup i).getD []) Try.f65=some yxp.fn:=by kernel_rfl
def yIv:List (Nat×List Nat):=[(4,[0,4,9,12,13,14]),(3,[0,4,9,10,11]),(2,[8]),(1,[5,6,7]),(0,[3])]
theorem yC5:yal Try.prog [2] (fun i=>(yIv.lookup i).getD []) Try.f31=some yCc.fn:=by kernel_rfl
def yGX:List (Nat×List Nat):=[(0,[0,1,3])]
theorem yyY:yal Try.prog [] (fun i=>(yGX.lookup i).getD []) Try.f33=some ypK.fn:=by kernel_rfl
def yGY:List (Nat×List Nat):=[(1,[0,3,4])]
theorem yyZ:yal Try.prog [2] (fun i=>(yGY.lookup i).getD []) Try.f43=some yxq.fn:=by kernel_rfl
def yEc:List (Nat×List Nat):=[(1,[1,2,5,6,7,8,9,10,11,12,13,14]),(0,[0,4])]
theorem yrH:yal Try.prog [2] (fun i=>(yEc.lookup i).getD []) Try.f120=some yqY.fn:=by kernel_rfl
def yGZ:List (Nat×List Nat):=[(10,[1,5,14,15,16,17,38]),(9,[37]),(8,[6,7,21,22,23,24,25,26,27,28,29,30,31,32,33,34,35,36]),(7,[17,18,19,20]),(5,[13]),(4,[4,11]),(3,[1,4,11,12]),(2,[10]),(1,[8,9]),(0,[0,2,3])]
theorem yy0:yal Try.prog [1] (fun i=>(yGZ.lookup i).getD []) Try.f122=some yxr.fn:=by kernel_rfl
def yH0:List (Nat×List Nat):=[(6,[1,2,16,17,18,19,20,21,22,23,24]),(5,[1,2,16]),(4,[6,10,12,13,14,15]),(3,[1,2,6,10,11]),(2,[9]),(1,[7,8]),(0,[0,4,5])]
theorem yBe:yal Try.prog [2] (fun i=>(yH0.lookup i).getD []) Try.f108=some yz2.fn:=by kernel_rfl
def yG0:List (Nat×List Nat):=[(3,[0,4,8,9]),(2,[0,4,5,6,7]),(1,[3]),(0,[2])]
theorem yy1:yal Try.prog [] (fun i=>(yG0.lookup i).getD []) Try.f81=some yxs.fn:=by kernel_rfl
def yH1:List (Nat×List Nat):=[(3,[0,1,6,11]),(2,[6,7,8,9,10]),(1,[5]),(0,[4])]
theorem yBf:yal Try.prog [] (fun i=>(yH1.lookup i).getD []) Try.f82=some yz3.fn:=by kernel_rfl
def yFt:List (Nat×List Nat):=[(5,[1,2,13,20,21,22,23,24]),(4,[1,2,13,14,15,16,17,18,19]),(3,[0,11]),(2,[0,1,2,11,12]),(1,[8,9,10]),(0,[7])]
theorem yu6:yal Try.prog [6] (fun i=>(yFt.lookup i).getD []) Try.f111=some yub.fn:=by kernel_rfl
def yG1:List (Nat×List Nat):=[(5,[0,1,6,7,8,19,20,21,22,23,24,25,26,27,28,29,30,31,32]),(4,[16,17,18]),(3,[10,12,13,14,15]),(2,[0,1,10,11]),(1,[9]),(0,[5])]
theorem yy2:yal Try.prog [4] (fun i=>(yG1.lookup i).getD []) Try.f109=some yxt.fn:=by kernel_rfl
def yG2:List (Nat×List Nat):=[(3,[7,23]),(2,[2,5,8,15,16,17,18,19,20,21,22]),(1,[1,6,9,10,11,12,13,14]),(0,[0])]
theorem yy3:yal Try.prog [2,4,7] (fun i=>(yG2.lookup i).getD []) Try.f85=some yxu.fn:=by kernel_rfl
def yGQ:List (Nat×List Nat):=[(3,[25]),(2,[25]),(1,[1,3,4,5,6,7,8,9,10,11,12,13,14,15,16,17,18,19,20,21,22,23,24]),(0,[0,2])]
theorem yvY:yal Try.prog [1] (fun i=>(yGQ.lookup i).getD []) Try.f41=some yvb.fn:=by kernel_rfl
def yG3:List (Nat×List Nat):=[(1,[0,3,4])]
theorem yy4:yal Try.prog [2] (fun i=>(yG3.lookup i).getD []) Try.f129=some yxv.fn:=by kernel_rfl
def yBC:List (Nat×List Nat):=[(8,[3,6,7,8,9,17]),(7,[5,14,16]),(6,[3,5,6,7,8,14,15]),(5,[12,13]),(4,[9,10,11]),(2,[0]),(0,[2])]
theorem yph:yal Try.prog [] (fun i=>(yBC.lookup i).getD []) Try.f116=some yoM.fn:=by kernel_rfl
def yGR:List (Nat×List Nat):=[(1,[2,3,5,6,7,8,9,10]),(0,[0,1,4])]
theorem yvZ:yal Try.prog [9,2,3] (fun i=>(yGR.lookup i).getD []) Try.f93=some yvc.fn:=by kernel_rfl
def yC6:List (Nat×List Nat):=[(1,[0,3,4,5]),(0,[2])]
theorem yqC:yal Try.prog [] (fun i=>(yC6.lookup i).getD []) Try.f117=some ypL.fn:=by kernel_rfl
def yBg:List (Nat×List Nat):=[(13,[19]),(12,[19]),(11,[0,1,16,17,18]),(10,[0,1,16]),(9,[13,14,15]),(8,[0,1,13]),(7,[6,11]),(6,[12]),(5,[12]),(4,[0,1,6,11]),(3,[5]),(2,[9,10]),(1,[7,8]),(0,[4])]
theorem ynH:yal Try.prog [] (fun i=>(yBg.lookup i).getD []) Try.f94=some yno.fn:=by kernel_rfl
def yJd:List (Nat×List Nat):=[(11,[0,1,48,49,50]),(10,[7,9,12,13,40,41,42,43,44,45,46,47]),(9,[6,35,36,37,38,39]),(8,[11,33,34]),(7,[31,32]),(6,[8,10,25,26,27,28,29,30]),(5,[22,23,24]),(4,[20,21]),(3,[18,19]),(2,[16,17]),(1,[14,15]),(0,[4,5])]
theorem yFe:yal Try.prog [] (fun i=>(yJd.lookup i).getD []) Try.f95=some yEE.fn:=by kernel_rfl
def yBD:List (Nat×List Nat):=[(1,[0,3,4,5]),(0,[2])]
theorem ypi:yal Try.prog [] (fun i=>(yBD.lookup i).getD []) Try.f118=some yoN.fn:=by kernel_rfl
def yzc:List (Nat×List Nat):=[(13,[19]),(12,[19]),(11,[0,1,16,17,18]),(10,[0,1,16]),(9,[13,14,15]),(8,[0,1,13]),(7,[6,11]),(6,[12]),(5,[12]),(4,[0,1,6,11]),(3,[5]),(2,[9,10]),(1,[7,8]),(0,[4])]
theorem ymP:yal Try.prog [] (fun i=>(yzc.lookup i).getD []) Try.f97=some ylI.fn:=by kernel_rfl
def yG4:List (Nat×List Nat):=[(8,[3,6,7,8,9,17]),(7,[5,14,16]),(6,[3,5,6,7,8,14,15]),(5,[12,13]),(4,[9,10,11]),(2,[0]),(0,[2])]
theorem yy5:yal Try.prog [] (fun i=>(yG4.lookup i).getD []) Try.f96=some yxw.fn:=by kernel_rfl
def yH2:List (Nat×List Nat):=[(11,[11,60,63]),(10,[60,61,62]),(9,[2,58,59]),(8,[7,8,9,10,50,51,52,53,54,55,56,57]),(7,[3,40,41,42,43,44,45,46,47,48,49]),(6,[24,30,31,32,33,34,35,36,37,38,39]),(5,[2,3,24,25,26,27,28,29]),(4,[6,16,18,19,20,21,22,23]),(3,[2,3,6,16,17]),(2,[15]),(1,[12,13,14]),(0,[0,1,4,5])]
theorem yBh:yal Try.prog [56,2,3] (fun i=>(yH2.lookup i).getD []) Try.f58=some yz4.fn:=by kernel_rfl
def yH3:List (Nat×List Nat):=[(2,[5,13,14]),(1,[2,3,6,7,8,9,10,11,12]),(0,[0,1,4])]
theorem yBi:yal Try.prog [2,3] (fun i=>(yH3.lookup i).getD []) Try.f128=some yz5.fn:=by kernel_rfl
def yG5:List (Nat×List Nat):=[(1,[2,3,5,6,7,8,9,10,11,12,13,14,15,16,17,18,19,20]),(0,[0,1,4])]
theorem yy6:yal Try.prog [2,3] (fun i=>(yG5.lookup i).getD []) Try.f125=some yxx.fn:=by kernel_rfl
def yJe:List (Nat×List Nat):=[(10,[0,14,19,20,21,22,23,24]),(9,[17,18]),(8,[14,15,16]),(7,[8,13]),(6,[11,12]),(5,[8,9,10]),(4,[4,7]),(2,[2,4,5,6]),(1,[3])]
theorem yFf:yal Try.prog [] (fun i=>(yJe.lookup i).getD []) Try.f130=some yEF.fn:=by kernel_rfl
def yBE:List (Nat×List Nat):=[(1,[0,3,4,5]),(0,[2])]
theorem ypj:yal Try.prog [] (fun i=>(yBE.lookup i).getD []) Try.f124=some yoO.fn:=by kernel_rfl
def yJf:List (Nat×List Nat):=[(28,[2,8,9,10,14,15,16,17,18,113,120,121,122,123,124,125,126,127,128,129,130,131,132,133,134]),(27,[119]),(26,[116,117,118]),(25,[113,114,115]),(24,[102,103,104,105,106,107,108,109,110,111,112,120]),(23,[97,98,99,100,101]),(22,[94,95,96]),(21,[11,13,16,78,85,86,87,88,89,90,91,92,93]),(20,[84]),(19,[81,82,83]),(18,[78,79,80]),(17,[67,68,69,70,71,72,73,74,75,76,77,85]),(16,[62,63,64,65,66]),(15,[59,60,61]),(14,[12,57,58]),(13,[55,56]),(12,[1,52,53,54]),(11,[0,44,45,46,47,48,49,50,51]),(10,[42,43]),(9,[40,41]),(8,[37,38,39]),(7,[27,34,35,36]),(6,[0,1,2,27,28,29,30,31,32,33]),(5,[24,26]),(4,[24,25]),(3,[20,22,23]),(2,[20,21]),(1,[19]),(0,[6,7])]
theorem yFg:yal Try.prog [] (fun i=>(yJf.lookup i).getD []) Try.f115=some yEG.fn:=by kernel_rfl
def yJg:List (Nat×List Nat):=[(2,[8,18]),(1,[0,1,2,7,9,10,11,12,13,14,15,16,17]),(0,[6])]
theorem yFh:yal Try.prog [] (fun i=>(yJg.lookup i).getD []) Try.f114=some yEH.fn:=by kernel_rfl
def yH4:List (Nat×List Nat):=[(26,[12,17,20,153,155,156,157,158,159,160]),(25,[12,17,20,153,154]),(24,[19,152]),(23,[2,3,7,16,138,139,140,141,142,143,144,145,146,147,148,149,150,151]),(22,[13,14,18,129,131,132,133,134,135,136,137]),(21,[2,3,7,12,13,14,16,129,130]),(20,[127,128]),(19,[119,121,122,123,124,125,126]),(18,[2,3,7,12,13,14,119,120]),(17,[114,115,116,117,118]),(16,[8,10,15,107,108,109,110,111,112,113]),(15,[9,11,94,101,102,103,104,105,106]),(14,[99,100]),(13,[94,95,96,97,98]),(12,[68,82,83,84,85,86,87,88,89,90,91,92,93]),(11,[8,10,15,75,76,77,78,79,80,81]),(10,[9,11,68,69,70,71,72,73,74]),(9,[62,63,64,65,66,67]),(8,[13,14,15]),(7,[59,60,61]),(6,[47,48,49,50,51,52,53,54,55,56,57,58]),(5,[35,36,37,38,39,40,41,42,43,44,45,46]),(4,[6,25,28,29,30,31,32,33,34]),(3,[2,3,6,25,26,27]),(2,[24]),(1,[21,22,23]),(0,[0,1,5])]
theorem yBj:yal Try.prog [2,3,4] (fun i=>(yH4.lookup i).getD []) Try.f91=some yz6.fn:=by kernel_rfl
def yH5:List (Nat×List Nat):=[(5,[2,3,18,19,20,21,22]),(4,[6,11,14,15,16,17]),(3,[2,3,6,11,12,13]),(2,[10]),(1,[7,8,9]),(0,[0,1,5])]
theorem yBk:yal Try.prog [2,3,4] (fun i=>(yH5.lookup i).getD []) Try.f89=some yz7.fn:=by kernel_rfl
def yH6:List (Nat×List Nat):=[(10,[2,3,14,16,65,67,68,69,70,71,72,73,74,75,76,77,78,79,80,81,82]),(9,[2,3,14,16,65,66]),(8,[13,15,62,63,64]),(7,[8,10,11,12,52,53,54,55,56,57,58,59,60,61]),(6,[7,9,42,43,44,45,46,47,48,49,50,51]),(5,[36,37,38,39,40,41]),(4,[6,21,24,25,26,27,28,29,30,31,32,33,34,35]),(3,[2,3,6,21,22,23]),(2,[20]),(1,[17,18,19]),(0,[0,1,5])]
theorem yBl:yal Try.prog [2,3,4] (fun i=>(yH6.lookup i).getD []) Try.f90=some yz8.fn:=by kernel_rfl
def yH7:List (Nat×List Nat):=[(8,[2,3,19,34,35,36,37,38,39,40,41,42]),(7,[2,3,19,23,24,25,26,27,28,29,30,31,32,33]),(6,[14,20,21,22]),(5,[2,3,14,18]),(4,[6,11,15,16,17]),(3,[2,3,6,11,12,13]),(2,[10]),(1,[7,8,9]),(0,[0,1,5])]
theorem yBm:yal Try.prog [2,3,4] (fun i=>(yH7.lookup i).getD []) Try.f92=some yz9.fn:=by kernel_rfl
def yGS:List (Nat×List Nat):=[(12,[5,6,7,14,15,41,48]),(11,[6,7,14,41,42,43,44,45,46,47]),(10,[40]),(9,[3,4,9,20,33,34,35,36,37,38,39]),(8,[5,13,29,31,32]),(7,[5,29,30]),(6,[28]),(5,[4,12,27]),(4,[3,6,7,9,20,21,22,23,24,25,26]),(3,[17,18,19]),(2,[3,4,5,6,7,9,17]),(1,[16]),(0,[0,1,2,8,11])]
theorem yv0:yal Try.prog [7,8,9,12,14] (fun i=>(yGS.lookup i).getD []) Try.f127=some ynW.fn:=by kernel_rfl
def yH8:List (Nat×List Nat):=[(18,[2,3,4,14,15,16,17]),(17,[8,9,31,61]),(16,[9,59,60]),(15,[2,3,4,9,14,15,16,59]),(14,[8,10,12,34,52,54,55,56,57,58]),(13,[2,3,4,8,9,10,12,14,15,16,52,53]),(12,[51]),(11,[11,42,44,45,46,47,48,49,50]),(10,[2,3,4,8,9,10,11,12,14,15,16,42,43]),(9,[41]),(8,[34,35,36,37,38,39,40]),(7,[33]),(6,[31,32]),(5,[28,29,30]),(4,[7,21,22,23,24,25,26,27]),(3,[17,18,19,20]),(1,[13]),(0,[0,1,6])]
theorem yBn:yal Try.prog [3,4,9,10,11] (fun i=>(yH8.lookup i).getD []) Try.f126=some yAa.fn:=by kernel_rfl
def yH9:List (Nat×List Nat):=[(15,[9,10,45,48]),(14,[9,10,45,46,47]),(13,[11,42,44]),(12,[11,42,43]),(11,[41]),(10,[3,4,5,37,38,39,40]),(8,[35]),(7,[3,4,5,35,36]),(6,[31,33,34]),(5,[3,4,5,31,32]),(4,[8,15,18,19,20,21,22,23,24,25,26,27,28,29,30]),(3,[3,4,5,8,15,16,17]),(2,[14]),(1,[12,13]),(0,[0,1,2,7])]
theorem yBo:yal Try.prog [3,4,6] (fun i=>(yH9.lookup i).getD []) Try.f121=some yAb.fn:=by kernel_rfl
def yC7:List (Nat×List Nat):=[(1,[1,4,6,7,10,11,12,13,14,15,16,17,18,19,20]),(0,[0,2,3,9])]
theorem yqD:yal Try.prog [4,6,7,8] (fun i=>(yC7.lookup i).getD []) Try.f107=some ypM.fn:=by kernel_rfl
def yEd:List (Nat×List Nat):=[(13,[3,4,10,12,59,60,61,62,63,64,65,66,67,68,69,70,71,72]),(12,[53,54,55,56,57,58]),(11,[48,51,52]),(10,[3,4,10,48,49,50]),(9,[11,40,44,45,46,47]),(8,[3,4,10,11,40,41,42,43]),(7,[39]),(6,[2,25,28,29,30,31,32,33,34,35,36,37,38]),(5,[2,3,4,25,26,27]),(4,[9,17,21,22,23,24]),(3,[2,3,4,9,17,18,19,20]),(2,[16]),(1,[13,14,15]),(0,[0,1,8])]
theorem yrI:yal Try.prog [69,3,4,6,7,10] (fun i=>(yEd.lookup i).getD []) Try.f106=some yjm.fn:=by kernel_rfl
def yIw:List (Nat×List Nat):=[(2,[1,6,7,11,14,15,16,17,18,19,20,21,22,23,24]),(1,[4,12,13]),(0,[0,2,3,10])]
theorem yC8:yal Try.prog [4,6,7,8,9,11] (fun i=>(yIw.lookup i).getD []) Try.f84=some yCd.fn:=by kernel_rfl
def yFu:List (Nat×List Nat):=[(4,[0,1,3,6,7,8,21,27]),(3,[0,1,3,6,7,21,22,23,24,25,26]),(2,[20]),(1,[2,9,10,11,12,13,14,15,16,17,18,19]),(0,[5])]
theorem yu7:yal Try.prog [6,7] (fun i=>(yFu.lookup i).getD []) Try.f83=some yuc.fn:=by kernel_rfl
def yG6:List (Nat×List Nat):=[(28,[3,5,9,10,42,43,44,45,105]),(27,[13,70,104]),(26,[13,15,100,103]),(25,[3,5,9,10,13,15,42,43,44,100,101,102]),(24,[99]),(23,[16,90,93,94,95,96,97,98]),(22,[3,5,9,10,13,15,16,42,43,44,90,91,92]),(21,[89]),(20,[12,14,79,82,83,84,85,86,87,88]),(19,[3,5,9,10,12,13,14,15,42,43,44,79,80,81]),(18,[78]),(17,[67,72,73,74,75,76,77]),(16,[13,70,71]),(15,[12,67,68,69]),(14,[58,60,61,62,63,64,65,66]),(13,[58,59]),(12,[56,57]),(11,[11,49,50,51,52,53,54,55]),(10,[45,46,47,48]),(8,[41]),(7,[4,40]),(6,[37,39]),(5,[3,4,5,37,38]),(4,[8,20,23,24,25,26,27,28,29,30,31,32,33,34,35,36]),(3,[3,4,5,8,20,21,22]),(2,[19]),(1,[17,18]),(0,[0,1,2,7])]
theorem yy7:yal Try.prog [3,4,5,6,9,10,13,14,16] (fun i=>(yG6.lookup i).getD []) Try.f123=some yxy.fn:=by kernel_rfl
def yBF:List (Nat×List Nat):=[(1,[1,4,6,7,10,11,12,13,14,15,16,17,18,19,20]),(0,[0,2,3,9])]
theorem ypk:yal Try.prog [4,6,7,8] (fun i=>(yBF.lookup i).getD []) Try.f110=some yoP.fn:=by kernel_rfl
def yIa:List (Nat×List Nat):=[(2,[1,6,7,11,14,15,16,17,18,19,20,21,22,23,24]),(1,[4,12,13]),(0,[0,2,3,10])]
theorem yBp:yal Try.prog [4,6,7,8,9,11] (fun i=>(yIa.lookup i).getD []) Try.f86=some yAc.fn:=by kernel_rfl
def yIb:List (Nat×List Nat):=[(2,[5,13,14]),(1,[2,3,6,7,8,9,10,11,12]),(0,[0,1,4])]
theorem yBq:yal Try.prog [2,3] (fun i=>(yIb.lookup i).getD []) Try.f42=some yAd.fn:=by kernel_rfl
def yG7:List (Nat×List Nat):=[(18,[1,3,5,9,10,11,12,29,30,31,32,38,76,77]),(17,[12,16,62,71,75]),(16,[1,3,5,9,10,16,29,30,31,71,72,73,74]),(15,[70]),(14,[12,40,67,68,69]),(13,[62,63,64,65,66]),(12,[14,57,58,59,60,61]),(11,[13,15,52,56]),(10,[1,3,5,9,10,12,13,14,15,29,30,31,52,53,54,55]),(9,[51]),(8,[40,41,42,43,44,45,46,47,48,49,50]),(7,[11,38,39]),(6,[36,37]),(5,[32,33,34,35]),(2,[28]),(1,[17,18,19,20,21,22,23,24,25,26,27]),(0,[0,2,8])]
theorem yy8:yal Try.prog [6,7,13,14] (fun i=>(yG7.lookup i).getD []) Try.f45=some yxz.fn:=by kernel_rfl
def yC9:List (Nat×List Nat):=[(1,[0,1,4,5,6,7]),(0,[3])]
theorem yqE:yal Try.prog [] (fun i=>(yC9.lookup i).getD []) Try.f68=some yid.fn:=by kernel_rfl
def yy9:List (Nat×List Nat):=[(7,[0,1,7,8,9]),(6,[5,16,18]),(5,[0,1,5,7,8,16,17]),(4,[11,12,13,14,15]),(3,[9,10]),(1,[6]),(0,[4])]
theorem ylq:yal Try.prog [] (fun i=>(yy9.lookup i).getD []) Try.f102=some ylj.fn:=by kernel_rfl
def ywS:List (Nat×List Nat):=[(12,[0,5,39,40,41]),(11,[1,6,19,36,37,38]),(6,[7,20,21,29]),(10,[34,35]),(9,[7,29,30,31,32,33]),(8,[26,27,28]),(7,[19,22,23,24,25]),(5,[16,17,18]),(4,[12,14,15]),(3,[0,1,5,12,13]),(2,[11]),(1,[8,9,10]),(0,[4])]
theorem yk4:yal Try.prog [] (fun i=>(ywS.lookup i).getD []) Try.f67=some yj8.fn:=by kernel_rfl
def yFi:List (Nat×List Nat):=[(15,[52]),(14,[6]),(13,[8,49,50,51]),(12,[7,45,46,47,48]),(11,[9,37,41,42,43,44]),(10,[0,1,2,4,6,7,8,9,37,38,39,40]),(9,[36]),(8,[27,28,29,30,31,32,33,34,35]),(7,[25,26]),(6,[15,16,17,24]),(5,[23]),(4,[5,19,20,21,22]),(3,[17,18]),(1,[14]),(0,[10,11,12,13]),(999999,[1])]
theorem ysX:yal Try.prog [6,7,6] (fun i=>(yFi.lookup i).getD []) Try.f66=some yFs.fn:=by kernel_rfl
def yGT:List (Nat×List Nat):=[(1,[2,3,5]),(0,[0,1,4])]
theorem yv1:yal Try.prog [] (fun i=>(yGT.lookup i).getD []) Try.f32=some ynX.fn:=by kernel_rfl
def yIx:List (Nat×List Nat):=[(14,[50,53,54,55]),(13,[50,51,52]),(12,[1,24,48,49]),(11,[1,44,45,46,47]),(10,[8,33,34,35,36,37,38,39,40,41,42,43]),(9,[7,31,32]),(8,[27,28,29,30]),(7,[26]),(6,[24,25]),(5,[6,22,23]),(4,[15,18,19,20,21]),(3,[1,6,15,16,17]),(2,[14]),(1,[9,10,11,12,13]),(0,[0])]
theorem yDa:yal Try.prog [29,42,6,1000002,1000003] (fun i=>(yIx.lookup i).getD []) Try.f12=some yCg.fn:=by kernel_rfl
def yG8:List (Nat×List Nat):=[(3,[0,9,10,11,12,13]),(2,[0,9]),(1,[4,5,6,7,8]),(0,[2,3])]
theorem yza:yal Try.prog [] (fun i=>(yG8.lookup i).getD []) Try.f29=some yxA.fn:=by kernel_rfl
def yJo:List (Nat×List Nat):=[(1,[0,3,4])]
theorem yGU:yal Try.prog [2] (fun i=>(yJo.lookup i).getD []) Try.f13=some yF7.fn:=by kernel_rfl
def yFj:List (Nat×List Nat):=[(8,[0,1,5,14]),(5,[15,16,25]),(7,[0,1,5,25]),(6,[14,17,18,19,20,21,22,23,24]),(4,[11,12,13]),(3,[10]),(2,[0,1,10]),(1,[6,7,8,9]),(0,[4])]
theorem ysY:yal Try.prog [] (fun i=>(yFj.lookup i).getD []) Try.f30=some ysq.fn:=by kernel_rfl
def yIc:List (Nat×List Nat):=[(4,[2,3,4,5,6,7,8,9,10,26,27,28,29,30,31,32,33,34,35,36,37,38,39,40,41,42,43,44,45,46,47,48,49,50,51,52,53,54]),(3,[22,23,24,25]),(2,[18,19,20,21]),(1,[1,11,12,13,14,15,16,17]),(0,[0])]
theorem yBr:yal Try.prog [39,1,7,8,9,10] (fun i=>(yIc.lookup i).getD []) Try.f11=some yAf.fn:=by kernel_rfl
def yJh:List (Nat×List Nat):=[(3,[0,4,10,11]),(2,[0,4,5,6,7,8,9]),(1,[3]),(0,[2])]
theorem yFk:yal Try.prog [] (fun i=>(yJh.lookup i).getD []) Try.f63=some yEI.fn:=by kernel_rfl
def yJi:List (Nat×List Nat):=[(3,[0,1,6,11]),(2,[6,7,8,9,10]),(1,[5]),(0,[4])]
theorem yFl:yal Try.prog [] (fun i=>(yJi.lookup i).getD []) Try.f75=some yEJ.fn:=by kernel_rfl
def yId:List (Nat×List Nat):=[(3,[30]),(2,[30]),(1,[1,3,4,5,6,7,8,9,10,11,12,13,14,15,16,17,18,19,20,21,22,23,24,25,26,27,28,29]),(0,[0,2])]
theorem yBs:yal Try.prog [1] (fun i=>(yId.lookup i).getD []) Try.f69=some yAg.fn:=by kernel_rfl
def yIe:List (Nat×List Nat):=[(5,[5,7,9,10,11,35,36,37,38,39,40,41,42,43,44,45,46,47,48,49]),(4,[6,26,27,28,29,30,31,32,33,34]),(3,[8,20,21,22,23,24,25]),(2,[1,16,17,18,19]),(1,[0,12,13,14,15])]
theorem yBt:yal Try.prog [4] (fun i=>(yIe.lookup i).getD []) Try.f62=some yAh.fn:=by kernel_rfl
def yIy:List (Nat×List Nat):=[(1,[2,3,5,6,7,8,9,10,11,12,13,14,15,16,17,18,19,20,21,22,23]),(0,[0,1,4])]
theorem yDb:yal Try.prog [2,3] (fun i=>(yIy.lookup i).getD []) Try.f64=some yCh.fn:=by kernel_rfl
def yIz:List (Nat×List Nat):=[(6,[5,6,33,37,38,39]),(5,[5,6,33,34,35,36]),(4,[2,31,32]),(3,[3,13,17,18,19,20,21,22,23,24,25,26,27,28,29,30]),(2,[2,3,13,14,15,16]),(1,[7,8,9,10,11,12]),(0,[0,1,4])]
theorem yDc:yal Try.prog [2,3,5,6] (fun i=>(yIz.lookup i).getD []) Try.f26=some yCi.fn:=by kernel_rfl
def yIf:List (Nat×List Nat):=[(1,[0,3,5,6,7,8,9,10,11,12,13,14,15,16,17,18,19]),(0,[1,4])]
theorem yBu:yal Try.prog [3] (fun i=>(yIf.lookup i).getD []) Try.f35=some yAi.fn:=by kernel_rfl
def yIg:List (Nat×List Nat):=[(3,[2,3,7,9]),(2,[2,3,7,8]),(1,[5,6]),(0,[0,1])]
theorem yBv:yal Try.prog [2,3,4] (fun i=>(yIg.lookup i).getD []) Try.f70=some yAj.fn:=by kernel_rfl
def yG9:List (Nat×List Nat):=[(3,[2,3,7,9]),(2,[2,3,7,8]),(1,[5,6]),(0,[0,1])]
theorem yzb:yal Try.prog [2,3,4] (fun i=>(yG9.lookup i).getD []) Try.f71=some yxB.fn:=by kernel_rfl
def yIA:List (Nat×List Nat):=[(3,[2,3,7,10,11]),(2,[2,3,7,8,9]),(1,[5,6]),(0,[0,1,4])]
theorem yDd:yal Try.prog [2,3] (fun i=>(yIA.lookup i).getD []) Try.f74=some yCj.fn:=by kernel_rfl
def yJj:List (Nat×List Nat):=[(2,[1,7]),(1,[3,4,5,6]),(0,[0])]
theorem yFm:yal Try.prog [1,2] (fun i=>(yJj.lookup i).getD []) Try.f103=some yEK.fn:=by kernel_rfl
def yIB:List (Nat×List Nat):=[(5,[5,6,20,23,24,25]),(4,[20,21,22]),(3,[2,17,18,19]),(2,[3,12,13,14,15,16]),(1,[7,8,9,10,11]),(0,[0,1])]
theorem yDe:yal Try.prog [2,3,4] (fun i=>(yIB.lookup i).getD []) Try.f76=some yCk.fn:=by kernel_rfl
def yIh:List (Nat×List Nat):=[(4,[2,3,5,15,18,19,20,21,22,23,24]),(3,[15,16,17]),(2,[11,12,13,14]),(1,[6,7,8,9,10]),(0,[0,1])]
theorem yBw:yal Try.prog [2,3,4] (fun i=>(yIh.lookup i).getD []) Try.f77=some yAk.fn:=by kernel_rfl
def yIi:List (Nat×List Nat):=[(14,[1,2,6,7,8,11,45,46]),(5,[12,13,37]),(13,[41,42,43,44]),(12,[37,38,39,40]),(11,[35,36]),(10,[32,33,34]),(9,[9,21,28,29,30,31]),(8,[21,22,23,24,25,26,27]),(7,[20]),(6,[11,14,15,16,17,18,19]),(4,[10]),(0,[0,5])]
theorem yBx:yal Try.prog [2,4,6] (fun i=>(yIi.lookup i).getD []) Try.f78=some yAl.fn:=by kernel_rfl
def yIC:List (Nat×List Nat):=[(6,[8,35,40]),(5,[35,36,37,38,39]),(4,[0]),(3,[4,5,26,28,29,30,31,32,33,34]),(2,[0,4,5,26,27]),(1,[9,10,11,12,13,14,15,16,17,18,19,20,21,22,23,24,25]),(0,[1,2,7])]
theorem yDf:yal Try.prog [4,5,6,8] (fun i=>(yIC.lookup i).getD []) Try.f79=some yCl.fn:=by kernel_rfl
def yJk:List (Nat×List Nat):=[(17,[2,3,6,9,13,14,93,94,95,96,97,98,99,100,101,102,103,104,105,106,107,108]),(16,[10,15,87,88,89,90,91,92]),(15,[12,84,85,86]),(14,[11,76,78,79,80,81,82,83]),(13,[2,3,6,9,10,76,77]),(12,[7,8,61,67,74,75]),(11,[71,72,73]),(10,[7,8,9,67,68,69,70]),(9,[65,66]),(8,[61,62,63,64]),(7,[55,56,57,58,59,60]),(6,[52,53,54]),(5,[49,50,51]),(4,[31,32,33,34,35,36,37,38,39,40,41,42,43,44,45,46,47,48]),(3,[19,24,25,26,27,28,29,30]),(2,[2,3,19,20,21,22,23]),(1,[16,17,18]),(0,[0,1,5])]
theorem yFn:yal Try.prog [2,3,4,7,8,10,11,14] (fun i=>(yJk.lookup i).getD []) Try.f37=some yEL.fn:=by kernel_rfl
def yJl:List (Nat×List Nat):=[(3,[2,3,9,14,15,16,17,18,19]),(2,[2,3,9,10,11,12,13]),(1,[6,7,8]),(0,[0,1,5])]
theorem yFo:yal Try.prog [2,3,4] (fun i=>(yJl.lookup i).getD []) Try.f72=some yEM.fn:=by kernel_rfl
def yJm:List (Nat×List Nat):=[(4,[2,3,6,7,30,31,32,33,34,35,36,37,38,39,40,41,42,43,44,45,46,47,48,49,50,51,52,53,54,55,56,57,58,59,60,61,62,63,64,65,66,67,68,69,70,71]),(3,[11,16,17,18,19,20,21,22,23,24,25,26,27,28,29]),(2,[2,3,11,12,13,14,15]),(1,[8,9,10]),(0,[0,1,5])]
theorem yFp:yal Try.prog [2,3,4] (fun i=>(yJm.lookup i).getD []) Try.f73=some yEN.fn:=by kernel_rfl
def yIj:List (Nat×List Nat):=[(7,[1,4,12,13,51,54,55,56,57,58,59,60,61,62,63]),(6,[1,4,12,13,51,52,53]),(5,[50]),(4,[10,11,42,44,45,46,47,48,49]),(3,[1,4,10,11,42,43]),(2,[31,32,33,34,35,36,37,38,39,40,41]),(1,[6,7,14,15,16,17,18,19,20,21,22,23,24,25,26,27,28,29,30]),(0,[0,2,3,9])]
theorem yBy:yal Try.prog [4,6,7,8,10,11,12] (fun i=>(yIj.lookup i).getD []) Try.f36=some yAm.fn:=by kernel_rfl
def yIk:List (Nat×List Nat):=[(15,[3,4,5,8,9,41,66]),(8,[11,42,43,63]),(14,[3,4,5,8,9,11,63,64,65]),(13,[62]),(12,[10,53,56,57,58,59,60,61]),(11,[3,4,5,8,9,10,11,53,54,55]),(10,[52]),(9,[41,44,45,46,47,48,49,50,51]),(7,[37,38,39,40]),(5,[34,36]),(4,[3,4,5,34,35]),(3,[14,18,19,20,21,22,23,24,25,26,27,28,29,30,31,32,33]),(2,[3,4,5,14,15,16,17]),(1,[12,13]),(0,[0,1,2,7])]
theorem yBz:yal Try.prog [3,4,5,6,8,10] (fun i=>(yIk.lookup i).getD []) Try.f14=some yAn.fn:=by kernel_rfl
def yIl:List (Nat×List Nat):=[(6,[1,3,4,9,32]),(4,[10,11]),(5,[9,12,13,14,15,16,17,18,19,20,21,22,23,24,25,26,27,28,29,30,31]),(3,[5,6,7,8]),(0,[0,2])]
theorem yBA:yal Try.prog [1] (fun i=>(yIl.lookup i).getD []) Try.f39=some yAo.fn:=by kernel_rfl
def yID:List (Nat×List Nat):=[(5,[0,1,6,7,8,19,20,21,22,23,24,25,26,27,28,29,30,31,32,33,34]),(4,[16,17,18]),(3,[10,12,13,14,15]),(2,[0,1,10,11]),(1,[9]),(0,[5])]
theorem yDg:yal Try.prog [4] (fun i=>(yID.lookup i).getD []) Try.f38=some yCm.fn:=by kernel_rfl
def yIm:List (Nat×List Nat):=[(2,[5,20]),(1,[1,2,6,7,8,9,10,11,12,13,14,15,16,17,18,19]),(0,[0])]
theorem yBB:yal Try.prog [2,4,5] (fun i=>(yIm.lookup i).getD []) Try.f15=some yAp.fn:=by kernel_rfl
def yFq:List (Nat×List Nat):=[(19,[0,3,4,7,8,9,48,156,157,158,159,160,161,162,163,164,165]),(10,[49,50]),(18,[10,153,154,155]),(17,[0,3,4,7,8,9,10,153]),(16,[11,12,136,137,138,139,140,141,142,143,144,145,146,147,148,149,150,151,152]),(15,[123,124,125,126,127,128,129,130,131,132,133,134,135]),(14,[118,119,120,121,122]),(13,[0,3,4,7,8,9,10,118]),(12,[55,56,57,58,59,60,61,62,63,64,65,66,67,68,69,70,71,72,73,74,75,76,77,78,79,80,81,82,83,84,85,86,87,88,89,90,91,92,93,94,95,96,97,98,99,100,101,102,103,104,105,106,107,108,109,110,111,112,113,114,115,116,117]),(11,[48,51,52,53,54]),(9,[45,46,47]),(7,[42,43,44]),(6,[40,41]),(5,[0,3,4,40]),(4,[6,24,25,26,27,28,29,30,31,32,33,34,35,36,37,38,39]),(3,[5,15,17,18,19,20,21,22,23]),(2,[0,15,16]),(1,[13,14]),(0,[2])]
theorem ysZ:yal Try.prog [3,7,10,11] (fun i=>(yFq.lookup i).getD []) Try.f4=some ysr.fn:=by kernel_rfl
theorem yJB:ytM Try.prog tab:=by
  unfold tab
  simp only [ytM]
  exact ⟨⟨Try.f46,_,_,Try.func46,yA9⟩,⟨Try.f18,_,_,Try.func18,yrG⟩,⟨Try.f34,_,_,Try.func34,yBa⟩,⟨Try.f27,_,_,Try.func27,yBb⟩,⟨Try.f10,_,_,Try.func10,yFb⟩,⟨Try.f28,_,_,Try.func28,yBc⟩,⟨Try.f104,_,_,Try.func104,ysV⟩,⟨Try.f105,_,_,Try.func105,ysW⟩,⟨Try.f80,_,_,Try.func80,yyW⟩,⟨Try.f40,_,_,Try.func40,yBd⟩,⟨Try.f101,_,_,Try.func101,yqB⟩,⟨Try.f65,_,_,Try.func65,yyX⟩,⟨Try.f31,_,_,Try.func31,yC5⟩,⟨Try.f33,_,_,Try.func33,yyY⟩,⟨Try.f43,_,_,Try.func43,yyZ⟩,⟨Try.f120,_,_,Try.func120,yrH⟩,⟨Try.f122,_,_,Try.func122,yy0⟩,⟨Try.f108,_,_,Try.func108,yBe⟩,⟨Try.f81,_,_,Try.func81,yy1⟩,⟨Try.f82,_,_,Try.func82,yBf⟩,⟨Try.f111,_,_,Try.func111,yu6⟩,⟨Try.f109,_,_,Try.func109,yy2⟩,⟨Try.f85,_,_,Try.func85,yy3⟩,⟨Try.f41,_,_,Try.func41,yvY⟩,⟨Try.f129,_,_,Try.func129,yy4⟩,⟨Try.f116,_,_,Try.func116,yph⟩,⟨Try.f93,_,_,Try.func93,yvZ⟩,⟨Try.f117,_,_,Try.func117,yqC⟩,⟨Try.f94,_,_,Try.func94,ynH⟩,⟨Try.f95,_,_,Try.func95,yFe⟩,⟨Try.f118,_,_,Try.func118,ypi⟩,⟨Try.f97,_,_,Try.func97,ymP⟩,⟨Try.f96,_,_,Try.func96,yy5⟩,⟨Try.f58,_,_,Try.func58,yBh⟩,⟨Try.f128,_,_,Try.func128,yBi⟩,⟨Try.f125,_,_,Try.func125,yy6⟩,⟨Try.f130,_,_,Try.func130,yFf⟩,⟨Try.f124,_,_,Try.func124,ypj⟩,⟨Try.f115,_,_,Try.func115,yFg⟩,⟨Try.f114,_,_,Try.func114,yFh⟩,⟨Try.f91,_,_,Try.func91,yBj⟩,⟨Try.f89,_,_,Try.func89,yBk⟩,⟨Try.f90,_,_,Try.func90,yBl⟩,⟨Try.f92,_,_,Try.func92,yBm⟩,⟨Try.f127,_,_,Try.func127,yv0⟩,⟨Try.f126,_,_,Try.func126,yBn⟩,⟨Try.f121,_,_,Try.func121,yBo⟩,⟨Try.f107,_,_,Try.func107,yqD⟩,⟨Try.f106,_,_,Try.func106,yrI⟩,⟨Try.f84,_,_,Try.func84,yC8⟩,⟨Try.f83,_,_,Try.func83,yu7⟩,⟨Try.f123,_,_,Try.func123,yy7⟩,⟨Try.f110,_,_,Try.func110,ypk⟩,⟨Try.f86,_,_,Try.func86,yBp⟩,⟨Try.f42,_,_,Try.func42,yBq⟩,⟨Try.f45,_,_,Try.func45,yy8⟩,⟨Try.f68,_,_,Try.func68,yqE⟩,⟨Try.f102,_,_,Try.func102,ylq⟩,⟨Try.f67,_,_,Try.func67,yk4⟩,⟨Try.f66,_,_,Try.func66,ysX⟩,⟨Try.f32,_,_,Try.func32,yv1⟩,⟨Try.f12,_,_,Try.func12,yDa⟩,⟨Try.f29,_,_,Try.func29,yza⟩,⟨Try.f13,_,_,Try.func13,yGU⟩,⟨Try.f30,_,_,Try.func30,ysY⟩,⟨Try.f11,_,_,Try.func11,yBr⟩,⟨Try.f63,_,_,Try.func63,yFk⟩,⟨Try.f75,_,_,Try.func75,yFl⟩,⟨Try.f69,_,_,Try.func69,yBs⟩,⟨Try.f62,_,_,Try.func62,yBt⟩,⟨Try.f64,_,_,Try.func64,yDb⟩,⟨Try.f26,_,_,Try.func26,yDc⟩,⟨Try.f35,_,_,Try.func35,yBu⟩,⟨Try.f70,_,_,Try.func70,yBv⟩,⟨Try.f71,_,_,Try.func71,yzb⟩,⟨Try.f74,_,_,Try.func74,yDd⟩,⟨Try.f103,_,_,Try.func103,yFm⟩,⟨Try.f76,_,_,Try.func76,yDe⟩,⟨Try.f77,_,_,Try.func77,yBw⟩,⟨Try.f78,_,_,Try.func78,yBx⟩,⟨Try.f79,_,_,Try.func79,yDf⟩,⟨Try.f37,_,_,Try.func37,yFn⟩,⟨Try.f72,_,_,Try.func72,yFo⟩,⟨Try.f73,_,_,Try.func73,yFp⟩,⟨Try.f36,_,_,Try.func36,yBy⟩,⟨Try.f14,_,_,Try.func14,yBz⟩,⟨Try.f39,_,_,Try.func39,yBA⟩,⟨Try.f38,_,_,Try.func38,yDg⟩,⟨Try.f15,_,_,Try.func15,yBB⟩,⟨Try.f4,_,_,Try.func4,ysZ⟩,trivial⟩
theorem hm:Try.prog.follows .mixedOrders=true:=by kernel_rfl
theorem yJC:IsExtern Try.prog yer add64Entry:=⟨_,Try.func112,by kernel_rfl,by kernel_rfl,by kernel_rfl,by kernel_rfl⟩
theorem yJD:IsExtern Try.prog yet ytO:=⟨_,Try.func113,by kernel_rfl,by kernel_rfl,by kernel_rfl,by kernel_rfl⟩
theorem k0C:EnvOk Try.prog E0C:=by
  refine yF3 hm yJC yJD yJB ?_
  intro n e b h
  simp only [cloL,List.mem_cons,Prod.mk.injEq,List.not_mem_nil,or_false] at h
  rcases h with ⟨rfl,rfl,rfl⟩
  exact ⟨(.int .i64 (0)),by kernel_rfl⟩
theorem kN:EnvOk Try.prog (E []):=yF6 k0C fun e h=>by cases h
end Go.Proofs.Ytijdgcomldpncaa.Tt
