/- The statement TrimSteps: what the conditions and their plain laws say of the program's functions, joined with the program. -/
import Derived.Test.YtijdgcomldpncaaRows

import Derived.Test.YtijdgcomldpncaaTsW5
import Derived.WalkKit
import Derived.ProofKit
import Derived.OpenShut
import Derived.ReadAgain
import Derived.ChangeBears






namespace Go.Proofs.Ytijdgcomldpncaa.Ts
open Go Go.Pf Go.Pf.Vc Go.ChangeShapes Go.WideShapes Go.ChangeAt Go.RowKit
set_option maxRecDepth 100000
def yEZ:List (Nat×List Nat):=[(1,[1,3,4,5,6,7,8,9,10,11,12]),(0,[0,2])]
theorem yzb:yap Try.prog [1] (fun i=>(yEZ.lookup i).getD []) Try.f46=some yyu.fn:=by kernel_rfl
def yBF:List (Nat×List Nat):=[(6,[0,3,7,15,16,17]),(3,[8,9,14]),(5,[0,3,14]),(4,[7,10,11,12,13]),(2,[4,5,6]),(0,[2])]
theorem yq6:yap Try.prog [] (fun i=>(yBF.lookup i).getD []) Try.f18=some yqm.fn:=by kernel_rfl
def yE0:List (Nat×List Nat):=[(14,[98]),(13,[98]),(12,[1,3,4,57,97]),(8,[58,59]),(11,[87,88,89,90,91,92,93,94,95,96]),(10,[1,3,4,87]),(9,[57,60,61,62,63,64,65,66,67,68,69,70,71,72,73,74,75,76,77,78,79,80,81,82,83,84,85,86]),(7,[53,54,55,56]),(5,[52]),(4,[1,52]),(3,[13,14,15,16,17,18,19,20,21,22,23,24,25,26,27,28,29,30,31,32,33,34,35,36,37,38,39,40,41,42,43,44,45,46,47,48,49,50,51]),(2,[1,13]),(1,[5,6,7,8,9,10,11,12]),(0,[0,2])]
theorem yzc:yap Try.prog [1] (fun i=>(yE0.lookup i).getD []) Try.f34=some yyv.fn:=by kernel_rfl
def yE1:List (Nat×List Nat):=[(15,[1,4,43]),(12,[44,45,57]),(14,[1,4,57]),(13,[43,46,47,48,49,50,51,52,53,54,55,56]),(11,[39,40,41,42]),(10,[3,23]),(7,[24,25,32]),(9,[1,3,32,33,34,35,36,37,38]),(8,[23,26,27,28,29,30,31]),(6,[19,20,21,22]),(5,[18]),(4,[1,18]),(3,[14,15,16,17]),(2,[1,14]),(1,[5,6,7,8,9,10,11,12,13]),(0,[0,2])]
theorem yzd:yap Try.prog [1] (fun i=>(yE1.lookup i).getD []) Try.f27=some yyw.fn:=by kernel_rfl
def yFZ:List (Nat×List Nat):=[(1,[0,3,4,5,6,7,8,9,10,11]),(0,[2])]
theorem yCt:yap Try.prog [] (fun i=>(yFZ.lookup i).getD []) Try.f10=some yB6.fn:=by kernel_rfl
def yE2:List (Nat×List Nat):=[(1,[1,2,3,4,5,6,7,8,9,10]),(0,[0])]
theorem yze:yap Try.prog [1,2,4,5,7,8] (fun i=>(yE2.lookup i).getD []) Try.f28=some yyx.fn:=by kernel_rfl
def yCu:List (Nat×List Nat):=[(8,[0,3,4,15,24]),(6,[16,17]),(7,[15,18,19,20,21,22,23]),(5,[12,13,14]),(3,[7,9,10,11]),(2,[7,8]),(1,[5,6]),(0,[2])]
theorem yse:yap Try.prog [] (fun i=>(yCu.lookup i).getD []) Try.f104=some yrG.fn:=by kernel_rfl
def yCv:List (Nat×List Nat):=[(8,[0,3,4,15,24]),(6,[16,17]),(7,[15,18,19,20,21,22,23]),(5,[12,13,14]),(3,[7,9,10,11]),(2,[7,8]),(1,[5,6]),(0,[2])]
theorem ysf:yap Try.prog [] (fun i=>(yCv.lookup i).getD []) Try.f105=some yrH.fn:=by kernel_rfl
def yD4:List (Nat×List Nat):=[(14,[81]),(13,[81]),(12,[1,49,50,51,66,67,68,69,70,71,72,73,74,75,76,77,78,79,80]),(11,[64,65]),(10,[1,49,50,64]),(9,[4,53,54,55,56,57,58,59,60,61,62,63]),(8,[51,52]),(6,[3,47,48]),(5,[1,3,47]),(4,[14,15,16,17,18,19,20,21,22,23,24,25,26,27,28,29,30,31,32,33,34,35,36,37,38,39,40,41,42,43,44,45,46]),(3,[1,3,14]),(2,[8,9,10,11,12,13]),(1,[5,6,7]),(0,[0,2])]
theorem yxt:yap Try.prog [1] (fun i=>(yD4.lookup i).getD []) Try.f80=some ywt.fn:=by kernel_rfl
def yE3:List (Nat×List Nat):=[(18,[1,36,37,38,39]),(17,[49,50]),(16,[1,36,37,38,49]),(15,[7,42,43,44,45,46,47,48]),(14,[39,40,41]),(12,[23,24,25,26,35]),(11,[5,32,34]),(10,[1,5,23,24,25,32,33]),(9,[31]),(8,[4,29,30]),(7,[26,27,28]),(5,[21,22]),(4,[1,21]),(3,[17,18,19,20]),(2,[1,17]),(1,[8,9,10,11,12,13,14,15,16]),(0,[0,2])]
theorem yzf:yap Try.prog [1,4,7] (fun i=>(yE3.lookup i).getD []) Try.f40=some yyy.fn:=by kernel_rfl
def yAB:List (Nat×List Nat):=[(3,[0,4,5,6,7]),(2,[0,4]),(1,[3]),(0,[2])]
theorem yp0:yap Try.prog [] (fun i=>(yAB.lookup i).getD []) Try.f101=some yA9.fn:=by kernel_rfl
def yD5:List (Nat×List Nat):=[(7,[3,6,7,8,9,25]),(6,[24]),(5,[5,12,13,14,15,16,17,18,19,20,21,22,23]),(4,[9,10,11]),(2,[0]),(0,[2])]
theorem yxu:yap Try.prog [22,5] (fun i=>(yD5.lookup i).getD []) Try.f65=some ywu.fn:=by kernel_rfl
def yFp:List (Nat×List Nat):=[(4,[0,4,9,12,13,14]),(3,[0,4,9,10,11]),(2,[8]),(1,[5,6,7]),(0,[3])]
theorem yAC:yap Try.prog [2] (fun i=>(yFp.lookup i).getD []) Try.f31=some yz4.fn:=by kernel_rfl
def yD6:List (Nat×List Nat):=[(0,[0,1,3])]
theorem yxv:yap Try.prog [] (fun i=>(yD6.lookup i).getD []) Try.f33=some ypf.fn:=by kernel_rfl
def yD7:List (Nat×List Nat):=[(1,[0,3,4])]
theorem yxw:yap Try.prog [2] (fun i=>(yD7.lookup i).getD []) Try.f43=some ywv.fn:=by kernel_rfl
def yBG:List (Nat×List Nat):=[(1,[1,2,5,6,7,8,9,10,11,12,13,14]),(0,[0,4])]
theorem yq7:yap Try.prog [2] (fun i=>(yBG.lookup i).getD []) Try.f120=some yqn.fn:=by kernel_rfl
def yD8:List (Nat×List Nat):=[(10,[1,5,14,15,16,17,38]),(9,[37]),(8,[6,7,21,22,23,24,25,26,27,28,29,30,31,32,33,34,35,36]),(7,[17,18,19,20]),(5,[13]),(4,[4,11]),(3,[1,4,11,12]),(2,[10]),(1,[8,9]),(0,[0,2,3])]
theorem yxx:yap Try.prog [1] (fun i=>(yD8.lookup i).getD []) Try.f122=some yww.fn:=by kernel_rfl
def yE4:List (Nat×List Nat):=[(6,[1,2,16,17,18,19,20,21,22,23,24]),(5,[1,2,16]),(4,[6,10,12,13,14,15]),(3,[1,2,6,10,11]),(2,[9]),(1,[7,8]),(0,[0,4,5])]
theorem yzg:yap Try.prog [2] (fun i=>(yE4.lookup i).getD []) Try.f108=some yyz.fn:=by kernel_rfl
def yD9:List (Nat×List Nat):=[(3,[0,4,8,9]),(2,[0,4,5,6,7]),(1,[3]),(0,[2])]
theorem yxy:yap Try.prog [] (fun i=>(yD9.lookup i).getD []) Try.f81=some ywx.fn:=by kernel_rfl
def yE5:List (Nat×List Nat):=[(3,[0,1,6,11]),(2,[6,7,8,9,10]),(1,[5]),(0,[4])]
theorem yzh:yap Try.prog [] (fun i=>(yE5.lookup i).getD []) Try.f82=some yyA.fn:=by kernel_rfl
def yCF:List (Nat×List Nat):=[(5,[1,2,13,20,21,22,23,24]),(4,[1,2,13,14,15,16,17,18,19]),(3,[0,11]),(2,[0,1,2,11,12]),(1,[8,9,10]),(0,[7])]
theorem yug:yap Try.prog [6] (fun i=>(yCF.lookup i).getD []) Try.f111=some yts.fn:=by kernel_rfl
def yEa:List (Nat×List Nat):=[(5,[0,1,6,7,8,19,20,21,22,23,24,25,26,27,28,29,30,31,32]),(4,[16,17,18]),(3,[10,12,13,14,15]),(2,[0,1,10,11]),(1,[9]),(0,[5])]
theorem yxz:yap Try.prog [4] (fun i=>(yEa.lookup i).getD []) Try.f109=some ywy.fn:=by kernel_rfl
def yEb:List (Nat×List Nat):=[(3,[7,23]),(2,[2,5,8,15,16,17,18,19,20,21,22]),(1,[1,6,9,10,11,12,13,14]),(0,[0])]
theorem yxA:yap Try.prog [2,4,7] (fun i=>(yEb.lookup i).getD []) Try.f85=some ywz.fn:=by kernel_rfl
def yDZ:List (Nat×List Nat):=[(3,[25]),(2,[25]),(1,[1,3,4,5,6,7,8,9,10,11,12,13,14,15,16,17,18,19,20,21,22,23,24]),(0,[0,2])]
theorem yu7:yap Try.prog [1] (fun i=>(yDZ.lookup i).getD []) Try.f41=some yum.fn:=by kernel_rfl
def yEc:List (Nat×List Nat):=[(1,[0,3,4])]
theorem yxB:yap Try.prog [2] (fun i=>(yEc.lookup i).getD []) Try.f129=some ywA.fn:=by kernel_rfl
def yzu:List (Nat×List Nat):=[(8,[3,6,7,8,9,17]),(7,[5,14,16]),(6,[3,5,6,7,8,14,15]),(5,[12,13]),(4,[9,10,11]),(2,[0]),(0,[2])]
theorem yoK:yap Try.prog [] (fun i=>(yzu.lookup i).getD []) Try.f116=some yoj.fn:=by kernel_rfl
def yD0:List (Nat×List Nat):=[(1,[2,3,5,6,7,8,9,10]),(0,[0,1,4])]
theorem yu8:yap Try.prog [9,2,3] (fun i=>(yD0.lookup i).getD []) Try.f93=some yun.fn:=by kernel_rfl
def yAD:List (Nat×List Nat):=[(1,[0,3,4,5]),(0,[2])]
theorem yp1:yap Try.prog [] (fun i=>(yAD.lookup i).getD []) Try.f117=some ypg.fn:=by kernel_rfl
def yzi:List (Nat×List Nat):=[(13,[19]),(12,[19]),(11,[0,1,16,17,18]),(10,[0,1,16]),(9,[13,14,15]),(8,[0,1,13]),(7,[6,11]),(6,[12]),(5,[12]),(4,[0,1,6,11]),(3,[5]),(2,[9,10]),(1,[7,8]),(0,[4])]
theorem yng:yap Try.prog [] (fun i=>(yzi.lookup i).getD []) Try.f94=some ymQ.fn:=by kernel_rfl
def yF0:List (Nat×List Nat):=[(11,[0,1,48,49,50]),(10,[7,9,12,13,40,41,42,43,44,45,46,47]),(9,[6,35,36,37,38,39]),(8,[11,33,34]),(7,[31,32]),(6,[8,10,25,26,27,28,29,30]),(5,[22,23,24]),(4,[20,21]),(3,[18,19]),(2,[16,17]),(1,[14,15]),(0,[4,5])]
theorem yCw:yap Try.prog [] (fun i=>(yF0.lookup i).getD []) Try.f95=some yB7.fn:=by kernel_rfl
def yzv:List (Nat×List Nat):=[(1,[0,3,4,5]),(0,[2])]
theorem yoL:yap Try.prog [] (fun i=>(yzv.lookup i).getD []) Try.f118=some yok.fn:=by kernel_rfl
def yxJ:List (Nat×List Nat):=[(13,[19]),(12,[19]),(11,[0,1,16,17,18]),(10,[0,1,16]),(9,[13,14,15]),(8,[0,1,13]),(7,[6,11]),(6,[12]),(5,[12]),(4,[0,1,6,11]),(3,[5]),(2,[9,10]),(1,[7,8]),(0,[4])]
theorem ymq:yap Try.prog [] (fun i=>(yxJ.lookup i).getD []) Try.f97=some ylw.fn:=by kernel_rfl
def yEd:List (Nat×List Nat):=[(8,[3,6,7,8,9,17]),(7,[5,14,16]),(6,[3,5,6,7,8,14,15]),(5,[12,13]),(4,[9,10,11]),(2,[0]),(0,[2])]
theorem yxC:yap Try.prog [] (fun i=>(yEd.lookup i).getD []) Try.f96=some ywB.fn:=by kernel_rfl
def yE6:List (Nat×List Nat):=[(11,[11,60,63]),(10,[60,61,62]),(9,[2,58,59]),(8,[7,8,9,10,50,51,52,53,54,55,56,57]),(7,[3,40,41,42,43,44,45,46,47,48,49]),(6,[24,30,31,32,33,34,35,36,37,38,39]),(5,[2,3,24,25,26,27,28,29]),(4,[6,16,18,19,20,21,22,23]),(3,[2,3,6,16,17]),(2,[15]),(1,[12,13,14]),(0,[0,1,4,5])]
theorem yzj:yap Try.prog [56,2,3] (fun i=>(yE6.lookup i).getD []) Try.f58=some yyB.fn:=by kernel_rfl
def yE7:List (Nat×List Nat):=[(2,[5,13,14]),(1,[2,3,6,7,8,9,10,11,12]),(0,[0,1,4])]
theorem yzk:yap Try.prog [2,3] (fun i=>(yE7.lookup i).getD []) Try.f128=some yyC.fn:=by kernel_rfl
def yEe:List (Nat×List Nat):=[(1,[2,3,5,6,7,8,9,10,11,12,13,14,15,16,17,18,19,20]),(0,[0,1,4])]
theorem yxD:yap Try.prog [2,3] (fun i=>(yEe.lookup i).getD []) Try.f125=some ywC.fn:=by kernel_rfl
def yF1:List (Nat×List Nat):=[(10,[0,14,19,20,21,22,23,24]),(9,[17,18]),(8,[14,15,16]),(7,[8,13]),(6,[11,12]),(5,[8,9,10]),(4,[4,7]),(2,[2,4,5,6]),(1,[3])]
theorem yCx:yap Try.prog [] (fun i=>(yF1.lookup i).getD []) Try.f130=some yB8.fn:=by kernel_rfl
def yzw:List (Nat×List Nat):=[(1,[0,3,4,5]),(0,[2])]
theorem yoM:yap Try.prog [] (fun i=>(yzw.lookup i).getD []) Try.f124=some yol.fn:=by kernel_rfl
def yF2:List (Nat×List Nat):=[(28,[2,8,9,10,14,15,16,17,18,113,120,121,122,123,124,125,126,127,128,129,130,131,132,133,134]),(27,[119]),(26,[116,117,118]),(25,[113,114,115]),(24,[102,103,104,105,106,107,108,109,110,111,112,120]),(23,[97,98,99,100,101]),(22,[94,95,96]),(21,[11,13,16,78,85,86,87,88,89,90,91,92,93]),(20,[84]),(19,[81,82,83]),(18,[78,79,80]),(17,[67,68,69,70,71,72,73,74,75,76,77,85]),(16,[62,63,64,65,66]),(15,[59,60,61]),(14,[12,57,58]),(13,[55,56]),(12,[1,52,53,54]),(11,[0,44,45,46,47,48,49,50,51]),(10,[42,43]),(9,[40,41]),(8,[37,38,39]),(7,[27,34,35,36]),(6,[0,1,2,27,28,29,30,31,32,33]),(5,[24,26]),(4,[24,25]),(3,[20,22,23]),(2,[20,21]),(1,[19]),(0,[6,7])]
theorem yCy:yap Try.prog [] (fun i=>(yF2.lookup i).getD []) Try.f115=some yB9.fn:=by kernel_rfl
def yF3:List (Nat×List Nat):=[(2,[8,18]),(1,[0,1,2,7,9,10,11,12,13,14,15,16,17]),(0,[6])]
theorem yCz:yap Try.prog [] (fun i=>(yF3.lookup i).getD []) Try.f114=some yCa.fn:=by kernel_rfl
def yE8:List (Nat×List Nat):=[(26,[12,17,20,153,155,156,157,158,159,160]),(25,[12,17,20,153,154]),(24,[19,152]),(23,[2,3,7,16,138,139,140,141,142,143,144,145,146,147,148,149,150,151]),(22,[13,14,18,129,131,132,133,134,135,136,137]),(21,[2,3,7,12,13,14,16,129,130]),(20,[127,128]),(19,[119,121,122,123,124,125,126]),(18,[2,3,7,12,13,14,119,120]),(17,[114,115,116,117,118]),(16,[8,10,15,107,108,109,110,111,112,113]),(15,[9,11,94,101,102,103,104,105,106]),(14,[99,100]),(13,[94,95,96,97,98]),(12,[68,82,83,84,85,86,87,88,89,90,91,92,93]),(11,[8,10,15,75,76,77,78,79,80,81]),(10,[9,11,68,69,70,71,72,73,74]),(9,[62,63,64,65,66,67]),(8,[13,14,15]),(7,[59,60,61]),(6,[47,48,49,50,51,52,53,54,55,56,57,58]),(5,[35,36,37,38,39,40,41,42,43,44,45,46]),(4,[6,25,28,29,30,31,32,33,34]),(3,[2,3,6,25,26,27]),(2,[24]),(1,[21,22,23]),(0,[0,1,5])]
theorem yzl:yap Try.prog [2,3,4] (fun i=>(yE8.lookup i).getD []) Try.f91=some yyD.fn:=by kernel_rfl
def yE9:List (Nat×List Nat):=[(5,[2,3,18,19,20,21,22]),(4,[6,11,14,15,16,17]),(3,[2,3,6,11,12,13]),(2,[10]),(1,[7,8,9]),(0,[0,1,5])]
theorem yzm:yap Try.prog [2,3,4] (fun i=>(yE9.lookup i).getD []) Try.f89=some yyE.fn:=by kernel_rfl
def yFa:List (Nat×List Nat):=[(10,[2,3,14,16,65,67,68,69,70,71,72,73,74,75,76,77,78,79,80,81,82]),(9,[2,3,14,16,65,66]),(8,[13,15,62,63,64]),(7,[8,10,11,12,52,53,54,55,56,57,58,59,60,61]),(6,[7,9,42,43,44,45,46,47,48,49,50,51]),(5,[36,37,38,39,40,41]),(4,[6,21,24,25,26,27,28,29,30,31,32,33,34,35]),(3,[2,3,6,21,22,23]),(2,[20]),(1,[17,18,19]),(0,[0,1,5])]
theorem yzn:yap Try.prog [2,3,4] (fun i=>(yFa.lookup i).getD []) Try.f90=some yyF.fn:=by kernel_rfl
def yFb:List (Nat×List Nat):=[(8,[2,3,19,34,35,36,37,38,39,40,41,42]),(7,[2,3,19,23,24,25,26,27,28,29,30,31,32,33]),(6,[14,20,21,22]),(5,[2,3,14,18]),(4,[6,11,15,16,17]),(3,[2,3,6,11,12,13]),(2,[10]),(1,[7,8,9]),(0,[0,1,5])]
theorem yzo:yap Try.prog [2,3,4] (fun i=>(yFb.lookup i).getD []) Try.f92=some yyG.fn:=by kernel_rfl
def yD1:List (Nat×List Nat):=[(12,[5,6,7,14,15,41,48]),(11,[6,7,14,41,42,43,44,45,46,47]),(10,[40]),(9,[3,4,9,20,33,34,35,36,37,38,39]),(8,[5,13,29,31,32]),(7,[5,29,30]),(6,[28]),(5,[4,12,27]),(4,[3,6,7,9,20,21,22,23,24,25,26]),(3,[17,18,19]),(2,[3,4,5,6,7,9,17]),(1,[16]),(0,[0,1,2,8,11])]
theorem yu9:yap Try.prog [7,8,9,12,14] (fun i=>(yD1.lookup i).getD []) Try.f127=some ynv.fn:=by kernel_rfl
def yFc:List (Nat×List Nat):=[(18,[2,3,4,14,15,16,17]),(17,[8,9,31,61]),(16,[9,59,60]),(15,[2,3,4,9,14,15,16,59]),(14,[8,10,12,34,52,54,55,56,57,58]),(13,[2,3,4,8,9,10,12,14,15,16,52,53]),(12,[51]),(11,[11,42,44,45,46,47,48,49,50]),(10,[2,3,4,8,9,10,11,12,14,15,16,42,43]),(9,[41]),(8,[34,35,36,37,38,39,40]),(7,[33]),(6,[31,32]),(5,[28,29,30]),(4,[7,21,22,23,24,25,26,27]),(3,[17,18,19,20]),(1,[13]),(0,[0,1,6])]
theorem yzp:yap Try.prog [3,4,9,10,11] (fun i=>(yFc.lookup i).getD []) Try.f126=some yyH.fn:=by kernel_rfl
def yFd:List (Nat×List Nat):=[(15,[9,10,45,48]),(14,[9,10,45,46,47]),(13,[11,42,44]),(12,[11,42,43]),(11,[41]),(10,[3,4,5,37,38,39,40]),(8,[35]),(7,[3,4,5,35,36]),(6,[31,33,34]),(5,[3,4,5,31,32]),(4,[8,15,18,19,20,21,22,23,24,25,26,27,28,29,30]),(3,[3,4,5,8,15,16,17]),(2,[14]),(1,[12,13]),(0,[0,1,2,7])]
theorem yzq:yap Try.prog [3,4,6] (fun i=>(yFd.lookup i).getD []) Try.f121=some yyI.fn:=by kernel_rfl
def yAE:List (Nat×List Nat):=[(1,[1,4,6,7,10,11,12,13,14,15,16,17,18,19,20]),(0,[0,2,3,9])]
theorem yp2:yap Try.prog [4,6,7,8] (fun i=>(yAE.lookup i).getD []) Try.f107=some yph.fn:=by kernel_rfl
def yBH:List (Nat×List Nat):=[(13,[3,4,10,12,59,60,61,62,63,64,65,66,67,68,69,70,71,72]),(12,[53,54,55,56,57,58]),(11,[48,51,52]),(10,[3,4,10,48,49,50]),(9,[11,40,44,45,46,47]),(8,[3,4,10,11,40,41,42,43]),(7,[39]),(6,[2,25,28,29,30,31,32,33,34,35,36,37,38]),(5,[2,3,4,25,26,27]),(4,[9,17,21,22,23,24]),(3,[2,3,4,9,17,18,19,20]),(2,[16]),(1,[13,14,15]),(0,[0,1,8])]
theorem yq8:yap Try.prog [69,3,4,6,7,10] (fun i=>(yBH.lookup i).getD []) Try.f106=some yjk.fn:=by kernel_rfl
def yFq:List (Nat×List Nat):=[(2,[1,6,7,11,14,15,16,17,18,19,20,21,22,23,24]),(1,[4,12,13]),(0,[0,2,3,10])]
theorem yAF:yap Try.prog [4,6,7,8,9,11] (fun i=>(yFq.lookup i).getD []) Try.f84=some yz5.fn:=by kernel_rfl
def yCG:List (Nat×List Nat):=[(4,[0,1,3,6,7,8,21,27]),(3,[0,1,3,6,7,21,22,23,24,25,26]),(2,[20]),(1,[2,9,10,11,12,13,14,15,16,17,18,19]),(0,[5])]
theorem yuh:yap Try.prog [6,7] (fun i=>(yCG.lookup i).getD []) Try.f83=some yhN.fn:=by kernel_rfl
def yEf:List (Nat×List Nat):=[(28,[3,5,9,10,42,43,44,45,105]),(27,[13,70,104]),(26,[13,15,100,103]),(25,[3,5,9,10,13,15,42,43,44,100,101,102]),(24,[99]),(23,[16,90,93,94,95,96,97,98]),(22,[3,5,9,10,13,15,16,42,43,44,90,91,92]),(21,[89]),(20,[12,14,79,82,83,84,85,86,87,88]),(19,[3,5,9,10,12,13,14,15,42,43,44,79,80,81]),(18,[78]),(17,[67,72,73,74,75,76,77]),(16,[13,70,71]),(15,[12,67,68,69]),(14,[58,60,61,62,63,64,65,66]),(13,[58,59]),(12,[56,57]),(11,[11,49,50,51,52,53,54,55]),(10,[45,46,47,48]),(8,[41]),(7,[4,40]),(6,[37,39]),(5,[3,4,5,37,38]),(4,[8,20,23,24,25,26,27,28,29,30,31,32,33,34,35,36]),(3,[3,4,5,8,20,21,22]),(2,[19]),(1,[17,18]),(0,[0,1,2,7])]
theorem yxE:yap Try.prog [3,4,5,6,9,10,13,14,16] (fun i=>(yEf.lookup i).getD []) Try.f123=some ywD.fn:=by kernel_rfl
def yzx:List (Nat×List Nat):=[(1,[1,4,6,7,10,11,12,13,14,15,16,17,18,19,20]),(0,[0,2,3,9])]
theorem yoN:yap Try.prog [4,6,7,8] (fun i=>(yzx.lookup i).getD []) Try.f110=some yom.fn:=by kernel_rfl
def yFe:List (Nat×List Nat):=[(2,[1,6,7,11,14,15,16,17,18,19,20,21,22,23,24]),(1,[4,12,13]),(0,[0,2,3,10])]
theorem yzr:yap Try.prog [4,6,7,8,9,11] (fun i=>(yFe.lookup i).getD []) Try.f86=some yyJ.fn:=by kernel_rfl
def yFf:List (Nat×List Nat):=[(2,[5,13,14]),(1,[2,3,6,7,8,9,10,11,12]),(0,[0,1,4])]
theorem yzs:yap Try.prog [2,3] (fun i=>(yFf.lookup i).getD []) Try.f42=some yyK.fn:=by kernel_rfl
def yEg:List (Nat×List Nat):=[(18,[1,3,5,9,10,11,12,29,30,31,32,38,76,77]),(17,[12,16,62,71,75]),(16,[1,3,5,9,10,16,29,30,31,71,72,73,74]),(15,[70]),(14,[12,40,67,68,69]),(13,[62,63,64,65,66]),(12,[14,57,58,59,60,61]),(11,[13,15,52,56]),(10,[1,3,5,9,10,12,13,14,15,29,30,31,52,53,54,55]),(9,[51]),(8,[40,41,42,43,44,45,46,47,48,49,50]),(7,[11,38,39]),(6,[36,37]),(5,[32,33,34,35]),(2,[28]),(1,[17,18,19,20,21,22,23,24,25,26,27]),(0,[0,2,8])]
theorem yxF:yap Try.prog [6,7,13,14] (fun i=>(yEg.lookup i).getD []) Try.f45=some ypi.fn:=by kernel_rfl
def yAG:List (Nat×List Nat):=[(1,[0,1,4,5,6,7]),(0,[3])]
theorem yp3:yap Try.prog [] (fun i=>(yAG.lookup i).getD []) Try.f68=some yic.fn:=by kernel_rfl
def yxG:List (Nat×List Nat):=[(7,[0,1,7,8,9]),(6,[5,16,18]),(5,[0,1,5,7,8,16,17]),(4,[11,12,13,14,15]),(3,[9,10]),(1,[6]),(0,[4])]
theorem yle:yap Try.prog [] (fun i=>(yxG.lookup i).getD []) Try.f102=some yk7.fn:=by kernel_rfl
def yvX:List (Nat×List Nat):=[(12,[0,5,39,40,41]),(11,[1,6,19,36,37,38]),(6,[7,20,21,29]),(10,[34,35]),(9,[7,29,30,31,32,33]),(8,[26,27,28]),(7,[19,22,23,24,25]),(5,[16,17,18]),(4,[12,14,15]),(3,[0,1,5,12,13]),(2,[11]),(1,[8,9,10]),(0,[4])]
theorem ykM:yap Try.prog [] (fun i=>(yvX.lookup i).getD []) Try.f67=some yj8.fn:=by kernel_rfl
def yCA:List (Nat×List Nat):=[(15,[52]),(14,[6]),(13,[8,49,50,51]),(12,[7,45,46,47,48]),(11,[9,37,41,42,43,44]),(10,[0,1,2,4,6,7,8,9,37,38,39,40]),(9,[36]),(8,[27,28,29,30,31,32,33,34,35]),(7,[25,26]),(6,[15,16,17,24]),(5,[23]),(4,[5,19,20,21,22]),(3,[17,18]),(1,[14]),(0,[10,11,12,13]),(999999,[1])]
theorem ysg:yap Try.prog [6,7,6] (fun i=>(yCA.lookup i).getD []) Try.f66=some yCE.fn:=by kernel_rfl
def yD2:List (Nat×List Nat):=[(1,[2,3,5]),(0,[0,1,4])]
theorem yva:yap Try.prog [] (fun i=>(yD2.lookup i).getD []) Try.f32=some ynw.fn:=by kernel_rfl
def yFr:List (Nat×List Nat):=[(14,[50,53,54,55]),(13,[50,51,52]),(12,[1,24,48,49]),(11,[1,44,45,46,47]),(10,[8,33,34,35,36,37,38,39,40,41,42,43]),(9,[7,31,32]),(8,[27,28,29,30]),(7,[26]),(6,[24,25]),(5,[6,22,23]),(4,[15,18,19,20,21]),(3,[1,6,15,16,17]),(2,[14]),(1,[9,10,11,12,13]),(0,[0])]
theorem yAH:yap Try.prog [29,42,6,1000002,1000003] (fun i=>(yFr.lookup i).getD []) Try.f12=some yz8.fn:=by kernel_rfl
def yEh:List (Nat×List Nat):=[(3,[0,9,10,11,12,13]),(2,[0,9]),(1,[4,5,6,7,8]),(0,[2,3])]
theorem yxH:yap Try.prog [] (fun i=>(yEh.lookup i).getD []) Try.f29=some ywE.fn:=by kernel_rfl
def yF5:List (Nat×List Nat):=[(1,[0,3,4])]
theorem yD3:yap Try.prog [2] (fun i=>(yF5.lookup i).getD []) Try.f13=some yDk.fn:=by kernel_rfl
def yCB:List (Nat×List Nat):=[(8,[0,1,5,14]),(5,[15,16,25]),(7,[0,1,5,25]),(6,[14,17,18,19,20,21,22,23,24]),(4,[11,12,13]),(3,[10]),(2,[0,1,10]),(1,[6,7,8,9]),(0,[4])]
theorem ysh:yap Try.prog [] (fun i=>(yCB.lookup i).getD []) Try.f30=some yrI.fn:=by kernel_rfl
def yFg:List (Nat×List Nat):=[(4,[2,3,4,5,6,7,8,9,10,26,27,28,29,30,31,32,33,34,35,36,37,38,39,40,41,42,43,44,45,46,47,48,49,50,51,52,53,54]),(3,[22,23,24,25]),(2,[18,19,20,21]),(1,[1,11,12,13,14,15,16,17]),(0,[0])]
theorem yzt:yap Try.prog [39,1,7,8,9,10] (fun i=>(yFg.lookup i).getD []) Try.f11=some yyM.fn:=by kernel_rfl
def yq9:List (Nat×List Nat):=[(3,[0,4,5,6,7]),(2,[0,4]),(1,[3]),(0,[2])]
theorem ygI:yap Try.prog [] (fun i=>(yq9.lookup i).getD []) Try.f44=some yrv.fn:=by kernel_rfl
def yEi:List (Nat×List Nat):=[(18,[1,5,13,77,81,82,83,84,85,86,87]),(17,[1,5,13,77,78,79,80]),(16,[76]),(15,[3,72,73,74,75]),(14,[63,66,67,68,69,70,71]),(13,[1,3,5,63,64,65]),(12,[10,21,22,23,24,41,42,43,44,45,46,47,48,49,50,51,52,53,54,55,56,57,58,59,60,61,62]),(11,[40]),(10,[12,36,39]),(9,[1,3,5,12,21,22,23,36,37,38]),(8,[10,27,28,29,30,31,32,33,34,35]),(7,[24,25,26]),(4,[9,17]),(3,[1,3,5,9,17,18,19,20]),(2,[16]),(1,[14,15]),(0,[0,2,8])]
theorem yxI:yap Try.prog [3,5,6,7,13] (fun i=>(yEi.lookup i).getD []) Try.f16=some ywF.fn:=by kernel_rfl
def yCH:List (Nat×List Nat):=[(8,[0,1,5,14]),(5,[15,16,25]),(7,[0,1,5,25]),(6,[14,17,18,19,20,21,22,23,24]),(4,[11,12,13]),(3,[10]),(2,[0,1,10]),(1,[6,7,8,9]),(0,[4])]
theorem yui:yap Try.prog [] (fun i=>(yCH.lookup i).getD []) Try.f17=some ytt.fn:=by kernel_rfl
def yCC:List (Nat×List Nat):=[(26,[4,5,7,8,10,11,53,121,122,123,124,125,126,127]),(15,[54,55]),(25,[12,13,15,16,100,117,118,119,120]),(22,[101,102,109]),(24,[109,110,111,112,113,114,115,116]),(23,[100,103,104,105,106,107,108]),(21,[97,98,99]),(19,[96]),(18,[4,5,7,8,10,11,12,13,96]),(17,[14,64,65,66,67,68,69,70,71,72,73,74,75,76,77,78,79,80,81,82,83,84,85,86,87,88,89,90,91,92,93,94,95]),(16,[53,56,57,58,59,60,61,62,63]),(14,[50,51,52]),(12,[0,9,42,49]),(10,[43,44]),(11,[42,45,46,47,48]),(9,[39,40,41]),(6,[36,37,38]),(5,[0,4,5,36]),(4,[6,28,29,30,31,32,33,34,35]),(3,[3,19,21,22,23,24,25,26,27]),(2,[0,19,20]),(1,[17,18]),(0,[2]),(999999,[1])]
theorem ysi:yap Try.prog [47,115,3,7,10,12,13,4000118] (fun i=>(yCC.lookup i).getD []) Try.f5=some yrJ.fn:=by kernel_rfl
theorem yGm:ys5 Try.prog tab:=by
  unfold tab
  simp only [ys5]
  exact ⟨⟨Try.f46,_,_,Try.func46,yzb⟩,⟨Try.f18,_,_,Try.func18,yq6⟩,⟨Try.f34,_,_,Try.func34,yzc⟩,⟨Try.f27,_,_,Try.func27,yzd⟩,⟨Try.f10,_,_,Try.func10,yCt⟩,⟨Try.f28,_,_,Try.func28,yze⟩,⟨Try.f104,_,_,Try.func104,yse⟩,⟨Try.f105,_,_,Try.func105,ysf⟩,⟨Try.f80,_,_,Try.func80,yxt⟩,⟨Try.f40,_,_,Try.func40,yzf⟩,⟨Try.f101,_,_,Try.func101,yp0⟩,⟨Try.f65,_,_,Try.func65,yxu⟩,⟨Try.f31,_,_,Try.func31,yAC⟩,⟨Try.f33,_,_,Try.func33,yxv⟩,⟨Try.f43,_,_,Try.func43,yxw⟩,⟨Try.f120,_,_,Try.func120,yq7⟩,⟨Try.f122,_,_,Try.func122,yxx⟩,⟨Try.f108,_,_,Try.func108,yzg⟩,⟨Try.f81,_,_,Try.func81,yxy⟩,⟨Try.f82,_,_,Try.func82,yzh⟩,⟨Try.f111,_,_,Try.func111,yug⟩,⟨Try.f109,_,_,Try.func109,yxz⟩,⟨Try.f85,_,_,Try.func85,yxA⟩,⟨Try.f41,_,_,Try.func41,yu7⟩,⟨Try.f129,_,_,Try.func129,yxB⟩,⟨Try.f116,_,_,Try.func116,yoK⟩,⟨Try.f93,_,_,Try.func93,yu8⟩,⟨Try.f117,_,_,Try.func117,yp1⟩,⟨Try.f94,_,_,Try.func94,yng⟩,⟨Try.f95,_,_,Try.func95,yCw⟩,⟨Try.f118,_,_,Try.func118,yoL⟩,⟨Try.f97,_,_,Try.func97,ymq⟩,⟨Try.f96,_,_,Try.func96,yxC⟩,⟨Try.f58,_,_,Try.func58,yzj⟩,⟨Try.f128,_,_,Try.func128,yzk⟩,⟨Try.f125,_,_,Try.func125,yxD⟩,⟨Try.f130,_,_,Try.func130,yCx⟩,⟨Try.f124,_,_,Try.func124,yoM⟩,⟨Try.f115,_,_,Try.func115,yCy⟩,⟨Try.f114,_,_,Try.func114,yCz⟩,⟨Try.f91,_,_,Try.func91,yzl⟩,⟨Try.f89,_,_,Try.func89,yzm⟩,⟨Try.f90,_,_,Try.func90,yzn⟩,⟨Try.f92,_,_,Try.func92,yzo⟩,⟨Try.f127,_,_,Try.func127,yu9⟩,⟨Try.f126,_,_,Try.func126,yzp⟩,⟨Try.f121,_,_,Try.func121,yzq⟩,⟨Try.f107,_,_,Try.func107,yp2⟩,⟨Try.f106,_,_,Try.func106,yq8⟩,⟨Try.f84,_,_,Try.func84,yAF⟩,⟨Try.f83,_,_,Try.func83,yuh⟩,⟨Try.f123,_,_,Try.func123,yxE⟩,⟨Try.f110,_,_,Try.func110,yoN⟩,⟨Try.f86,_,_,Try.func86,yzr⟩,⟨Try.f42,_,_,Try.func42,yzs⟩,⟨Try.f45,_,_,Try.func45,yxF⟩,⟨Try.f68,_,_,Try.func68,yp3⟩,⟨Try.f102,_,_,Try.func102,yle⟩,⟨Try.f67,_,_,Try.func67,ykM⟩,⟨Try.f66,_,_,Try.func66,ysg⟩,⟨Try.f32,_,_,Try.func32,yva⟩,⟨Try.f12,_,_,Try.func12,yAH⟩,⟨Try.f29,_,_,Try.func29,yxH⟩,⟨Try.f13,_,_,Try.func13,yD3⟩,⟨Try.f30,_,_,Try.func30,ysh⟩,⟨Try.f11,_,_,Try.func11,yzt⟩,⟨Try.f44,_,_,Try.func44,ygI⟩,⟨Try.f16,_,_,Try.func16,yxI⟩,⟨Try.f17,_,_,Try.func17,yui⟩,⟨Try.f5,_,_,Try.func5,ysi⟩,trivial⟩
theorem hm:Try.prog.follows .mixedOrders=true:=by kernel_rfl
theorem yGn:IsExtern Try.prog yet add64Entry:=⟨_,Try.func112,by kernel_rfl,by kernel_rfl,by kernel_rfl,by kernel_rfl⟩
theorem yGo:IsExtern Try.prog yeu ys7:=⟨_,Try.func113,by kernel_rfl,by kernel_rfl,by kernel_rfl,by kernel_rfl⟩
theorem k0C:EnvOk Try.prog E0C:=by
  refine yDg hm yGn yGo yGm ?_
  intro n e b h
  simp only [cloL,List.mem_cons,Prod.mk.injEq,List.not_mem_nil,or_false] at h
  rcases h with ⟨rfl,rfl,rfl⟩ | ⟨rfl,rfl,rfl⟩
  · exact ⟨(.int .i64 (0)),by kernel_rfl⟩
  · exact ⟨(.agg [(.int .i64 (0)),(.int .u8 (0)),(.int .i64 (0)),(.int .i64 (0)),(.int .i64 (0)),(.int .i64 (0)),(.int .i64 (0)),(.int .i64 (0))]),by kernel_rfl⟩
theorem kN:EnvOk Try.prog (E []):=yDj k0C fun e h=>by cases h
end Go.Proofs.Ytijdgcomldpncaa.Ts
