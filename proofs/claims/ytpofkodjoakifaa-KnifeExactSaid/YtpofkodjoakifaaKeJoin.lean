/- The statement KnifeExact: what the conditions and their plain laws say of the program's functions, joined with the program. -/
import Derived.Test.YtpofkodjoakifaaRows

import Derived.Test.YtpofkodjoakifaaKeW5
import Derived.WalkKit
import Derived.ProofKit
import Derived.OpenShut
import Derived.ReadAgain
import Derived.ChangeBears






namespace Go.Proofs.Ytpofkodjoakifaa.Ke
open Go Go.Pf Go.Pf.Vc Go.ChangeShapes Go.WideShapes Go.ChangeAt Go.RowKit
set_option maxRecDepth 100000
def yJB:List (Nat×List Nat):=[(1,[1,3,4,5,6,7,8,9,10,11,12]),(0,[0,2])]
theorem yDz:compFn Try.prog [1] (fun i=>(yJB.lookup i).getD []) Try.f79=some yCh.fn:=by kernel_rfl
def yGa:List (Nat×List Nat):=[(6,[0,3,7,15,16,17]),(3,[8,9,14]),(5,[0,3,14]),(4,[7,10,11,12,13]),(2,[4,5,6]),(0,[2])]
theorem yuM:compFn Try.prog [] (fun i=>(yGa.lookup i).getD []) Try.f44=some ytZ.fn:=by kernel_rfl
def yJC:List (Nat×List Nat):=[(14,[98]),(13,[98]),(12,[1,3,4,57,97]),(8,[58,59]),(11,[87,88,89,90,91,92,93,94,95,96]),(10,[1,3,4,87]),(9,[57,60,61,62,63,64,65,66,67,68,69,70,71,72,73,74,75,76,77,78,79,80,81,82,83,84,85,86]),(7,[53,54,55,56]),(5,[52]),(4,[1,52]),(3,[13,14,15,16,17,18,19,20,21,22,23,24,25,26,27,28,29,30,31,32,33,34,35,36,37,38,39,40,41,42,43,44,45,46,47,48,49,50,51]),(2,[1,13]),(1,[5,6,7,8,9,10,11,12]),(0,[0,2])]
theorem yDA:compFn Try.prog [1] (fun i=>(yJC.lookup i).getD []) Try.f35=some yCi.fn:=by kernel_rfl
def yJD:List (Nat×List Nat):=[(15,[1,4,43]),(12,[44,45,57]),(14,[1,4,57]),(13,[43,46,47,48,49,50,51,52,53,54,55,56]),(11,[39,40,41,42]),(10,[3,23]),(7,[24,25,32]),(9,[1,3,32,33,34,35,36,37,38]),(8,[23,26,27,28,29,30,31]),(6,[19,20,21,22]),(5,[18]),(4,[1,18]),(3,[14,15,16,17]),(2,[1,14]),(1,[5,6,7,8,9,10,11,12,13]),(0,[0,2])]
theorem yDB:compFn Try.prog [1] (fun i=>(yJD.lookup i).getD []) Try.f45=some yCj.fn:=by kernel_rfl
def yKE:List (Nat×List Nat):=[(1,[0,3,4,5,6,7,8,9,10,11]),(0,[2])]
theorem yHc:compFn Try.prog [] (fun i=>(yKE.lookup i).getD []) Try.f13=some yGz.fn:=by kernel_rfl
def yIF:List (Nat×List Nat):=[(6,[1,3,8]),(3,[9,10,16]),(5,[1,3,16]),(4,[8,11,12,13,14,15]),(2,[4,5,6,7]),(0,[0,2])]
theorem yBD:compFn Try.prog [1] (fun i=>(yIF.lookup i).getD []) Try.f14=some yAb.fn:=by kernel_rfl
def yIG:List (Nat×List Nat):=[(1,[2,3,5,6,7,8,9,10,11,12,13,14,15,16]),(0,[0,1,4])]
theorem yBE:compFn Try.prog [7,2,3] (fun i=>(yIG.lookup i).getD []) Try.f4=some yAc.fn:=by kernel_rfl
def yJE:List (Nat×List Nat):=[(1,[1,2,3,4,5,6,7,8,9,10]),(0,[0])]
theorem yDC:compFn Try.prog [1,2,4,5,7,8] (fun i=>(yJE.lookup i).getD []) Try.f16=some yCk.fn:=by kernel_rfl
def yHd:List (Nat×List Nat):=[(8,[0,3,4,15,24]),(6,[16,17]),(7,[15,18,19,20,21,22,23]),(5,[12,13,14]),(3,[7,9,10,11]),(2,[7,8]),(1,[5,6]),(0,[2])]
theorem yv1:compFn Try.prog [] (fun i=>(yHd.lookup i).getD []) Try.f60=some yvA.fn:=by kernel_rfl
def yHe:List (Nat×List Nat):=[(8,[0,3,4,15,24]),(6,[16,17]),(7,[15,18,19,20,21,22,23]),(5,[12,13,14]),(3,[7,9,10,11]),(2,[7,8]),(1,[5,6]),(0,[2])]
theorem yv2:compFn Try.prog [] (fun i=>(yHe.lookup i).getD []) Try.f61=some yvB.fn:=by kernel_rfl
def yIH:List (Nat×List Nat):=[(14,[81]),(13,[81]),(12,[1,49,50,51,66,67,68,69,70,71,72,73,74,75,76,77,78,79,80]),(11,[64,65]),(10,[1,49,50,64]),(9,[4,53,54,55,56,57,58,59,60,61,62,63]),(8,[51,52]),(6,[3,47,48]),(5,[1,3,47]),(4,[14,15,16,17,18,19,20,21,22,23,24,25,26,27,28,29,30,31,32,33,34,35,36,37,38,39,40,41,42,43,44,45,46]),(3,[1,3,14]),(2,[8,9,10,11,12,13]),(1,[5,6,7]),(0,[0,2])]
theorem yBF:compFn Try.prog [1] (fun i=>(yIH.lookup i).getD []) Try.f32=some yAd.fn:=by kernel_rfl
def yJF:List (Nat×List Nat):=[(18,[1,36,37,38,39]),(17,[49,50]),(16,[1,36,37,38,49]),(15,[7,42,43,44,45,46,47,48]),(14,[39,40,41]),(12,[23,24,25,26,35]),(11,[5,32,34]),(10,[1,5,23,24,25,32,33]),(9,[31]),(8,[4,29,30]),(7,[26,27,28]),(5,[21,22]),(4,[1,21]),(3,[17,18,19,20]),(2,[1,17]),(1,[8,9,10,11,12,13,14,15,16]),(0,[0,2])]
theorem yDD:compFn Try.prog [1,4,7] (fun i=>(yJF.lookup i).getD []) Try.f21=some yCl.fn:=by kernel_rfl
def yFo:List (Nat×List Nat):=[(3,[0,4,5,6,7]),(2,[0,4]),(1,[3]),(0,[2])]
theorem ytO:compFn Try.prog [] (fun i=>(yFo.lookup i).getD []) Try.f87=some yFT.fn:=by kernel_rfl
def yII:List (Nat×List Nat):=[(7,[3,6,7,8,9,25]),(6,[24]),(5,[5,12,13,14,15,16,17,18,19,20,21,22,23]),(4,[9,10,11]),(2,[0]),(0,[2])]
theorem yBG:compFn Try.prog [22,5] (fun i=>(yII.lookup i).getD []) Try.f80=some yAe.fn:=by kernel_rfl
def yJ0:List (Nat×List Nat):=[(4,[0,4,9,12,13,14]),(3,[0,4,9,10,11]),(2,[8]),(1,[5,6,7]),(0,[3])]
theorem yFp:compFn Try.prog [2] (fun i=>(yJ0.lookup i).getD []) Try.f46=some yEo.fn:=by kernel_rfl
def yIw:List (Nat×List Nat):=[(1,[0,3,4])]
theorem yzj:compFn Try.prog [2] (fun i=>(yIw.lookup i).getD []) Try.f22=some yyd.fn:=by kernel_rfl
def yIJ:List (Nat×List Nat):=[(10,[1,5,14,15,16,17,38]),(9,[37]),(8,[6,7,21,22,23,24,25,26,27,28,29,30,31,32,33,34,35,36]),(7,[17,18,19,20]),(5,[13]),(4,[4,11]),(3,[1,4,11,12]),(2,[10]),(1,[8,9]),(0,[0,2,3])]
theorem yBH:compFn Try.prog [1] (fun i=>(yIJ.lookup i).getD []) Try.f68=some yAf.fn:=by kernel_rfl
def yIK:List (Nat×List Nat):=[(3,[0,4,8,9]),(2,[0,4,5,6,7]),(1,[3]),(0,[2])]
theorem yBI:compFn Try.prog [] (fun i=>(yIK.lookup i).getD []) Try.f51=some yAg.fn:=by kernel_rfl
def yJG:List (Nat×List Nat):=[(3,[0,1,6,11]),(2,[6,7,8,9,10]),(1,[5]),(0,[4])]
theorem yDE:compFn Try.prog [] (fun i=>(yJG.lookup i).getD []) Try.f52=some yCm.fn:=by kernel_rfl
def yHr:List (Nat×List Nat):=[(5,[1,2,13,20,21,22,23,24]),(4,[1,2,13,14,15,16,17,18,19]),(3,[0,11]),(2,[0,1,2,11,12]),(1,[8,9,10]),(0,[7])]
theorem yx6:compFn Try.prog [6] (fun i=>(yHr.lookup i).getD []) Try.f54=some ywM.fn:=by kernel_rfl
def yIL:List (Nat×List Nat):=[(5,[0,1,6,7,8,19,20,21,22,23,24,25,26,27,28,29,30,31,32]),(4,[16,17,18]),(3,[10,12,13,14,15]),(2,[0,1,10,11]),(1,[9]),(0,[5])]
theorem yBJ:compFn Try.prog [4] (fun i=>(yIL.lookup i).getD []) Try.f69=some yAh.fn:=by kernel_rfl
def yIM:List (Nat×List Nat):=[(3,[7,20]),(2,[1,5,8,14,15,16,17,18,19]),(1,[2,6,9,10,11,12,13]),(0,[0])]
theorem yBK:compFn Try.prog [2,4,7] (fun i=>(yIM.lookup i).getD []) Try.f34=some yAi.fn:=by kernel_rfl
def yIx:List (Nat×List Nat):=[(3,[25]),(2,[25]),(1,[1,3,4,5,6,7,8,9,10,11,12,13,14,15,16,17,18,19,20,21,22,23,24]),(0,[0,2])]
theorem yzk:compFn Try.prog [1] (fun i=>(yIx.lookup i).getD []) Try.f63=some yye.fn:=by kernel_rfl
def yIN:List (Nat×List Nat):=[(1,[0,3,4])]
theorem yBL:compFn Try.prog [2] (fun i=>(yIN.lookup i).getD []) Try.f67=some yAj.fn:=by kernel_rfl
def yDZ:List (Nat×List Nat):=[(8,[3,6,7,8,9,17]),(7,[5,14,16]),(6,[3,5,6,7,8,14,15]),(5,[12,13]),(4,[9,10,11]),(2,[0]),(0,[2])]
theorem yrZ:compFn Try.prog [] (fun i=>(yDZ.lookup i).getD []) Try.f84=some yra.fn:=by kernel_rfl
def yIy:List (Nat×List Nat):=[(1,[2,3,5,6,7,8,9,10]),(0,[0,1,4])]
theorem yzl:compFn Try.prog [9,2,3] (fun i=>(yIy.lookup i).getD []) Try.f50=some yyf.fn:=by kernel_rfl
def yFq:List (Nat×List Nat):=[(1,[0,3,4,5]),(0,[2])]
theorem ytP:compFn Try.prog [] (fun i=>(yFq.lookup i).getD []) Try.f93=some ysi.fn:=by kernel_rfl
def yDF:List (Nat×List Nat):=[(13,[19]),(12,[19]),(11,[0,1,16,17,18]),(10,[0,1,16]),(9,[13,14,15]),(8,[0,1,13]),(7,[6,11]),(6,[12]),(5,[12]),(4,[0,1,6,11]),(3,[5]),(2,[9,10]),(1,[7,8]),(0,[4])]
theorem yqb:compFn Try.prog [] (fun i=>(yDF.lookup i).getD []) Try.f89=some ypN.fn:=by kernel_rfl
def yKF:List (Nat×List Nat):=[(11,[0,1,48,49,50]),(10,[7,9,12,13,40,41,42,43,44,45,46,47]),(9,[6,35,36,37,38,39]),(8,[11,33,34]),(7,[31,32]),(6,[8,10,25,26,27,28,29,30]),(5,[22,23,24]),(4,[20,21]),(3,[18,19]),(2,[16,17]),(1,[14,15]),(0,[4,5])]
theorem yHf:compFn Try.prog [] (fun i=>(yKF.lookup i).getD []) Try.f53=some yGA.fn:=by kernel_rfl
def yD0:List (Nat×List Nat):=[(1,[0,3,4,5]),(0,[2])]
theorem yr0:compFn Try.prog [] (fun i=>(yD0.lookup i).getD []) Try.f94=some yrb.fn:=by kernel_rfl
def yBT:List (Nat×List Nat):=[(13,[19]),(12,[19]),(11,[0,1,16,17,18]),(10,[0,1,16]),(9,[13,14,15]),(8,[0,1,13]),(7,[6,11]),(6,[12]),(5,[12]),(4,[0,1,6,11]),(3,[5]),(2,[9,10]),(1,[7,8]),(0,[4])]
theorem ypo:compFn Try.prog [] (fun i=>(yBT.lookup i).getD []) Try.f91=some yok.fn:=by kernel_rfl
def yIO:List (Nat×List Nat):=[(8,[3,6,7,8,9,17]),(7,[5,14,16]),(6,[3,5,6,7,8,14,15]),(5,[12,13]),(4,[9,10,11]),(2,[0]),(0,[2])]
theorem yBM:compFn Try.prog [] (fun i=>(yIO.lookup i).getD []) Try.f90=some yAk.fn:=by kernel_rfl
def yJH:List (Nat×List Nat):=[(11,[11,60,63]),(10,[60,61,62]),(9,[2,58,59]),(8,[7,8,9,10,50,51,52,53,54,55,56,57]),(7,[3,40,41,42,43,44,45,46,47,48,49]),(6,[24,30,31,32,33,34,35,36,37,38,39]),(5,[2,3,24,25,26,27,28,29]),(4,[6,16,18,19,20,21,22,23]),(3,[2,3,6,16,17]),(2,[15]),(1,[12,13,14]),(0,[0,1,4,5])]
theorem yDG:compFn Try.prog [56,2,3] (fun i=>(yJH.lookup i).getD []) Try.f83=some yCn.fn:=by kernel_rfl
def yJI:List (Nat×List Nat):=[(2,[5,13,14]),(1,[2,3,6,7,8,9,10,11,12]),(0,[0,1,4])]
theorem yDH:compFn Try.prog [2,3] (fun i=>(yJI.lookup i).getD []) Try.f66=some yCo.fn:=by kernel_rfl
def yIP:List (Nat×List Nat):=[(1,[2,3,5,6,7,8,9,10,11,12,13,14,15,16,17,18,19,20]),(0,[0,1,4])]
theorem yBN:compFn Try.prog [2,3] (fun i=>(yIP.lookup i).getD []) Try.f62=some yAl.fn:=by kernel_rfl
def yKG:List (Nat×List Nat):=[(10,[0,14,19,20,21,22,23,24]),(9,[17,18]),(8,[14,15,16]),(7,[8,13]),(6,[11,12]),(5,[8,9,10]),(4,[4,7]),(2,[2,4,5,6]),(1,[3])]
theorem yHg:compFn Try.prog [] (fun i=>(yKG.lookup i).getD []) Try.f92=some yGB.fn:=by kernel_rfl
def yD1:List (Nat×List Nat):=[(1,[0,3,4,5]),(0,[2])]
theorem yr1:compFn Try.prog [] (fun i=>(yD1.lookup i).getD []) Try.f85=some yrc.fn:=by kernel_rfl
def yKH:List (Nat×List Nat):=[(28,[2,8,9,10,14,15,16,17,18,113,120,121,122,123,124,125,126,127,128,129,130,131,132,133,134]),(27,[119]),(26,[116,117,118]),(25,[113,114,115]),(24,[102,103,104,105,106,107,108,109,110,111,112,120]),(23,[97,98,99,100,101]),(22,[94,95,96]),(21,[11,13,16,78,85,86,87,88,89,90,91,92,93]),(20,[84]),(19,[81,82,83]),(18,[78,79,80]),(17,[67,68,69,70,71,72,73,74,75,76,77,85]),(16,[62,63,64,65,66]),(15,[59,60,61]),(14,[12,57,58]),(13,[55,56]),(12,[1,52,53,54]),(11,[0,44,45,46,47,48,49,50,51]),(10,[42,43]),(9,[40,41]),(8,[37,38,39]),(7,[27,34,35,36]),(6,[0,1,2,27,28,29,30,31,32,33]),(5,[24,26]),(4,[24,25]),(3,[20,22,23]),(2,[20,21]),(1,[19]),(0,[6,7])]
theorem yHh:compFn Try.prog [] (fun i=>(yKH.lookup i).getD []) Try.f58=some yGC.fn:=by kernel_rfl
def yKI:List (Nat×List Nat):=[(2,[8,18]),(1,[0,1,2,7,9,10,11,12,13,14,15,16,17]),(0,[6])]
theorem yHi:compFn Try.prog [] (fun i=>(yKI.lookup i).getD []) Try.f57=some yGD.fn:=by kernel_rfl
def yJJ:List (Nat×List Nat):=[(26,[12,17,20,153,155,156,157,158,159,160]),(25,[12,17,20,153,154]),(24,[19,152]),(23,[2,3,7,16,138,139,140,141,142,143,144,145,146,147,148,149,150,151]),(22,[13,14,18,129,131,132,133,134,135,136,137]),(21,[2,3,7,12,13,14,16,129,130]),(20,[127,128]),(19,[119,121,122,123,124,125,126]),(18,[2,3,7,12,13,14,119,120]),(17,[114,115,116,117,118]),(16,[8,10,15,107,108,109,110,111,112,113]),(15,[9,11,94,101,102,103,104,105,106]),(14,[99,100]),(13,[94,95,96,97,98]),(12,[68,82,83,84,85,86,87,88,89,90,91,92,93]),(11,[8,10,15,75,76,77,78,79,80,81]),(10,[9,11,68,69,70,71,72,73,74]),(9,[62,63,64,65,66,67]),(8,[13,14,15]),(7,[59,60,61]),(6,[47,48,49,50,51,52,53,54,55,56,57,58]),(5,[35,36,37,38,39,40,41,42,43,44,45,46]),(4,[6,25,28,29,30,31,32,33,34]),(3,[2,3,6,25,26,27]),(2,[24]),(1,[21,22,23]),(0,[0,1,5])]
theorem yDI:compFn Try.prog [2,3,4] (fun i=>(yJJ.lookup i).getD []) Try.f29=some yCp.fn:=by kernel_rfl
def yJK:List (Nat×List Nat):=[(5,[2,3,18,19,20,21,22]),(4,[6,11,14,15,16,17]),(3,[2,3,6,11,12,13]),(2,[10]),(1,[7,8,9]),(0,[0,1,5])]
theorem yDJ:compFn Try.prog [2,3,4] (fun i=>(yJK.lookup i).getD []) Try.f26=some yCq.fn:=by kernel_rfl
def yJL:List (Nat×List Nat):=[(10,[2,3,14,16,65,67,68,69,70,71,72,73,74,75,76,77,78,79,80,81,82]),(9,[2,3,14,16,65,66]),(8,[13,15,62,63,64]),(7,[8,10,11,12,52,53,54,55,56,57,58,59,60,61]),(6,[7,9,42,43,44,45,46,47,48,49,50,51]),(5,[36,37,38,39,40,41]),(4,[6,21,24,25,26,27,28,29,30,31,32,33,34,35]),(3,[2,3,6,21,22,23]),(2,[20]),(1,[17,18,19]),(0,[0,1,5])]
theorem yDK:compFn Try.prog [2,3,4] (fun i=>(yJL.lookup i).getD []) Try.f28=some yCr.fn:=by kernel_rfl
def yJM:List (Nat×List Nat):=[(8,[2,3,19,34,35,36,37,38,39,40,41,42]),(7,[2,3,19,23,24,25,26,27,28,29,30,31,32,33]),(6,[14,20,21,22]),(5,[2,3,14,18]),(4,[6,11,15,16,17]),(3,[2,3,6,11,12,13]),(2,[10]),(1,[7,8,9]),(0,[0,1,5])]
theorem yDL:compFn Try.prog [2,3,4] (fun i=>(yJM.lookup i).getD []) Try.f27=some yCs.fn:=by kernel_rfl
def yIz:List (Nat×List Nat):=[(12,[5,6,7,14,15,41,48]),(11,[6,7,14,41,42,43,44,45,46,47]),(10,[40]),(9,[3,4,9,20,33,34,35,36,37,38,39]),(8,[5,13,29,31,32]),(7,[5,29,30]),(6,[28]),(5,[4,12,27]),(4,[3,6,7,9,20,21,22,23,24,25,26]),(3,[17,18,19]),(2,[3,4,5,6,7,9,17]),(1,[16]),(0,[0,1,2,8,11])]
theorem yzm:compFn Try.prog [7,8,9,12,14] (fun i=>(yIz.lookup i).getD []) Try.f65=some yqm.fn:=by kernel_rfl
def yJN:List (Nat×List Nat):=[(18,[2,3,4,14,15,16,17]),(17,[8,9,31,61]),(16,[9,59,60]),(15,[2,3,4,9,14,15,16,59]),(14,[8,10,12,34,52,54,55,56,57,58]),(13,[2,3,4,8,9,10,12,14,15,16,52,53]),(12,[51]),(11,[11,42,44,45,46,47,48,49,50]),(10,[2,3,4,8,9,10,11,12,14,15,16,42,43]),(9,[41]),(8,[34,35,36,37,38,39,40]),(7,[33]),(6,[31,32]),(5,[28,29,30]),(4,[7,21,22,23,24,25,26,27]),(3,[17,18,19,20]),(1,[13]),(0,[0,1,6])]
theorem yDM:compFn Try.prog [3,4,9,10,11] (fun i=>(yJN.lookup i).getD []) Try.f64=some yCt.fn:=by kernel_rfl
def yJO:List (Nat×List Nat):=[(15,[9,10,45,48]),(14,[9,10,45,46,47]),(13,[11,42,44]),(12,[11,42,43]),(11,[41]),(10,[3,4,5,37,38,39,40]),(8,[35]),(7,[3,4,5,35,36]),(6,[31,33,34]),(5,[3,4,5,31,32]),(4,[8,15,18,19,20,21,22,23,24,25,26,27,28,29,30]),(3,[3,4,5,8,15,16,17]),(2,[14]),(1,[12,13]),(0,[0,1,2,7])]
theorem yDN:compFn Try.prog [3,4,6] (fun i=>(yJO.lookup i).getD []) Try.f33=some yCu.fn:=by kernel_rfl
def yFr:List (Nat×List Nat):=[(1,[1,4,6,7,10,11,12,13,14,15,16,17,18,19,20]),(0,[0,2,3,9])]
theorem ytQ:compFn Try.prog [4,6,7,8] (fun i=>(yFr.lookup i).getD []) Try.f82=some ysj.fn:=by kernel_rfl
def yGb:List (Nat×List Nat):=[(1,[1,2,5,6,7,8,9,10,11,12,13,14]),(0,[0,4])]
theorem yuN:compFn Try.prog [2] (fun i=>(yGb.lookup i).getD []) Try.f88=some yt0.fn:=by kernel_rfl
def yGc:List (Nat×List Nat):=[(13,[3,4,10,12,59,60,61,62,63,64,65,66,67,68,69,70,71,72]),(12,[53,54,55,56,57,58]),(11,[48,51,52]),(10,[3,4,10,48,49,50]),(9,[11,40,44,45,46,47]),(8,[3,4,10,11,40,41,42,43]),(7,[39]),(6,[2,25,28,29,30,31,32,33,34,35,36,37,38]),(5,[2,3,4,25,26,27]),(4,[9,17,21,22,23,24]),(3,[2,3,4,9,17,18,19,20]),(2,[16]),(1,[13,14,15]),(0,[0,1,8])]
theorem yuO:compFn Try.prog [69,3,4,6,7,10] (fun i=>(yGc.lookup i).getD []) Try.f81=some yt1.fn:=by kernel_rfl
def yJ1:List (Nat×List Nat):=[(2,[1,6,7,11,14,15,16,17,18,19,20,21,22,23,24]),(1,[4,12,13]),(0,[0,2,3,10])]
theorem yFs:compFn Try.prog [4,6,7,8,9,11] (fun i=>(yJ1.lookup i).getD []) Try.f47=some yEp.fn:=by kernel_rfl
def yIQ:List (Nat×List Nat):=[(2,[5,13,14]),(1,[2,3,6,7,8,9,10,11,12]),(0,[0,1,4])]
theorem yBO:compFn Try.prog [2,3] (fun i=>(yIQ.lookup i).getD []) Try.f48=some yAm.fn:=by kernel_rfl
def yIA:List (Nat×List Nat):=[(30,[6,7,125,126,127,128,129,130,131,132,133]),(29,[0,9,47,111,112,113,114,115,116,117,118,119,120,121,122,123,124]),(28,[11,110]),(27,[10,102,103,104,105,106,107,108,109]),(26,[17,98,99,100,101]),(25,[90,91,92,93,94,95,96,97]),(24,[49,50,51,52,86,87,88,89]),(23,[12,15,82,85]),(22,[12,15,82,83,84]),(21,[76,77,78,79,80,81]),(20,[14,16,72,75]),(19,[0,6,7,9,10,11,12,14,15,16,49,50,51,72,73,74]),(18,[71]),(17,[13,56,57,58,59,60,61,62,63,64,65,66,67,68,69,70]),(16,[52,53,54,55]),(13,[47,48]),(12,[45,46]),(11,[44]),(10,[31,32,33,40,41,42,43]),(9,[39]),(8,[8,35,36,37,38]),(7,[33,34]),(5,[30]),(4,[5,24,27,28,29]),(3,[0,6,24,25,26]),(2,[23]),(1,[18,19,20,21,22]),(0,[4,5])]
theorem yzn:compFn Try.prog [37,96,100,123,130,2,6,9,11,14,15] (fun i=>(yIA.lookup i).getD []) Try.f15=some yyg.fn:=by kernel_rfl
def yKJ:List (Nat×List Nat):=[(1,[2,3,4,5,6,7])]
theorem yHj:compFn Try.prog [2,3,5,6,0,1] (fun i=>(yKJ.lookup i).getD []) Try.f17=some yGE.fn:=by kernel_rfl
def yKQ:List (Nat×List Nat):=[(1,[0,3,4])]
theorem yIB:compFn Try.prog [2] (fun i=>(yKQ.lookup i).getD []) Try.f31=some yHP.fn:=by kernel_rfl
def yKR:List (Nat×List Nat):=[(1,[0,3,4])]
theorem yIC:compFn Try.prog [2] (fun i=>(yKR.lookup i).getD []) Try.f18=some yHQ.fn:=by kernel_rfl
def yID:List (Nat×List Nat):=[(4,[2,3,6,10,13,14,15,16,17,18,19]),(3,[2,3,6,10,11,12]),(2,[9]),(1,[7,8]),(0,[0,1,5])]
theorem yzo:compFn Try.prog [2,3,4] (fun i=>(yID.lookup i).getD []) Try.f8=some yyh.fn:=by kernel_rfl
def yIR:List (Nat×List Nat):=[(28,[3,5,9,10,42,43,44,45,105]),(27,[13,70,104]),(26,[13,15,100,103]),(25,[3,5,9,10,13,15,42,43,44,100,101,102]),(24,[99]),(23,[16,90,93,94,95,96,97,98]),(22,[3,5,9,10,13,15,16,42,43,44,90,91,92]),(21,[89]),(20,[12,14,79,82,83,84,85,86,87,88]),(19,[3,5,9,10,12,13,14,15,42,43,44,79,80,81]),(18,[78]),(17,[67,72,73,74,75,76,77]),(16,[13,70,71]),(15,[12,67,68,69]),(14,[58,60,61,62,63,64,65,66]),(13,[58,59]),(12,[56,57]),(11,[11,49,50,51,52,53,54,55]),(10,[45,46,47,48]),(8,[41]),(7,[4,40]),(6,[37,39]),(5,[3,4,5,37,38]),(4,[8,20,23,24,25,26,27,28,29,30,31,32,33,34,35,36]),(3,[3,4,5,8,20,21,22]),(2,[19]),(1,[17,18]),(0,[0,1,2,7])]
theorem yBP:compFn Try.prog [3,4,5,6,9,10,13,14,16] (fun i=>(yIR.lookup i).getD []) Try.f43=some yAn.fn:=by kernel_rfl
def yJP:List (Nat×List Nat):=[(10,[4,10,11,39,42,43,44,45,46,47]),(9,[4,10,11,39,40,41]),(8,[38]),(7,[5,9,28,31,32,33,34,35,36,37]),(6,[4,5,9,10,28,29,30]),(5,[27]),(4,[3,8,18,21,22,23,24,25,26]),(3,[3,4,5,8,18,19,20]),(2,[17]),(1,[12,13,14,15,16]),(0,[0,1,2,7])]
theorem yDO:compFn Try.prog [14,3,4,5,6,9,11] (fun i=>(yJP.lookup i).getD []) Try.f12=some yCv.fn:=by kernel_rfl
def yIS:List (Nat×List Nat):=[(7,[2,3,8,9,10,11,21,22,23]),(6,[6,17,20]),(5,[2,3,6,8,9,10,17,18,19]),(4,[14,15,16]),(3,[11,12,13]),(1,[7]),(0,[0,1])]
theorem yBQ:compFn Try.prog [2,3,4] (fun i=>(yIS.lookup i).getD []) Try.f24=some yAo.fn:=by kernel_rfl
def yHs:List (Nat×List Nat):=[(3,[2,3,7,9]),(2,[2,3,7,8]),(1,[5,6]),(0,[0,1])]
theorem yx7:compFn Try.prog [2,3,4] (fun i=>(yHs.lookup i).getD []) Try.f23=some ywN.fn:=by kernel_rfl
def yIE:List (Nat×List Nat):=[(4,[7,30]),(3,[2,5,8,23,24,25,26,27,28,29]),(2,[16,17,18,19,20,21,22]),(1,[3,6,9,10,11,12,13,14,15]),(0,[0,1])]
theorem yzp:compFn Try.prog [2,3,4,5,7] (fun i=>(yIE.lookup i).getD []) Try.f25=some yyi.fn:=by kernel_rfl
def yIT:List (Nat×List Nat):=[(27,[14,16,17,117,148]),(26,[25,142,143,144,145,146,147]),(25,[21,23,26,136,137,138,139,140,141]),(24,[16,24,130,131,132,133,134,135]),(23,[14,19,22,124,125,126,127,128,129]),(22,[17,20,117,118,119,120,121,122,123]),(21,[100,101,102,103,104,105,106,107,108,109,110,111,112,113,114,115,116]),(20,[18,93,94,95,96,97,98,99]),(19,[12,72,76,77,78,79,80,81,82,83,84,85,86,87,88,89,90,91,92]),(18,[2,3,11,12,14,72,73,74,75]),(17,[70,71]),(16,[15,63,64,65,66,67,68,69]),(15,[13,57,58,59,60,61,62]),(14,[38,39,40,41,56]),(13,[45,46,47,48,55]),(12,[52,54]),(11,[2,3,38,39,40,45,46,47,52,53]),(10,[10,51]),(9,[48,49,50]),(7,[8,44]),(6,[41,42,43]),(4,[6,33,36,37]),(3,[2,3,6,33,34,35]),(2,[32]),(1,[27,28,29,30,31]),(0,[0,1,5])]
theorem yBR:compFn Try.prog [29,2,3,4,8,11,12,14,16,17,19,21,23,25] (fun i=>(yIT.lookup i).getD []) Try.f6=some yAp.fn:=by kernel_rfl
def yJ2:List (Nat×List Nat):=[(8,[0,1,5,14]),(5,[15,16,25]),(7,[0,1,5,25]),(6,[14,17,18,19,20,21,22,23,24]),(4,[11,12,13]),(3,[10]),(2,[0,1,10]),(1,[6,7,8,9]),(0,[4])]
theorem yFt:compFn Try.prog [] (fun i=>(yJ2.lookup i).getD []) Try.f19=some yEq.fn:=by kernel_rfl
def yJ3:List (Nat×List Nat):=[(8,[0,1,5,14]),(5,[15,16,25]),(7,[0,1,5,25]),(6,[14,17,18,19,20,21,22,23,24]),(4,[11,12,13]),(3,[10]),(2,[0,1,10]),(1,[6,7,8,9]),(0,[4])]
theorem yFu:compFn Try.prog [] (fun i=>(yJ3.lookup i).getD []) Try.f49=some yEr.fn:=by kernel_rfl
def yJ4:List (Nat×List Nat):=[(8,[2,3,5,17]),(5,[18,19,31]),(7,[2,3,5,31]),(6,[17,20,21,22,23,24,25,26,27,28,29,30]),(4,[13,14,15,16]),(3,[12]),(2,[2,3,12]),(1,[6,7,8,9,10,11]),(0,[0,1,4])]
theorem yFv:compFn Try.prog [2,3] (fun i=>(yJ4.lookup i).getD []) Try.f20=some yEs.fn:=by kernel_rfl
def yJQ:List (Nat×List Nat):=[(8,[1,2,3,4,5,6,9,10,11,12,13,14,15,16,56,57,58,59,60,61,62,63,64,65,66,67,68,69,70,71,72,73,74,75,76,77,78,79,80,81,82,83,84,85,86,87,88,89,90,91,92,93,94,95,96,97,98,99,100,101,102,103,104,105,106,107,108,109,110,111,112,113,114,115,116,117,118,119,120,121,122,123]),(7,[7,8,50,51,52,53,54,55]),(6,[43,44,45,46,47,48,49]),(5,[36,37,38,39,40,41,42]),(4,[30,31,32,33,34,35]),(3,[26,27,28,29]),(2,[24,25]),(1,[17,18,19,20,21,22,23]),(0,[0])]
theorem yDP:compFn Try.prog [60,73,77,81,82,1,5,6,7,8,9,11,13,15] (fun i=>(yJQ.lookup i).getD []) Try.f5=some yCw.fn:=by kernel_rfl
def yKK:List (Nat×List Nat):=[(3,[0,4,10,11]),(2,[0,4,5,6,7,8,9]),(1,[3]),(0,[2])]
theorem yHk:compFn Try.prog [] (fun i=>(yKK.lookup i).getD []) Try.f41=some yGF.fn:=by kernel_rfl
def yKL:List (Nat×List Nat):=[(3,[0,1,6,11]),(2,[6,7,8,9,10]),(1,[5]),(0,[4])]
theorem yHl:compFn Try.prog [] (fun i=>(yKL.lookup i).getD []) Try.f59=some yGG.fn:=by kernel_rfl
def yJR:List (Nat×List Nat):=[(3,[30]),(2,[30]),(1,[1,3,4,5,6,7,8,9,10,11,12,13,14,15,16,17,18,19,20,21,22,23,24,25,26,27,28,29]),(0,[0,2])]
theorem yDQ:compFn Try.prog [1] (fun i=>(yJR.lookup i).getD []) Try.f30=some yCx.fn:=by kernel_rfl
def yJS:List (Nat×List Nat):=[(5,[5,7,9,10,11,35,36,37,38,39,40,41,42,43,44,45,46,47,48,49]),(4,[6,26,27,28,29,30,31,32,33,34]),(3,[8,20,21,22,23,24,25]),(2,[1,16,17,18,19]),(1,[0,12,13,14,15])]
theorem yDR:compFn Try.prog [4] (fun i=>(yJS.lookup i).getD []) Try.f40=some yCy.fn:=by kernel_rfl
def yJ5:List (Nat×List Nat):=[(1,[2,3,5,6,7,8,9,10,11,12,13,14,15,16,17,18,19,20,21,22,23]),(0,[0,1,4])]
theorem yFw:compFn Try.prog [2,3] (fun i=>(yJ5.lookup i).getD []) Try.f42=some yEt.fn:=by kernel_rfl
def yJ6:List (Nat×List Nat):=[(6,[5,6,33,37,38,39]),(5,[5,6,33,34,35,36]),(4,[2,31,32]),(3,[3,13,17,18,19,20,21,22,23,24,25,26,27,28,29,30]),(2,[2,3,13,14,15,16]),(1,[7,8,9,10,11,12]),(0,[0,1,4])]
theorem yFx:compFn Try.prog [2,3,5,6] (fun i=>(yJ6.lookup i).getD []) Try.f11=some yEu.fn:=by kernel_rfl
def yJT:List (Nat×List Nat):=[(1,[0,3,5,6,7,8,9,10,11,12,13,14,15,16,17,18,19]),(0,[1,4])]
theorem yDS:compFn Try.prog [3] (fun i=>(yJT.lookup i).getD []) Try.f7=some yCz.fn:=by kernel_rfl
def yJU:List (Nat×List Nat):=[(3,[2,3,7,9]),(2,[2,3,7,8]),(1,[5,6]),(0,[0,1])]
theorem yDT:compFn Try.prog [2,3,4] (fun i=>(yJU.lookup i).getD []) Try.f70=some yCA.fn:=by kernel_rfl
def yIU:List (Nat×List Nat):=[(3,[2,3,7,9]),(2,[2,3,7,8]),(1,[5,6]),(0,[0,1])]
theorem yBS:compFn Try.prog [2,3,4] (fun i=>(yIU.lookup i).getD []) Try.f71=some yAq.fn:=by kernel_rfl
def yJ7:List (Nat×List Nat):=[(3,[2,3,7,10,11]),(2,[2,3,7,8,9]),(1,[5,6]),(0,[0,1,4])]
theorem yFy:compFn Try.prog [2,3] (fun i=>(yJ7.lookup i).getD []) Try.f74=some yEv.fn:=by kernel_rfl
def yKM:List (Nat×List Nat):=[(2,[1,7]),(1,[3,4,5,6]),(0,[0])]
theorem yHm:compFn Try.prog [1,2] (fun i=>(yKM.lookup i).getD []) Try.f86=some yGH.fn:=by kernel_rfl
def yJ8:List (Nat×List Nat):=[(5,[5,6,20,23,24,25]),(4,[20,21,22]),(3,[2,17,18,19]),(2,[3,12,13,14,15,16]),(1,[7,8,9,10,11]),(0,[0,1])]
theorem yFz:compFn Try.prog [2,3,4] (fun i=>(yJ8.lookup i).getD []) Try.f75=some yEw.fn:=by kernel_rfl
def yJV:List (Nat×List Nat):=[(4,[2,3,5,15,18,19,20,21,22,23,24]),(3,[15,16,17]),(2,[11,12,13,14]),(1,[6,7,8,9,10]),(0,[0,1])]
theorem yDU:compFn Try.prog [2,3,4] (fun i=>(yJV.lookup i).getD []) Try.f76=some yCB.fn:=by kernel_rfl
def yJW:List (Nat×List Nat):=[(14,[1,2,6,7,8,11,45,46]),(5,[12,13,37]),(13,[41,42,43,44]),(12,[37,38,39,40]),(11,[35,36]),(10,[32,33,34]),(9,[9,21,28,29,30,31]),(8,[21,22,23,24,25,26,27]),(7,[20]),(6,[11,14,15,16,17,18,19]),(4,[10]),(0,[0,5])]
theorem yDV:compFn Try.prog [2,4,6] (fun i=>(yJW.lookup i).getD []) Try.f77=some yCC.fn:=by kernel_rfl
def yJ9:List (Nat×List Nat):=[(6,[8,35,40]),(5,[35,36,37,38,39]),(4,[0]),(3,[4,5,26,28,29,30,31,32,33,34]),(2,[0,4,5,26,27]),(1,[9,10,11,12,13,14,15,16,17,18,19,20,21,22,23,24,25]),(0,[1,2,7])]
theorem yFA:compFn Try.prog [4,5,6,8] (fun i=>(yJ9.lookup i).getD []) Try.f78=some yEx.fn:=by kernel_rfl
def yKN:List (Nat×List Nat):=[(17,[2,3,6,9,13,14,93,94,95,96,97,98,99,100,101,102,103,104,105,106,107,108]),(16,[10,15,87,88,89,90,91,92]),(15,[12,84,85,86]),(14,[11,76,78,79,80,81,82,83]),(13,[2,3,6,9,10,76,77]),(12,[7,8,61,67,74,75]),(11,[71,72,73]),(10,[7,8,9,67,68,69,70]),(9,[65,66]),(8,[61,62,63,64]),(7,[55,56,57,58,59,60]),(6,[52,53,54]),(5,[49,50,51]),(4,[31,32,33,34,35,36,37,38,39,40,41,42,43,44,45,46,47,48]),(3,[19,24,25,26,27,28,29,30]),(2,[2,3,19,20,21,22,23]),(1,[16,17,18]),(0,[0,1,5])]
theorem yHn:compFn Try.prog [2,3,4,7,8,10,11,14] (fun i=>(yKN.lookup i).getD []) Try.f37=some yGI.fn:=by kernel_rfl
def yKO:List (Nat×List Nat):=[(3,[2,3,9,14,15,16,17,18,19]),(2,[2,3,9,10,11,12,13]),(1,[6,7,8]),(0,[0,1,5])]
theorem yHo:compFn Try.prog [2,3,4] (fun i=>(yKO.lookup i).getD []) Try.f72=some yGJ.fn:=by kernel_rfl
def yKP:List (Nat×List Nat):=[(4,[2,3,6,7,30,31,32,33,34,35,36,37,38,39,40,41,42,43,44,45,46,47,48,49,50,51,52,53,54,55,56,57,58,59,60,61,62,63,64,65,66,67,68,69,70,71]),(3,[11,16,17,18,19,20,21,22,23,24,25,26,27,28,29]),(2,[2,3,11,12,13,14,15]),(1,[8,9,10]),(0,[0,1,5])]
theorem yHp:compFn Try.prog [2,3,4] (fun i=>(yKP.lookup i).getD []) Try.f73=some yGK.fn:=by kernel_rfl
def yJX:List (Nat×List Nat):=[(7,[1,4,12,13,51,54,55,56,57,58,59,60,61,62,63]),(6,[1,4,12,13,51,52,53]),(5,[50]),(4,[10,11,42,44,45,46,47,48,49]),(3,[1,4,10,11,42,43]),(2,[31,32,33,34,35,36,37,38,39,40,41]),(1,[6,7,14,15,16,17,18,19,20,21,22,23,24,25,26,27,28,29,30]),(0,[0,2,3,9])]
theorem yDW:compFn Try.prog [4,6,7,8,10,11,12] (fun i=>(yJX.lookup i).getD []) Try.f36=some yCD.fn:=by kernel_rfl
def yJY:List (Nat×List Nat):=[(15,[3,4,5,8,9,41,66]),(8,[11,42,43,63]),(14,[3,4,5,8,9,11,63,64,65]),(13,[62]),(12,[10,53,56,57,58,59,60,61]),(11,[3,4,5,8,9,10,11,53,54,55]),(10,[52]),(9,[41,44,45,46,47,48,49,50,51]),(7,[37,38,39,40]),(5,[34,36]),(4,[3,4,5,34,35]),(3,[14,18,19,20,21,22,23,24,25,26,27,28,29,30,31,32,33]),(2,[3,4,5,14,15,16,17]),(1,[12,13]),(0,[0,1,2,7])]
theorem yDX:compFn Try.prog [3,4,5,6,8,10] (fun i=>(yJY.lookup i).getD []) Try.f9=some yCE.fn:=by kernel_rfl
def yJZ:List (Nat×List Nat):=[(6,[1,3,4,9,32]),(4,[10,11]),(5,[9,12,13,14,15,16,17,18,19,20,21,22,23,24,25,26,27,28,29,30,31]),(3,[5,6,7,8]),(0,[0,2])]
theorem yDY:compFn Try.prog [1] (fun i=>(yJZ.lookup i).getD []) Try.f39=some yCF.fn:=by kernel_rfl
def yKa:List (Nat×List Nat):=[(5,[0,1,6,7,8,19,20,21,22,23,24,25,26,27,28,29,30,31,32,33,34]),(4,[16,17,18]),(3,[10,12,13,14,15]),(2,[0,1,10,11]),(1,[9]),(0,[5])]
theorem yFB:compFn Try.prog [4] (fun i=>(yKa.lookup i).getD []) Try.f38=some yEy.fn:=by kernel_rfl
def yKb:List (Nat×List Nat):=[(2,[3,11]),(1,[1,4,5,6,7,8,9,10]),(0,[0])]
theorem yFC:compFn Try.prog [1,2,3] (fun i=>(yKb.lookup i).getD []) Try.f10=some yEz.fn:=by kernel_rfl
def yGd:List (Nat×List Nat):=[(14,[15,16,119,120,121,122,123,124,125,126,127,128,129,130,131,132]),(13,[3,4,5,110,112,113,114,115,116,117,118]),(12,[3,4,5,110,111]),(11,[7,98,99,100,101,102,103,104,105,106,107,108,109]),(10,[3,4,5,7,98]),(9,[9,10,11,12,13,14,71,72,73,74,75,76,77,78,79,80,81,82,83,84,85,86,87,88,89,90,91,92,93,94,95,96,97]),(8,[62,63,64,65,66,67,68,69,70]),(7,[53,54,55,56,57,58,59,60,61]),(6,[45,46,47,48,49,50,51,52]),(5,[3,4,5,7,45]),(4,[8,28,29,30,31,32,33,34,35,36,37,38,39,40,41,42,43,44]),(3,[20,22,23,24,25,26,27]),(2,[3,4,5,20,21]),(1,[17,18,19]),(0,[0,1,2,6])]
theorem yuP:compFn Try.prog [3,4,5,7,9,11,13,15] (fun i=>(yGd.lookup i).getD []) Try.f3=some yt2.fn:=by kernel_rfl
theorem tabOk:AllOk Try.prog tab:=by
  unfold tab
  simp only [AllOk]
  exact ⟨⟨Try.f79,_,_,Try.func79,yDz⟩,⟨Try.f44,_,_,Try.func44,yuM⟩,⟨Try.f35,_,_,Try.func35,yDA⟩,⟨Try.f45,_,_,Try.func45,yDB⟩,⟨Try.f13,_,_,Try.func13,yHc⟩,⟨Try.f14,_,_,Try.func14,yBD⟩,⟨Try.f4,_,_,Try.func4,yBE⟩,⟨Try.f16,_,_,Try.func16,yDC⟩,⟨Try.f60,_,_,Try.func60,yv1⟩,⟨Try.f61,_,_,Try.func61,yv2⟩,⟨Try.f32,_,_,Try.func32,yBF⟩,⟨Try.f21,_,_,Try.func21,yDD⟩,⟨Try.f87,_,_,Try.func87,ytO⟩,⟨Try.f80,_,_,Try.func80,yBG⟩,⟨Try.f46,_,_,Try.func46,yFp⟩,⟨Try.f22,_,_,Try.func22,yzj⟩,⟨Try.f68,_,_,Try.func68,yBH⟩,⟨Try.f51,_,_,Try.func51,yBI⟩,⟨Try.f52,_,_,Try.func52,yDE⟩,⟨Try.f54,_,_,Try.func54,yx6⟩,⟨Try.f69,_,_,Try.func69,yBJ⟩,⟨Try.f34,_,_,Try.func34,yBK⟩,⟨Try.f63,_,_,Try.func63,yzk⟩,⟨Try.f67,_,_,Try.func67,yBL⟩,⟨Try.f84,_,_,Try.func84,yrZ⟩,⟨Try.f50,_,_,Try.func50,yzl⟩,⟨Try.f93,_,_,Try.func93,ytP⟩,⟨Try.f89,_,_,Try.func89,yqb⟩,⟨Try.f53,_,_,Try.func53,yHf⟩,⟨Try.f94,_,_,Try.func94,yr0⟩,⟨Try.f91,_,_,Try.func91,ypo⟩,⟨Try.f90,_,_,Try.func90,yBM⟩,⟨Try.f83,_,_,Try.func83,yDG⟩,⟨Try.f66,_,_,Try.func66,yDH⟩,⟨Try.f62,_,_,Try.func62,yBN⟩,⟨Try.f92,_,_,Try.func92,yHg⟩,⟨Try.f85,_,_,Try.func85,yr1⟩,⟨Try.f58,_,_,Try.func58,yHh⟩,⟨Try.f57,_,_,Try.func57,yHi⟩,⟨Try.f29,_,_,Try.func29,yDI⟩,⟨Try.f26,_,_,Try.func26,yDJ⟩,⟨Try.f28,_,_,Try.func28,yDK⟩,⟨Try.f27,_,_,Try.func27,yDL⟩,⟨Try.f65,_,_,Try.func65,yzm⟩,⟨Try.f64,_,_,Try.func64,yDM⟩,⟨Try.f33,_,_,Try.func33,yDN⟩,⟨Try.f82,_,_,Try.func82,ytQ⟩,⟨Try.f88,_,_,Try.func88,yuN⟩,⟨Try.f81,_,_,Try.func81,yuO⟩,⟨Try.f47,_,_,Try.func47,yFs⟩,⟨Try.f48,_,_,Try.func48,yBO⟩,⟨Try.f15,_,_,Try.func15,yzn⟩,⟨Try.f17,_,_,Try.func17,yHj⟩,⟨Try.f31,_,_,Try.func31,yIB⟩,⟨Try.f18,_,_,Try.func18,yIC⟩,⟨Try.f8,_,_,Try.func8,yzo⟩,⟨Try.f43,_,_,Try.func43,yBP⟩,⟨Try.f12,_,_,Try.func12,yDO⟩,⟨Try.f24,_,_,Try.func24,yBQ⟩,⟨Try.f23,_,_,Try.func23,yx7⟩,⟨Try.f25,_,_,Try.func25,yzp⟩,⟨Try.f6,_,_,Try.func6,yBR⟩,⟨Try.f19,_,_,Try.func19,yFt⟩,⟨Try.f49,_,_,Try.func49,yFu⟩,⟨Try.f20,_,_,Try.func20,yFv⟩,⟨Try.f5,_,_,Try.func5,yDP⟩,⟨Try.f41,_,_,Try.func41,yHk⟩,⟨Try.f59,_,_,Try.func59,yHl⟩,⟨Try.f30,_,_,Try.func30,yDQ⟩,⟨Try.f40,_,_,Try.func40,yDR⟩,⟨Try.f42,_,_,Try.func42,yFw⟩,⟨Try.f11,_,_,Try.func11,yFx⟩,⟨Try.f7,_,_,Try.func7,yDS⟩,⟨Try.f70,_,_,Try.func70,yDT⟩,⟨Try.f71,_,_,Try.func71,yBS⟩,⟨Try.f74,_,_,Try.func74,yFy⟩,⟨Try.f86,_,_,Try.func86,yHm⟩,⟨Try.f75,_,_,Try.func75,yFz⟩,⟨Try.f76,_,_,Try.func76,yDU⟩,⟨Try.f77,_,_,Try.func77,yDV⟩,⟨Try.f78,_,_,Try.func78,yFA⟩,⟨Try.f37,_,_,Try.func37,yHn⟩,⟨Try.f72,_,_,Try.func72,yHo⟩,⟨Try.f73,_,_,Try.func73,yHp⟩,⟨Try.f36,_,_,Try.func36,yDW⟩,⟨Try.f9,_,_,Try.func9,yDX⟩,⟨Try.f39,_,_,Try.func39,yDY⟩,⟨Try.f38,_,_,Try.func38,yFB⟩,⟨Try.f10,_,_,Try.func10,yFC⟩,⟨Try.f3,_,_,Try.func3,yuP⟩,trivial⟩
theorem hm:Try.prog.follows .mixedOrders=true:=by kernel_rfl
theorem isAdd:IsExtern Try.prog ygz add64Entry:=⟨_,Try.func55,by kernel_rfl,by kernel_rfl,by kernel_rfl,by kernel_rfl⟩
theorem isSub:IsExtern Try.prog ygA sub64E:=⟨_,Try.func56,by kernel_rfl,by kernel_rfl,by kernel_rfl,by kernel_rfl⟩
theorem k0C:EnvOk Try.prog E0C:=by
  refine yHL hm isAdd isSub tabOk ?_
  intro n e b h
  simp only [cloL,List.mem_cons,Prod.mk.injEq,List.not_mem_nil,or_false] at h
  rcases h with ⟨rfl,rfl,rfl⟩
  exact ⟨(.int .i64 (0)),by kernel_rfl⟩
theorem kN:EnvOk Try.prog (E []):=yHO k0C fun e h=>by cases h
end Go.Proofs.Ytpofkodjoakifaa.Ke
