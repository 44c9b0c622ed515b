/- The statement AuditTrue: what the conditions and their plain laws say of the program's functions, joined with the program. -/
import Derived.Test.YtfdnnbmkmlhidaaGreatRows

import Derived.Test.YtfdnnbmkmlhidaaGreatAtW6
import Derived.WalkKit
import Derived.ProofKit
import Derived.OpenShut
import Derived.ReadAgain
import Derived.ChangeBears




import Derived.Shelf.SlSortCmp.WholeK
import Derived.Test.YtfdnnbmkmlhidaaGreatShelf
namespace Go.Proofs.YtfdnnbmkmlhidaaGreat.At
open Go Go.Pf Go.Pf.Vc Go.ChangeShapes Go.WideShapes Go.ChangeAt Go.RowKit Go.Shelf Go.Sort Go.Lib Go.Proofs
set_option maxRecDepth 100000
def yLC:List (Nat×List Nat):=[(1,[1,3,4,5,6,7,8,9,10,11,12]),(0,[0,2])]
theorem yEv:compFn Tryz.prog [1] (fun i=>(yLC.lookup i).getD []) Tryz.f4=some yDb.fn:=by kernel_rfl
def yLD:List (Nat×List Nat):=[(14,[98]),(13,[98]),(12,[1,3,4,57,97]),(8,[58,59]),(11,[87,88,89,90,91,92,93,94,95,96]),(10,[1,3,4,87]),(9,[57,60,61,62,63,64,65,66,67,68,69,70,71,72,73,74,75,76,77,78,79,80,81,82,83,84,85,86]),(7,[53,54,55,56]),(5,[52]),(4,[1,52]),(3,[13,14,15,16,17,18,19,20,21,22,23,24,25,26,27,28,29,30,31,32,33,34,35,36,37,38,39,40,41,42,43,44,45,46,47,48,49,50,51]),(2,[1,13]),(1,[5,6,7,8,9,10,11,12]),(0,[0,2])]
theorem yEw:compFn Tryz.prog [1] (fun i=>(yLD.lookup i).getD []) Tryz.f5=some yDc.fn:=by kernel_rfl
def yLE:List (Nat×List Nat):=[(1,[0,3,4,5,6,7,8,9,10,11,12,13,14,15]),(0,[2])]
theorem yEx:compFn Tryz.prog [] (fun i=>(yLE.lookup i).getD []) Tryz.f6=some yDd.fn:=by kernel_rfl
def yM5:List (Nat×List Nat):=[(1,[0,3,4])]
theorem yKk:compFn Tryz.prog [2] (fun i=>(yM5.lookup i).getD []) Tryz.f17=some yJf.fn:=by kernel_rfl
def yLF:List (Nat×List Nat):=[(1,[0,1,2,7,8,9,10,11,12,13])]
theorem yEy:compFn Tryz.prog [6] (fun i=>(yLF.lookup i).getD []) Tryz.f14=some yDe.fn:=by kernel_rfl
def yL1:List (Nat×List Nat):=[(1,[0,1,2,7,8,9,10,11,12,13])]
theorem yGv:compFn Tryz.prog [6] (fun i=>(yL1.lookup i).getD []) Tryz.f15=some yFl.fn:=by kernel_rfl
def yKv:List (Nat×List Nat):=[(3,[0,4,8,9]),(2,[0,4,5,6,7]),(1,[3]),(0,[2])]
theorem yCx:compFn Tryz.prog [] (fun i=>(yKv.lookup i).getD []) Tryz.f44=some yA5.fn:=by kernel_rfl
def yLG:List (Nat×List Nat):=[(3,[0,1,6,11]),(2,[6,7,8,9,10]),(1,[5]),(0,[4])]
theorem yEz:compFn Tryz.prog [] (fun i=>(yLG.lookup i).getD []) Tryz.f45=some yDf.fn:=by kernel_rfl
def yKl:List (Nat×List Nat):=[(3,[25]),(2,[25]),(1,[1,3,4,5,6,7,8,9,10,11,12,13,14,15,16,17,18,19,20,21,22,23,24]),(0,[0,2])]
theorem yz9:compFn Tryz.prog [1] (fun i=>(yKl.lookup i).getD []) Tryz.f25=some yy7.fn:=by kernel_rfl
def yEU:List (Nat×List Nat):=[(8,[3,6,7,8,9,17]),(7,[5,14,16]),(6,[3,5,6,7,8,14,15]),(5,[12,13]),(4,[9,10,11]),(2,[0]),(0,[2])]
theorem yta:compFn Tryz.prog [] (fun i=>(yEU.lookup i).getD []) Tryz.f66=some ysr.fn:=by kernel_rfl
def yKm:List (Nat×List Nat):=[(1,[2,3,5,6,7,8,9,10]),(0,[0,1,4])]
theorem yAa:compFn Tryz.prog [9,2,3] (fun i=>(yKm.lookup i).getD []) Tryz.f43=some yy8.fn:=by kernel_rfl
def yGw:List (Nat×List Nat):=[(1,[0,3,4,5]),(0,[2])]
theorem yuX:compFn Tryz.prog [] (fun i=>(yGw.lookup i).getD []) Tryz.f79=some ytv.fn:=by kernel_rfl
def yEA:List (Nat×List Nat):=[(13,[19]),(12,[19]),(11,[0,1,16,17,18]),(10,[0,1,16]),(9,[13,14,15]),(8,[0,1,13]),(7,[6,11]),(6,[12]),(5,[12]),(4,[0,1,6,11]),(3,[5]),(2,[9,10]),(1,[7,8]),(0,[4])]
theorem yrz:compFn Tryz.prog [] (fun i=>(yEA.lookup i).getD []) Tryz.f63=some yq9.fn:=by kernel_rfl
def yMR:List (Nat×List Nat):=[(11,[0,1,48,49,50]),(10,[7,9,12,13,40,41,42,43,44,45,46,47]),(9,[6,35,36,37,38,39]),(8,[11,33,34]),(7,[31,32]),(6,[8,10,25,26,27,28,29,30]),(5,[22,23,24]),(4,[20,21]),(3,[18,19]),(2,[16,17]),(1,[14,15]),(0,[4,5])]
theorem yIA:compFn Tryz.prog [] (fun i=>(yMR.lookup i).getD []) Tryz.f46=some yHN.fn:=by kernel_rfl
def yEV:List (Nat×List Nat):=[(1,[0,3,4,5]),(0,[2])]
theorem ytb:compFn Tryz.prog [] (fun i=>(yEV.lookup i).getD []) Tryz.f80=some yss.fn:=by kernel_rfl
def yCK:List (Nat×List Nat):=[(13,[19]),(12,[19]),(11,[0,1,16,17,18]),(10,[0,1,16]),(9,[13,14,15]),(8,[0,1,13]),(7,[6,11]),(6,[12]),(5,[12]),(4,[0,1,6,11]),(3,[5]),(2,[9,10]),(1,[7,8]),(0,[4])]
theorem yqQ:compFn Tryz.prog [] (fun i=>(yCK.lookup i).getD []) Tryz.f65=some ypP.fn:=by kernel_rfl
def yKw:List (Nat×List Nat):=[(8,[3,6,7,8,9,17]),(7,[5,14,16]),(6,[3,5,6,7,8,14,15]),(5,[12,13]),(4,[9,10,11]),(2,[0]),(0,[2])]
theorem yCy:compFn Tryz.prog [] (fun i=>(yKw.lookup i).getD []) Tryz.f64=some yA6.fn:=by kernel_rfl
def yLH:List (Nat×List Nat):=[(11,[11,60,63]),(10,[60,61,62]),(9,[2,58,59]),(8,[7,8,9,10,50,51,52,53,54,55,56,57]),(7,[3,40,41,42,43,44,45,46,47,48,49]),(6,[24,30,31,32,33,34,35,36,37,38,39]),(5,[2,3,24,25,26,27,28,29]),(4,[6,16,18,19,20,21,22,23]),(3,[2,3,6,16,17]),(2,[15]),(1,[12,13,14]),(0,[0,1,4,5])]
theorem yEB:compFn Tryz.prog [56,2,3] (fun i=>(yLH.lookup i).getD []) Tryz.f42=some yDg.fn:=by kernel_rfl
def yKn:List (Nat×List Nat):=[(2,[5,13]),(1,[2,3,6,7,8,9,10,11,12]),(0,[0,1,4])]
theorem yAb:compFn Tryz.prog [2,3] (fun i=>(yKn.lookup i).getD []) Tryz.f57=some yy9.fn:=by kernel_rfl
def yKo:List (Nat×List Nat):=[(1,[0,3,4])]
theorem yAc:compFn Tryz.prog [2] (fun i=>(yKo.lookup i).getD []) Tryz.f55=some yza.fn:=by kernel_rfl
def yIB:List (Nat×List Nat):=[(13,[0,3,8,39,41,52,53,54,55,56,57,58,59,60,61,62,63,64,65,66]),(9,[0,3,8,40,43]),(12,[3,43,45,46,47,48,49,50,51]),(11,[39,41,44]),(10,[42]),(8,[38]),(7,[15,16,17,18,31,32,33,34,35,36,37]),(6,[28,30]),(5,[0,3,15,16,17,28,29]),(4,[7,21,22,23,24,25,26,27]),(3,[18,19,20]),(1,[9,10,11,12,13,14]),(0,[1,5])]
theorem ywS:compFn Tryz.prog [3,4,7,8] (fun i=>(yIB.lookup i).getD []) Tryz.f54=some ywu.fn:=by kernel_rfl
def yIS:List (Nat×List Nat):=[(14,[0,6,20,21,22,23,39]),(13,[38]),(12,[9,33,34,35,36,37]),(11,[0,6,9,20,21,22,33]),(10,[10,32]),(9,[8,26,27,28,29,30,31]),(8,[23,24,25]),(6,[1]),(5,[19]),(4,[0,1,19]),(3,[16,17,18]),(2,[0,1,16]),(1,[11,12,13,14,15]),(0,[4,5])]
theorem yyY:compFn Tryz.prog [36,8,9] (fun i=>(yIS.lookup i).getD []) Tryz.f31=some yxH.fn:=by kernel_rfl
def yKp:List (Nat×List Nat):=[(19,[4,41,42,43,44,58]),(18,[56,57]),(17,[4,41,42,43,56]),(16,[11,47,48,49,50,51,52,53,54,55]),(15,[44,45,46]),(13,[0,12,13,14,15]),(12,[40]),(11,[9,36,37,38,39]),(10,[0,4,9,12,13,14,36]),(9,[33,34,35]),(8,[6,7,8,23,28,29,30,31,32]),(7,[23,24,25,26,27]),(6,[22]),(5,[18,19,20,21]),(4,[15,16,17]),(0,[2,3])]
theorem yAd:compFn Tryz.prog [6,11] (fun i=>(yKp.lookup i).getD []) Tryz.f32=some yzb.fn:=by kernel_rfl
def yMS:List (Nat×List Nat):=[(7,[0,8,13,14,15,16,17,18]),(6,[11,12]),(5,[8,9,10]),(4,[4,7]),(2,[2,4,5,6]),(1,[3])]
theorem yIC:compFn Tryz.prog [] (fun i=>(yMS.lookup i).getD []) Tryz.f102=some yM3.fn:=by kernel_rfl
def yMT:List (Nat×List Nat):=[(10,[0,14,19,20,21,22,23,24]),(9,[17,18]),(8,[14,15,16]),(7,[8,13]),(6,[11,12]),(5,[8,9,10]),(4,[4,7]),(2,[2,4,5,6]),(1,[3])]
theorem yID:compFn Tryz.prog [] (fun i=>(yMT.lookup i).getD []) Tryz.f81=some yHO.fn:=by kernel_rfl
def yM7:List (Nat×List Nat):=[(2,[0,6,7]),(1,[0,3,4,5]),(0,[2])]
theorem yLI:compFn Tryz.prog [] (fun i=>(yM7.lookup i).getD []) Tryz.f78=some yM8.fn:=by kernel_rfl
def ypH:List (Nat×List Nat):=[(2,[9,15,16,34]),(5,[35,36]),(6,[34,37,38,39,40,41,42,43,44,45,46,47,48,49,50,51,52]),(4,[18,19,20,21,22,23,24,25,26,27,28,29,30,31,32,33]),(3,[14,17]),(1,[12,13]),(0,[10,11])]
theorem yge:compFn Tryz.prog [] (fun i=>(ypH.lookup i).getD []) Tryz.f94=some ypK.fn:=by kernel_rfl
def ytc:List (Nat×List Nat):=[(30,[16,147]),(29,[2,140,141,142,143,144,145,146]),(28,[18,19,20,125,137,138,139]),(27,[16,135,136]),(26,[1,129,130,131,132,133,134]),(25,[18,19,20,125,126,127,128]),(24,[123,124]),(23,[12,121,122]),(22,[115,116,117,118,119,120]),(21,[17,114]),(20,[10,11,13,97,105,106,107,108,109,110,111,112,113]),(19,[15,104]),(18,[1,12,13,97,98,99,100,101,102,103]),(17,[75,80,81,82,83,84,85,86,87,88,89,90,91,92,93,94,95,96]),(16,[75,76,77,78,79]),(15,[14,56,68,69,70,71,72,73,74]),(13,[62,63,64,65,66,67]),(12,[14,56,57,58,59,60,61]),(11,[55]),(10,[39,47,48,49,50,51,52,53,54]),(9,[45,46]),(8,[39,40,41,42,43,44]),(7,[32,38]),(6,[0,1,2,3,4,10,11,12,32,33,34,35,36,37]),(5,[25,31]),(4,[0,1,2,3,4,10,11,12,25,26,27,28,29,30]),(3,[24]),(2,[21,22,23])]
theorem yid:compFn Tryz.prog [] (fun i=>(ytc.lookup i).getD []) Tryz.f77=some yte.fn:=by kernel_rfl
def ytf:List (Nat×List Nat):=[(1,[0,1,4,7,8,9,10,11,12,13]),(0,[5,6])]
theorem yiV:compFn Tryz.prog [] (fun i=>(ytf.lookup i).getD []) Tryz.f56=some ytw.fn:=by kernel_rfl
def yuY:List (Nat×List Nat):=[(16,[0,3,13,60]),(5,[14,15,25]),(15,[0,3,57,58,59]),(14,[4,5,32,54,55,56]),(10,[33,34,44]),(13,[52,53]),(12,[44,45,46,47,48,49,50,51]),(11,[32,35,36,37,38,39,40,41,42,43]),(9,[29,30,31]),(7,[25,26,27,28]),(6,[13,16,17,18,19,20,21,22,23,24]),(4,[10,11,12]),(3,[8]),(2,[0,8,9]),(1,[6,7]),(0,[2])]
theorem yiZ:compFn Tryz.prog [] (fun i=>(yuY.lookup i).getD []) Tryz.f58=some yiX.fn:=by kernel_rfl
def yHp:List (Nat×List Nat):=[(8,[5,28,29]),(7,[12,13,14,15,26,27]),(6,[25]),(5,[7,18,19,20,21,22,23,24]),(4,[15,16,17]),(2,[1]),(1,[0,8,9,10,11]),(0,[4])]
theorem yvR:compFn Tryz.prog [23,7,2000011,2000023] (fun i=>(yHp.lookup i).getD []) Tryz.f33=some yu9.fn:=by kernel_rfl
def ylq:List (Nat×List Nat):=[(8,[0,2,4,8,9,10,17,35,36,37,38,39,40,41,42,43,44,45,46,47,48]),(7,[11,31,34]),(6,[11,31,32,33]),(5,[24,25,26,27,28,29,30]),(4,[17,18,19,20,21,22,23]),(3,[15,16]),(2,[14]),(1,[12,13]),(0,[1,6,7])]
theorem yec:compFn Tryz.prog [4] (fun i=>(ylq.lookup i).getD []) Tryz.f60=some yd5.fn:=by kernel_rfl
def yGx:List (Nat×List Nat):=[(2,[4,12]),(1,[1,2,5,6,7,8,9,10,11]),(0,[0,3])]
theorem yuZ:compFn Tryz.prog [2] (fun i=>(yGx.lookup i).getD []) Tryz.f59=some ymG.fn:=by kernel_rfl
def yCz:List (Nat×List Nat):=[(3,[0,4,5,6,7]),(2,[0,4]),(1,[3]),(0,[2])]
theorem ypI:compFn Tryz.prog [] (fun i=>(yCz.lookup i).getD []) Tryz.f61=some yCJ.fn:=by kernel_rfl
def yCA:List (Nat×List Nat):=[(9,[0,1,12,13,14]),(8,[24,25]),(7,[0,1,12,13,24]),(6,[5,16,17,18,19,20,21,22,23]),(5,[14,15]),(3,[10,11]),(2,[0,1,10]),(1,[6,7,8,9]),(0,[4])]
theorem ypJ:compFn Tryz.prog [] (fun i=>(yCA.lookup i).getD []) Tryz.f62=some ypx.fn:=by kernel_rfl
def yIE:List (Nat×List Nat):=[(36,[1,2,7,8,9,12,59,60,61]),(35,[148,154]),(34,[12,152,153]),(33,[12,152]),(32,[1,2,7,8,9,59,60,148,149,150,151]),(31,[13,145,146,147]),(30,[1,2,7,8,9,12,13,59,60,145]),(29,[88,89,90,91,142,143,144]),(28,[141]),(27,[17,18,19,127,128,129,130,131,132,133,134,135,136,137,138,139,140]),(26,[113,114,115,116,117,118,119,120,121,122,123,124,125,126]),(25,[16,102,103,104,105,106,107,108,109,110,111,112]),(24,[94,95,96,97,98,99,100,101]),(23,[91,92,93]),(21,[14,67]),(19,[68,69]),(20,[67,70,71,72,73,74,75,76,77,78,79,80,81,82,83,84,85,86,87]),(18,[64,65,66]),(16,[61,62,63]),(14,[3,57,58]),(13,[27,28,29,30,54,55,56]),(12,[11,35,47,53]),(11,[1,2,3,7,8,9,27,28,29,47]),(10,[11,36,48,49,50,51,52]),(9,[11,36,41,42,43,44,45,46]),(8,[35,37,38,39,40]),(7,[33,34]),(6,[30,31,32]),(3,[24,25,26]),(2,[21,22,23]),(1,[20]),(0,[0,6])]
theorem ywT:compFn Tryz.prog [11,16] (fun i=>(yIE.lookup i).getD []) Tryz.f34=some ywv.fn:=by kernel_rfl
def yIT:List (Nat×List Nat):=[(5,[1,2,13,20,21,22,23,24]),(4,[1,2,13,14,15,16,17,18,19]),(3,[0,11]),(2,[0,1,2,11,12]),(1,[8,9,10]),(0,[7])]
theorem yyZ:compFn Tryz.prog [6] (fun i=>(yIT.lookup i).getD []) Tryz.f47=some yxI.fn:=by kernel_rfl
def yKx:List (Nat×List Nat):=[(5,[0,1,6,7,8,19,20,21,22,23,24,25,26,27,28,29,30,31,32]),(4,[16,17,18]),(3,[10,12,13,14,15]),(2,[0,1,10,11]),(1,[9]),(0,[5])]
theorem yCB:compFn Tryz.prog [4] (fun i=>(yKx.lookup i).getD []) Tryz.f35=some yA7.fn:=by kernel_rfl
def yKq:List (Nat×List Nat):=[(17,[8,9,10,46,47,48,49,69]),(16,[68]),(15,[13,62,63,64,65,66,67]),(14,[12,14,52,53,54,55,56,57,58,59,60,61]),(13,[49,50,51]),(11,[44]),(10,[8,9,10,44,45]),(9,[43]),(8,[6,38,39,40,41,42]),(7,[0,7,31,34,35,36,37]),(6,[0,6,7,8,31,32,33]),(5,[30]),(4,[22,25,26,27,28,29]),(3,[0,6,7,22,23,24]),(2,[21]),(1,[1,15,16,17,18,19,20]),(0,[5])]
theorem yAe:compFn Tryz.prog [65,4,9,13] (fun i=>(yKq.lookup i).getD []) Tryz.f11=some yzc.fn:=by kernel_rfl
def yKr:List (Nat×List Nat):=[(13,[0,6,8,9,10,35,53]),(12,[11,50,52]),(11,[11,50,51]),(10,[40,41,42,43,44,45,46,47,48,49]),(9,[35,36,37,38,39]),(8,[32,33,34]),(7,[7,27,29,30,31]),(6,[0,6,7,8,27,28]),(5,[26]),(4,[19,21,22,23,24,25]),(3,[0,6,7,19,20]),(2,[18]),(1,[1,12,13,14,15,16,17]),(0,[4,5])]
theorem yAf:compFn Tryz.prog [] (fun i=>(yKr.lookup i).getD []) Tryz.f12=some yzd.fn:=by kernel_rfl
def yIU:List (Nat×List Nat):=[(8,[0,1,5,14]),(5,[15,16,25]),(7,[0,1,5,25]),(6,[14,17,18,19,20,21,22,23,24]),(4,[11,12,13]),(3,[10]),(2,[0,1,10]),(1,[6,7,8,9]),(0,[4])]
theorem yy0:compFn Tryz.prog [] (fun i=>(yIU.lookup i).getD []) Tryz.f39=some yxJ.fn:=by kernel_rfl
def yL2:List (Nat×List Nat):=[(1,[2,3,5,6,7,8,9,10,11,12,13,14,15,16]),(0,[0,1,4])]
theorem yGy:compFn Tryz.prog [2,3] (fun i=>(yL2.lookup i).getD []) Tryz.f16=some yFp.fn:=by kernel_rfl
def yLJ:List (Nat×List Nat):=[(5,[1,2,4,5,6,7,8,36,37,38,39,40,41,42,43,44,45,46,47,48,49,50,51,52,53,54,55,56,57,58,59,60,61,62,63,64,65,66,67,68,69,70,71,72,73,74,75,76,77]),(4,[30,31,32,33,34,35]),(3,[23,24,25,26,27,28,29]),(2,[3,16,17,18,19,20,21,22]),(1,[9,10,11,12,13,14,15]),(0,[0])]
theorem yEC:compFn Tryz.prog [12,19,26,32,43,47,71,74,1,3,7] (fun i=>(yLJ.lookup i).getD []) Tryz.f7=some yDh.fn:=by kernel_rfl
def yIF:List (Nat×List Nat):=[(8,[0,3,4,15,24]),(6,[16,17]),(7,[15,18,19,20,21,22,23]),(5,[12,13,14]),(3,[7,9,10,11]),(2,[7,8]),(1,[5,6]),(0,[2])]
theorem ywU:compFn Tryz.prog [] (fun i=>(yIF.lookup i).getD []) Tryz.f40=some yww.fn:=by kernel_rfl
def yIG:List (Nat×List Nat):=[(8,[0,3,4,15,24]),(6,[16,17]),(7,[15,18,19,20,21,22,23]),(5,[12,13,14]),(3,[7,9,10,11]),(2,[7,8]),(1,[5,6]),(0,[2])]
theorem ywV:compFn Tryz.prog [] (fun i=>(yIG.lookup i).getD []) Tryz.f41=some ywx.fn:=by kernel_rfl
def yKy:List (Nat×List Nat):=[(14,[81]),(13,[81]),(12,[1,49,50,51,66,67,68,69,70,71,72,73,74,75,76,77,78,79,80]),(11,[64,65]),(10,[1,49,50,64]),(9,[4,53,54,55,56,57,58,59,60,61,62,63]),(8,[51,52]),(6,[3,47,48]),(5,[1,3,47]),(4,[14,15,16,17,18,19,20,21,22,23,24,25,26,27,28,29,30,31,32,33,34,35,36,37,38,39,40,41,42,43,44,45,46]),(3,[1,3,14]),(2,[8,9,10,11,12,13]),(1,[5,6,7]),(0,[0,2])]
theorem yCC:compFn Tryz.prog [1] (fun i=>(yKy.lookup i).getD []) Tryz.f18=some yA8.fn:=by kernel_rfl
def yKz:List (Nat×List Nat):=[(1,[0,3,4])]
theorem yCD:compFn Tryz.prog [2] (fun i=>(yKz.lookup i).getD []) Tryz.f21=some yA9.fn:=by kernel_rfl
def yLK:List (Nat×List Nat):=[(2,[5,13,14]),(1,[2,3,6,7,8,9,10,11,12]),(0,[0,1,4])]
theorem yED:compFn Tryz.prog [2,3] (fun i=>(yLK.lookup i).getD []) Tryz.f20=some yDi.fn:=by kernel_rfl
def yKA:List (Nat×List Nat):=[(1,[2,3,5,6,7,8,9,10,11,12,13,14,15,16,17,18,19,20]),(0,[0,1,4])]
theorem yCE:compFn Tryz.prog [2,3] (fun i=>(yKA.lookup i).getD []) Tryz.f19=some yBa.fn:=by kernel_rfl
def yEW:List (Nat×List Nat):=[(1,[0,3,4,5]),(0,[2])]
theorem ytd:compFn Tryz.prog [] (fun i=>(yEW.lookup i).getD []) Tryz.f67=some yst.fn:=by kernel_rfl
def yMU:List (Nat×List Nat):=[(28,[2,8,9,10,14,15,16,17,18,113,120,121,122,123,124,125,126,127,128,129,130,131,132,133,134]),(27,[119]),(26,[116,117,118]),(25,[113,114,115]),(24,[102,103,104,105,106,107,108,109,110,111,112,120]),(23,[97,98,99,100,101]),(22,[94,95,96]),(21,[11,13,16,78,85,86,87,88,89,90,91,92,93]),(20,[84]),(19,[81,82,83]),(18,[78,79,80]),(17,[67,68,69,70,71,72,73,74,75,76,77,85]),(16,[62,63,64,65,66]),(15,[59,60,61]),(14,[12,57,58]),(13,[55,56]),(12,[1,52,53,54]),(11,[0,44,45,46,47,48,49,50,51]),(10,[42,43]),(9,[40,41]),(8,[37,38,39]),(7,[27,34,35,36]),(6,[0,1,2,27,28,29,30,31,32,33]),(5,[24,26]),(4,[24,25]),(3,[20,22,23]),(2,[20,21]),(1,[19]),(0,[6,7])]
theorem yIH:compFn Tryz.prog [] (fun i=>(yMU.lookup i).getD []) Tryz.f51=some yHP.fn:=by kernel_rfl
def yMV:List (Nat×List Nat):=[(2,[8,18]),(1,[0,1,2,7,9,10,11,12,13,14,15,16,17]),(0,[6])]
theorem yII:compFn Tryz.prog [] (fun i=>(yMV.lookup i).getD []) Tryz.f50=some yHQ.fn:=by kernel_rfl
def yLL:List (Nat×List Nat):=[(26,[12,17,20,153,155,156,157,158,159,160]),(25,[12,17,20,153,154]),(24,[19,152]),(23,[2,3,7,16,138,139,140,141,142,143,144,145,146,147,148,149,150,151]),(22,[13,14,18,129,131,132,133,134,135,136,137]),(21,[2,3,7,12,13,14,16,129,130]),(20,[127,128]),(19,[119,121,122,123,124,125,126]),(18,[2,3,7,12,13,14,119,120]),(17,[114,115,116,117,118]),(16,[8,10,15,107,108,109,110,111,112,113]),(15,[9,11,94,101,102,103,104,105,106]),(14,[99,100]),(13,[94,95,96,97,98]),(12,[68,82,83,84,85,86,87,88,89,90,91,92,93]),(11,[8,10,15,75,76,77,78,79,80,81]),(10,[9,11,68,69,70,71,72,73,74]),(9,[62,63,64,65,66,67]),(8,[13,14,15]),(7,[59,60,61]),(6,[47,48,49,50,51,52,53,54,55,56,57,58]),(5,[35,36,37,38,39,40,41,42,43,44,45,46]),(4,[6,25,28,29,30,31,32,33,34]),(3,[2,3,6,25,26,27]),(2,[24]),(1,[21,22,23]),(0,[0,1,5])]
theorem yEE:compFn Tryz.prog [2,3,4] (fun i=>(yLL.lookup i).getD []) Tryz.f24=some yDj.fn:=by kernel_rfl
def yLM:List (Nat×List Nat):=[(5,[2,3,18,19,20,21,22]),(4,[6,11,14,15,16,17]),(3,[2,3,6,11,12,13]),(2,[10]),(1,[7,8,9]),(0,[0,1,5])]
theorem yEF:compFn Tryz.prog [2,3,4] (fun i=>(yLM.lookup i).getD []) Tryz.f22=some yDk.fn:=by kernel_rfl
def yLN:List (Nat×List Nat):=[(10,[2,3,14,16,65,67,68,69,70,71,72,73,74,75,76,77,78,79,80,81,82]),(9,[2,3,14,16,65,66]),(8,[13,15,62,63,64]),(7,[8,10,11,12,52,53,54,55,56,57,58,59,60,61]),(6,[7,9,42,43,44,45,46,47,48,49,50,51]),(5,[36,37,38,39,40,41]),(4,[6,21,24,25,26,27,28,29,30,31,32,33,34,35]),(3,[2,3,6,21,22,23]),(2,[20]),(1,[17,18,19]),(0,[0,1,5])]
theorem yEG:compFn Tryz.prog [2,3,4] (fun i=>(yLN.lookup i).getD []) Tryz.f23=some yDl.fn:=by kernel_rfl
def yKB:List (Nat×List Nat):=[(28,[3,5,9,10,42,43,44,45,105]),(27,[13,70,104]),(26,[13,15,100,103]),(25,[3,5,9,10,13,15,42,43,44,100,101,102]),(24,[99]),(23,[16,90,93,94,95,96,97,98]),(22,[3,5,9,10,13,15,16,42,43,44,90,91,92]),(21,[89]),(20,[12,14,79,82,83,84,85,86,87,88]),(19,[3,5,9,10,12,13,14,15,42,43,44,79,80,81]),(18,[78]),(17,[67,72,73,74,75,76,77]),(16,[13,70,71]),(15,[12,67,68,69]),(14,[58,60,61,62,63,64,65,66]),(13,[58,59]),(12,[56,57]),(11,[11,49,50,51,52,53,54,55]),(10,[45,46,47,48]),(8,[41]),(7,[4,40]),(6,[37,39]),(5,[3,4,5,37,38]),(4,[8,20,23,24,25,26,27,28,29,30,31,32,33,34,35,36]),(3,[3,4,5,8,20,21,22]),(2,[19]),(1,[17,18]),(0,[0,1,2,7])]
theorem yCF:compFn Tryz.prog [3,4,5,6,9,10,13,14,16] (fun i=>(yKB.lookup i).getD []) Tryz.f8=some yBb.fn:=by kernel_rfl
def yLO:List (Nat×List Nat):=[(8,[2,3,19,34,35,36,37,38,39,40,41,42]),(7,[2,3,19,23,24,25,26,27,28,29,30,31,32,33]),(6,[14,20,21,22]),(5,[2,3,14,18]),(4,[6,11,15,16,17]),(3,[2,3,6,11,12,13]),(2,[10]),(1,[7,8,9]),(0,[0,1,5])]
theorem yEH:compFn Tryz.prog [2,3,4] (fun i=>(yLO.lookup i).getD []) Tryz.f28=some yDm.fn:=by kernel_rfl
def yKs:List (Nat×List Nat):=[(12,[5,6,7,14,15,41,48]),(11,[6,7,14,41,42,43,44,45,46,47]),(10,[40]),(9,[3,4,9,20,33,34,35,36,37,38,39]),(8,[5,13,29,31,32]),(7,[5,29,30]),(6,[28]),(5,[4,12,27]),(4,[3,6,7,9,20,21,22,23,24,25,26]),(3,[17,18,19]),(2,[3,4,5,6,7,9,17]),(1,[16]),(0,[0,1,2,8,11])]
theorem yAg:compFn Tryz.prog [7,8,9,12,14] (fun i=>(yKs.lookup i).getD []) Tryz.f27=some yrJ.fn:=by kernel_rfl
def yLP:List (Nat×List Nat):=[(18,[2,3,4,14,15,16,17]),(17,[8,9,31,61]),(16,[9,59,60]),(15,[2,3,4,9,14,15,16,59]),(14,[8,10,12,34,52,54,55,56,57,58]),(13,[2,3,4,8,9,10,12,14,15,16,52,53]),(12,[51]),(11,[11,42,44,45,46,47,48,49,50]),(10,[2,3,4,8,9,10,11,12,14,15,16,42,43]),(9,[41]),(8,[34,35,36,37,38,39,40]),(7,[33]),(6,[31,32]),(5,[28,29,30]),(4,[7,21,22,23,24,25,26,27]),(3,[17,18,19,20]),(1,[13]),(0,[0,1,6])]
theorem yEI:compFn Tryz.prog [3,4,9,10,11] (fun i=>(yLP.lookup i).getD []) Tryz.f26=some yDn.fn:=by kernel_rfl
def yLQ:List (Nat×List Nat):=[(15,[9,10,45,48]),(14,[9,10,45,46,47]),(13,[11,42,44]),(12,[11,42,43]),(11,[41]),(10,[3,4,5,37,38,39,40]),(8,[35]),(7,[3,4,5,35,36]),(6,[31,33,34]),(5,[3,4,5,31,32]),(4,[8,15,18,19,20,21,22,23,24,25,26,27,28,29,30]),(3,[3,4,5,8,15,16,17]),(2,[14]),(1,[12,13]),(0,[0,1,2,7])]
theorem yEJ:compFn Tryz.prog [3,4,6] (fun i=>(yLQ.lookup i).getD []) Tryz.f9=some yDo.fn:=by kernel_rfl
def yLR:List (Nat×List Nat):=[(1,[1,2,5,6,7,8,9,10,11,12,13]),(0,[0,4])]
theorem yEK:compFn Tryz.prog [2] (fun i=>(yLR.lookup i).getD []) Tryz.f29=some yDp.fn:=by kernel_rfl
def yMW:List (Nat×List Nat):=[(3,[0,4,10,11]),(2,[0,4,5,6,7,8,9]),(1,[3]),(0,[2])]
theorem yIJ:compFn Tryz.prog [] (fun i=>(yMW.lookup i).getD []) Tryz.f83=some yHR.fn:=by kernel_rfl
def yMX:List (Nat×List Nat):=[(3,[0,1,6,11]),(2,[6,7,8,9,10]),(1,[5]),(0,[4])]
theorem yIK:compFn Tryz.prog [] (fun i=>(yMX.lookup i).getD []) Tryz.f88=some yHS.fn:=by kernel_rfl
def yLS:List (Nat×List Nat):=[(3,[30]),(2,[30]),(1,[1,3,4,5,6,7,8,9,10,11,12,13,14,15,16,17,18,19,20,21,22,23,24,25,26,27,28,29]),(0,[0,2])]
theorem yEL:compFn Tryz.prog [1] (fun i=>(yLS.lookup i).getD []) Tryz.f72=some yDq.fn:=by kernel_rfl
def yM6:List (Nat×List Nat):=[(1,[0,3,4])]
theorem yKt:compFn Tryz.prog [2] (fun i=>(yM6.lookup i).getD []) Tryz.f73=some yJg.fn:=by kernel_rfl
def yLT:List (Nat×List Nat):=[(5,[5,7,9,10,11,35,36,37,38,39,40,41,42,43,44,45,46,47,48,49]),(4,[6,26,27,28,29,30,31,32,33,34]),(3,[8,20,21,22,23,24,25]),(2,[1,16,17,18,19]),(1,[0,12,13,14,15])]
theorem yEM:compFn Tryz.prog [4] (fun i=>(yLT.lookup i).getD []) Tryz.f82=some yDr.fn:=by kernel_rfl
def yL3:List (Nat×List Nat):=[(1,[2,3,5,6,7,8,9,10,11,12,13,14,15,16,17,18,19,20,21,22,23]),(0,[0,1,4])]
theorem yGz:compFn Tryz.prog [2,3] (fun i=>(yL3.lookup i).getD []) Tryz.f84=some yFq.fn:=by kernel_rfl
def yL4:List (Nat×List Nat):=[(6,[5,6,33,37,38,39]),(5,[5,6,33,34,35,36]),(4,[2,31,32]),(3,[3,13,17,18,19,20,21,22,23,24,25,26,27,28,29,30]),(2,[2,3,13,14,15,16]),(1,[7,8,9,10,11,12]),(0,[0,1,4])]
theorem yGA:compFn Tryz.prog [2,3,5,6] (fun i=>(yL4.lookup i).getD []) Tryz.f69=some yFr.fn:=by kernel_rfl
def yLU:List (Nat×List Nat):=[(1,[0,3,5,6,7,8,9,10,11,12,13,14,15,16,17,18,19]),(0,[1,4])]
theorem yEN:compFn Tryz.prog [3] (fun i=>(yLU.lookup i).getD []) Tryz.f68=some yDs.fn:=by kernel_rfl
def yLV:List (Nat×List Nat):=[(3,[2,3,7,9]),(2,[2,3,7,8]),(1,[5,6]),(0,[0,1])]
theorem yEO:compFn Tryz.prog [2,3,4] (fun i=>(yLV.lookup i).getD []) Tryz.f74=some yDt.fn:=by kernel_rfl
def yKC:List (Nat×List Nat):=[(3,[2,3,7,9]),(2,[2,3,7,8]),(1,[5,6]),(0,[0,1])]
theorem yCG:compFn Tryz.prog [2,3,4] (fun i=>(yKC.lookup i).getD []) Tryz.f85=some yBc.fn:=by kernel_rfl
def yL5:List (Nat×List Nat):=[(3,[2,3,7,10,11]),(2,[2,3,7,8,9]),(1,[5,6]),(0,[0,1,4])]
theorem yGB:compFn Tryz.prog [2,3] (fun i=>(yL5.lookup i).getD []) Tryz.f87=some yFs.fn:=by kernel_rfl
def yMY:List (Nat×List Nat):=[(2,[1,7]),(1,[3,4,5,6]),(0,[0])]
theorem yIL:compFn Tryz.prog [1,2] (fun i=>(yMY.lookup i).getD []) Tryz.f93=some yHT.fn:=by kernel_rfl
def yL6:List (Nat×List Nat):=[(5,[5,6,20,23,24,25]),(4,[20,21,22]),(3,[2,17,18,19]),(2,[3,12,13,14,15,16]),(1,[7,8,9,10,11]),(0,[0,1])]
theorem yGC:compFn Tryz.prog [2,3,4] (fun i=>(yL6.lookup i).getD []) Tryz.f89=some yFt.fn:=by kernel_rfl
def yLW:List (Nat×List Nat):=[(4,[2,3,5,15,18,19,20,21,22,23,24]),(3,[15,16,17]),(2,[11,12,13,14]),(1,[6,7,8,9,10]),(0,[0,1])]
theorem yEP:compFn Tryz.prog [2,3,4] (fun i=>(yLW.lookup i).getD []) Tryz.f90=some yDu.fn:=by kernel_rfl
def yLX:List (Nat×List Nat):=[(14,[1,2,6,7,8,11,45,46]),(5,[12,13,37]),(13,[41,42,43,44]),(12,[37,38,39,40]),(11,[35,36]),(10,[32,33,34]),(9,[9,21,28,29,30,31]),(8,[21,22,23,24,25,26,27]),(7,[20]),(6,[11,14,15,16,17,18,19]),(4,[10]),(0,[0,5])]
theorem yEQ:compFn Tryz.prog [2,4,6] (fun i=>(yLX.lookup i).getD []) Tryz.f91=some yDv.fn:=by kernel_rfl
def yL7:List (Nat×List Nat):=[(6,[8,35,40]),(5,[35,36,37,38,39]),(4,[0]),(3,[4,5,26,28,29,30,31,32,33,34]),(2,[0,4,5,26,27]),(1,[9,10,11,12,13,14,15,16,17,18,19,20,21,22,23,24,25]),(0,[1,2,7])]
theorem yGD:compFn Tryz.prog [4,5,6,8] (fun i=>(yL7.lookup i).getD []) Tryz.f92=some yFu.fn:=by kernel_rfl
def yMZ:List (Nat×List Nat):=[(17,[2,3,6,9,13,14,93,94,95,96,97,98,99,100,101,102,103,104,105,106,107,108]),(16,[10,15,87,88,89,90,91,92]),(15,[12,84,85,86]),(14,[11,76,78,79,80,81,82,83]),(13,[2,3,6,9,10,76,77]),(12,[7,8,61,67,74,75]),(11,[71,72,73]),(10,[7,8,9,67,68,69,70]),(9,[65,66]),(8,[61,62,63,64]),(7,[55,56,57,58,59,60]),(6,[52,53,54]),(5,[49,50,51]),(4,[31,32,33,34,35,36,37,38,39,40,41,42,43,44,45,46,47,48]),(3,[19,24,25,26,27,28,29,30]),(2,[2,3,19,20,21,22,23]),(1,[16,17,18]),(0,[0,1,5])]
theorem yIM:compFn Tryz.prog [2,3,4,7,8,10,11,14] (fun i=>(yMZ.lookup i).getD []) Tryz.f71=some yHU.fn:=by kernel_rfl
def yM0:List (Nat×List Nat):=[(3,[2,3,9,14,15,16,17,18,19]),(2,[2,3,9,10,11,12,13]),(1,[6,7,8]),(0,[0,1,5])]
theorem yIN:compFn Tryz.prog [2,3,4] (fun i=>(yM0.lookup i).getD []) Tryz.f76=some yHV.fn:=by kernel_rfl
def yM1:List (Nat×List Nat):=[(4,[2,3,6,7,30,31,32,33,34,35,36,37,38,39,40,41,42,43,44,45,46,47,48,49,50,51,52,53,54,55,56,57,58,59,60,61,62,63,64,65,66,67,68,69,70,71]),(3,[11,16,17,18,19,20,21,22,23,24,25,26,27,28,29]),(2,[2,3,11,12,13,14,15]),(1,[8,9,10]),(0,[0,1,5])]
theorem yIO:compFn Tryz.prog [2,3,4] (fun i=>(yM1.lookup i).getD []) Tryz.f86=some yHW.fn:=by kernel_rfl
def yLY:List (Nat×List Nat):=[(7,[1,4,12,13,51,54,55,56,57,58,59,60,61,62,63]),(6,[1,4,12,13,51,52,53]),(5,[50]),(4,[10,11,42,44,45,46,47,48,49]),(3,[1,4,10,11,42,43]),(2,[31,32,33,34,35,36,37,38,39,40,41]),(1,[6,7,14,15,16,17,18,19,20,21,22,23,24,25,26,27,28,29,30]),(0,[0,2,3,9])]
theorem yER:compFn Tryz.prog [4,6,7,8,10,11,12] (fun i=>(yLY.lookup i).getD []) Tryz.f70=some yDw.fn:=by kernel_rfl
def yLZ:List (Nat×List Nat):=[(15,[3,4,5,8,9,41,66]),(8,[11,42,43,63]),(14,[3,4,5,8,9,11,63,64,65]),(13,[62]),(12,[10,53,56,57,58,59,60,61]),(11,[3,4,5,8,9,10,11,53,54,55]),(10,[52]),(9,[41,44,45,46,47,48,49,50,51]),(7,[37,38,39,40]),(5,[34,36]),(4,[3,4,5,34,35]),(3,[14,18,19,20,21,22,23,24,25,26,27,28,29,30,31,32,33]),(2,[3,4,5,14,15,16,17]),(1,[12,13]),(0,[0,1,2,7])]
theorem yES:compFn Tryz.prog [3,4,5,6,8,10] (fun i=>(yLZ.lookup i).getD []) Tryz.f52=some yDx.fn:=by kernel_rfl
def yM2:List (Nat×List Nat):=[(8,[2,3,6,26,34,35,36,37,38]),(7,[3,26,27,28,29,30,31,32,33]),(6,[24,25]),(5,[17,19,20,21,22,23]),(4,[2,3,17,18]),(3,[10,15,16]),(2,[2,3,10,11,12,13,14]),(1,[7,8,9]),(0,[0,1,5])]
theorem yIP:compFn Tryz.prog [2,3,4,6] (fun i=>(yM2.lookup i).getD []) Tryz.f75=some yHX.fn:=by kernel_rfl
def yL8:List (Nat×List Nat):=[(26,[4,121,123]),(25,[4,121,122]),(24,[3,5,8,9,47,119,120]),(8,[48,49]),(23,[10,12,115,118]),(22,[3,4,5,8,9,10,12,115,116,117]),(21,[114]),(20,[11,87,108,109,110,111,112,113]),(19,[8,13,14,100,103,104,105,106,107]),(18,[8,13,14,100,101,102]),(17,[99]),(16,[3,4,5,9,10,11,87,88,89,90,91,92,93,94,95,96,97,98]),(15,[12,81,84,85,86]),(14,[3,4,5,8,9,10,11,12,81,82,83]),(13,[80]),(12,[68,72,73,74,75,76,77,78,79]),(11,[10,68,69,70,71]),(10,[57,58,59,60,61,62,63,64,65,66,67]),(9,[47,50,51,52,53,54,55,56]),(7,[38,39,40,41,42,43,44,45,46]),(5,[35,37]),(4,[3,4,5,35,36]),(3,[17,21,22,23,24,25,26,27,28,29,30,31,32,33,34]),(2,[3,4,5,17,18,19,20]),(1,[15,16]),(0,[0,1,2,7])]
theorem yGE:compFn Tryz.prog [3,4,5,6,8,10,11,13] (fun i=>(yL8.lookup i).getD []) Tryz.f53=some yFv.fn:=by kernel_rfl
def yKD:List (Nat×List Nat):=[(3,[0,3,8,21,22,23,24,25,26,27,28,29,30,31,32]),(2,[0,3,8,9,10,11,12,13,14,15,16,17,18,19,20]),(1,[6,7]),(0,[1,5])]
theorem yCH:compFn Tryz.prog [3,4] (fun i=>(yKD.lookup i).getD []) Tryz.f30=some yBd.fn:=by kernel_rfl
def yL0:List (Nat×List Nat):=[(4,[3,5,6,29,30,31,32,33,34,35,36]),(3,[0,22,23,24,25,26,27,28]),(2,[0,3,22]),(1,[7,8,9,10,11,12,13,14,15,16,17,18,19,20,21]),(0,[1,4])]
theorem yET:compFn Tryz.prog [3,5] (fun i=>(yL0.lookup i).getD []) Tryz.f10=some yDy.fn:=by kernel_rfl
def yKu:List (Nat×List Nat):=[(12,[0,3,5,23,24,25,76,77,78,79,80,81,82,83,84,85,86,87,88,89,90,91,92,93,94,95,96,97,98,99,100]),(11,[74,75]),(10,[0,3,5,23,24,74]),(9,[6,42,43,44,45,46,47,48,49,50,51,52,53,54,55,56,57,58,59,60,61,62,63,64,65,66,67,68,69,70,71,72,73]),(8,[0,3,5,6,23,24,42]),(7,[27,28,29,30,31,32,33,34,35,36,37,38,39,40,41]),(6,[25,26]),(4,[22]),(3,[0,3,5,22]),(2,[10,11,12,13,14,15,16,17,18,19,20,21]),(1,[7,8,9]),(0,[1,4])]
theorem yAh:compFn Tryz.prog [3] (fun i=>(yKu.lookup i).getD []) Tryz.f36=some yze.fn:=by kernel_rfl
def yvS:List (Nat×List Nat):=[(7,[0,3,7,8,9]),(6,[5,16,18]),(5,[0,3,5,7,8,16,17]),(4,[11,12,13,14,15]),(3,[9,10]),(1,[6]),(0,[1,4])]
theorem ykA:compFn Tryz.prog [3] (fun i=>(yvS.lookup i).getD []) Tryz.f38=some yko.fn:=by kernel_rfl
def ytg:List (Nat×List Nat):=[(1,[0,3,5,6,7,8]),(0,[1,4])]
theorem yiW:compFn Tryz.prog [3] (fun i=>(ytg.lookup i).getD []) Tryz.f37=some yin.fn:=by kernel_rfl
def yKE:List (Nat×List Nat):=[(25,[2,4,46,47,48,49,122,123]),(24,[12,119,121]),(23,[2,4,12,46,47,48,119,120]),(22,[13,14,15,18,88,118]),(21,[13,14,15,88,89,90,91,92,93,94,95,96,97,98,99,100,101,102,103,104,105,106,107,108,109,110,111,112,113,114,115,116,117]),(20,[84,85,86,87]),(19,[16,17,75,77,78,79,80,81,82,83]),(18,[2,4,12,13,14,15,16,17,46,47,48,75,76]),(17,[74]),(16,[63,64,65,66,67,68,69,70,71,72,73]),(15,[53,54,55,56,57,58,59,60,61,62]),(14,[49,50,51,52]),(12,[8,34,35,36,37]),(11,[44,45]),(10,[2,4,8,34,35,36,44]),(9,[11,40,41,42,43]),(8,[37,38,39]),(6,[0,31,32,33]),(5,[0,2,4,8,31]),(4,[9,26,28,29,30]),(3,[0,2,4,8,9,26,27]),(2,[25]),(1,[19,20,21,22,23,24]),(0,[1,6,7])]
theorem yCI:compFn Tryz.prog [4,11,13,16] (fun i=>(yKE.lookup i).getD []) Tryz.f13=some yBe.fn:=by kernel_rfl
def yIQ:List (Nat×List Nat):=[(20,[5,10,11,12,13,14,118,119,120,121,122,123,124,125,126,127,128,129,130,131,132,133,134,135,136,137,138,139,140,141,142]),(19,[2,9,103,110,111,112,113,114,115,116,117]),(18,[2,5,9,10,11,12,103,104,105,106,107,108,109]),(17,[102]),(16,[95,96,97,98,99,100,101]),(15,[1,6,35,88,89,90,91,92,93,94]),(6,[7,36,37,83]),(14,[7,83,84,85,86,87]),(13,[8,57,68,69,70,71,72,73,74,75,76,77,78,79,80,81,82]),(12,[57,58,59,60,61,62,63,64,65,66,67]),(11,[44,55,56]),(10,[44,45,46,47,48,49,50,51,52,53,54]),(9,[42,43]),(7,[35,38,39,40,41]),(5,[32,33,34]),(3,[30]),(2,[1,2,30,31]),(1,[15,16,17,18,19,20,21,22,23,24,25,26,27,28,29]),(0,[0,4])]
theorem ywW:compFn Tryz.prog [72,86,2,7,9] (fun i=>(yIQ.lookup i).getD []) Tryz.f3=some ywy.fn:=by kernel_rfl
theorem tabOk:AllOk Tryz.prog tab:=by
  unfold tab
  simp only [AllOk]
  exact ⟨⟨Tryz.f4,_,_,Tryz.func4,yEv⟩,⟨Tryz.f5,_,_,Tryz.func5,yEw⟩,⟨Tryz.f6,_,_,Tryz.func6,yEx⟩,⟨Tryz.f17,_,_,Tryz.func17,yKk⟩,⟨Tryz.f14,_,_,Tryz.func14,yEy⟩,⟨Tryz.f15,_,_,Tryz.func15,yGv⟩,⟨Tryz.f44,_,_,Tryz.func44,yCx⟩,⟨Tryz.f45,_,_,Tryz.func45,yEz⟩,⟨Tryz.f25,_,_,Tryz.func25,yz9⟩,⟨Tryz.f66,_,_,Tryz.func66,yta⟩,⟨Tryz.f43,_,_,Tryz.func43,yAa⟩,⟨Tryz.f79,_,_,Tryz.func79,yuX⟩,⟨Tryz.f63,_,_,Tryz.func63,yrz⟩,⟨Tryz.f46,_,_,Tryz.func46,yIA⟩,⟨Tryz.f80,_,_,Tryz.func80,ytb⟩,⟨Tryz.f65,_,_,Tryz.func65,yqQ⟩,⟨Tryz.f64,_,_,Tryz.func64,yCy⟩,⟨Tryz.f42,_,_,Tryz.func42,yEB⟩,⟨Tryz.f57,_,_,Tryz.func57,yAb⟩,⟨Tryz.f55,_,_,Tryz.func55,yAc⟩,⟨Tryz.f54,_,_,Tryz.func54,ywS⟩,⟨Tryz.f31,_,_,Tryz.func31,yyY⟩,⟨Tryz.f32,_,_,Tryz.func32,yAd⟩,⟨Tryz.f102,_,_,Tryz.func102,yIC⟩,⟨Tryz.f81,_,_,Tryz.func81,yID⟩,⟨Tryz.f78,_,_,Tryz.func78,yLI⟩,⟨Tryz.f94,_,_,Tryz.func94,yge⟩,⟨Tryz.f77,_,_,Tryz.func77,yid⟩,⟨Tryz.f56,_,_,Tryz.func56,yiV⟩,⟨Tryz.f58,_,_,Tryz.func58,yiZ⟩,⟨Tryz.f33,_,_,Tryz.func33,yvR⟩,⟨Tryz.f60,_,_,Tryz.func60,yec⟩,⟨Tryz.f59,_,_,Tryz.func59,yuZ⟩,⟨Tryz.f61,_,_,Tryz.func61,ypI⟩,⟨Tryz.f62,_,_,Tryz.func62,ypJ⟩,⟨Tryz.f34,_,_,Tryz.func34,ywT⟩,⟨Tryz.f47,_,_,Tryz.func47,yyZ⟩,⟨Tryz.f35,_,_,Tryz.func35,yCB⟩,⟨Tryz.f11,_,_,Tryz.func11,yAe⟩,⟨Tryz.f12,_,_,Tryz.func12,yAf⟩,⟨Tryz.f39,_,_,Tryz.func39,yy0⟩,⟨Tryz.f16,_,_,Tryz.func16,yGy⟩,⟨Tryz.f7,_,_,Tryz.func7,yEC⟩,⟨Tryz.f40,_,_,Tryz.func40,ywU⟩,⟨Tryz.f41,_,_,Tryz.func41,ywV⟩,⟨Tryz.f18,_,_,Tryz.func18,yCC⟩,⟨Tryz.f21,_,_,Tryz.func21,yCD⟩,⟨Tryz.f20,_,_,Tryz.func20,yED⟩,⟨Tryz.f19,_,_,Tryz.func19,yCE⟩,⟨Tryz.f67,_,_,Tryz.func67,ytd⟩,⟨Tryz.f51,_,_,Tryz.func51,yIH⟩,⟨Tryz.f50,_,_,Tryz.func50,yII⟩,⟨Tryz.f24,_,_,Tryz.func24,yEE⟩,⟨Tryz.f22,_,_,Tryz.func22,yEF⟩,⟨Tryz.f23,_,_,Tryz.func23,yEG⟩,⟨Tryz.f8,_,_,Tryz.func8,yCF⟩,⟨Tryz.f28,_,_,Tryz.func28,yEH⟩,⟨Tryz.f27,_,_,Tryz.func27,yAg⟩,⟨Tryz.f26,_,_,Tryz.func26,yEI⟩,⟨Tryz.f9,_,_,Tryz.func9,yEJ⟩,⟨Tryz.f29,_,_,Tryz.func29,yEK⟩,⟨Tryz.f83,_,_,Tryz.func83,yIJ⟩,⟨Tryz.f88,_,_,Tryz.func88,yIK⟩,⟨Tryz.f72,_,_,Tryz.func72,yEL⟩,⟨Tryz.f73,_,_,Tryz.func73,yKt⟩,⟨Tryz.f82,_,_,Tryz.func82,yEM⟩,⟨Tryz.f84,_,_,Tryz.func84,yGz⟩,⟨Tryz.f69,_,_,Tryz.func69,yGA⟩,⟨Tryz.f68,_,_,Tryz.func68,yEN⟩,⟨Tryz.f74,_,_,Tryz.func74,yEO⟩,⟨Tryz.f85,_,_,Tryz.func85,yCG⟩,⟨Tryz.f87,_,_,Tryz.func87,yGB⟩,⟨Tryz.f93,_,_,Tryz.func93,yIL⟩,⟨Tryz.f89,_,_,Tryz.func89,yGC⟩,⟨Tryz.f90,_,_,Tryz.func90,yEP⟩,⟨Tryz.f91,_,_,Tryz.func91,yEQ⟩,⟨Tryz.f92,_,_,Tryz.func92,yGD⟩,⟨Tryz.f71,_,_,Tryz.func71,yIM⟩,⟨Tryz.f76,_,_,Tryz.func76,yIN⟩,⟨Tryz.f86,_,_,Tryz.func86,yIO⟩,⟨Tryz.f70,_,_,Tryz.func70,yER⟩,⟨Tryz.f52,_,_,Tryz.func52,yES⟩,⟨Tryz.f75,_,_,Tryz.func75,yIP⟩,⟨Tryz.f53,_,_,Tryz.func53,yGE⟩,⟨Tryz.f30,_,_,Tryz.func30,yCH⟩,⟨Tryz.f10,_,_,Tryz.func10,yET⟩,⟨Tryz.f36,_,_,Tryz.func36,yAh⟩,⟨Tryz.f38,_,_,Tryz.func38,ykA⟩,⟨Tryz.f37,_,_,Tryz.func37,yiW⟩,⟨Tryz.f13,_,_,Tryz.func13,yCI⟩,⟨Tryz.f3,_,_,Tryz.func3,ywW⟩,trivial⟩
theorem hm:Tryz.prog.follows .mixedOrders=true:=by kernel_rfl
theorem isAdd:IsExtern Tryz.prog yhV add64Entry:=⟨_,Tryz.func48,by kernel_rfl,by kernel_rfl,by kernel_rfl,by kernel_rfl⟩
theorem isSub:IsExtern Tryz.prog yhW sub64E:=⟨_,Tryz.func49,by kernel_rfl,by kernel_rfl,by kernel_rfl,by kernel_rfl⟩
theorem k0C:EnvOk Tryz.prog E0C:=by
  refine yJb hm isAdd isSub tabOk ?_
  intro n e b h
  cases h
theorem kN:EnvOk Tryz.prog (E []):=yDa k0C fun e h=>by cases h
theorem yy1:SortsAt Tryz.prog ywz.s ywz.cf ywz.srt where
  size:=ywz.srt_size (yF9 _ _)
  pos:=by decide
  enters:=enters_of Tryz.func57 (by kernel_rfl) rfl
  entersN:=enters_of Tryz.func56 (by kernel_rfl) rfl
  law:=fun blk off cap d w hc hH hb hs=>AnyQ.slices_SortFunc_eq Tryz.sortRt 2 Tryz.isAgg31 Tryz.sizeOf31 ywz.s.enc (fun x=>Srt.enc_len x) (fun x=>Srt.enc_one x) ywz.cf (yF9 _ _) 57 #[] blk off cap d w (enters_of Tryz.func57 (by kernel_rfl) rfl) hc hH hb hs
theorem kS:EnvOk Tryz.prog (E ef0):=by
  refine yDa k0C ?_
  intro e h
  simp only [ef0,List.mem_cons,List.not_mem_nil,or_false] at h
  rcases h with rfl | rfl
  · exact yIz ywz.s yy1 (fun x y=>yGS kN hm (yac (by kernel_rfl) _) (by kernel_rfl) (yGd [] ybE x.2 y.2)) (yqV k0C hm 60) (fun H=>by kernel_rfl) (fun H=>by kernel_rfl)
  · exact yFk (z:=(.int .i64 (0))) (by kernel_rfl) (fun _ _=>rfl) (yqV k0C hm 12)
end Go.Proofs.YtfdnnbmkmlhidaaGreat.At
