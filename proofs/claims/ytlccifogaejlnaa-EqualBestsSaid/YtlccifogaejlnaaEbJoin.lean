/- Part 6. -/
import Derived.Test.YtlccifogaejlnaaRows

import Derived.Test.YtlccifogaejlnaaEbW5
import Derived.WalkKit
import Derived.ProofKit
import Derived.OpenShut
import Derived.ReadAgain
import Derived.ChangeBears






namespace Go.Proofs.Ytlccifogaejlnaa.Eb
open Go Go.Pf Go.Pf.Vc Go.ChangeShapes Go.WideShapes Go.ChangeAt Go.RowKit
set_option maxRecDepth 100000
def yHT:List (Nat×List Nat):=[(1,[1,3,4,5,6,7,8,9,10,11,12]),(0,[0,2])]
theorem yyS:cH Try.prog [1] (fun i=>(yHT.lookup i).getD []) Try.f17=some PA.fn:=by kernel_rfl
def yCi:List (Nat×List Nat):=[(6,[0,3,7,15,16,17]),(3,[8,9,14]),(5,[0,3,14]),(4,[7,10,11,12,13]),(2,[4,5,6]),(0,[2])]
theorem yqE:cH Try.prog [] (fun i=>(yCi.lookup i).getD []) Try.f8=some PC.fn:=by kernel_rfl
def yHU:List (Nat×List Nat):=[(6,[0,3,7,26,27]),(3,[8,9,25]),(5,[0,3,25]),(4,[7,10,11,12,13,14,15,16,17,18,19,20,21,22,23,24]),(2,[4,5,6]),(0,[2])]
theorem yyT:cH Try.prog [] (fun i=>(yHU.lookup i).getD []) Try.f4=some PD.fn:=by kernel_rfl
def yDj:List (Nat×List Nat):=[(8,[0,3,4,15,24]),(6,[16,17]),(7,[15,18,19,20,21,22,23]),(5,[12,13,14]),(3,[7,9,10,11]),(2,[7,8]),(1,[5,6]),(0,[2])]
theorem yrI:cH Try.prog [] (fun i=>(yDj.lookup i).getD []) Try.f59=some PE.fn:=by kernel_rfl
def yDk:List (Nat×List Nat):=[(8,[0,3,4,15,24]),(6,[16,17]),(7,[15,18,19,20,21,22,23]),(5,[12,13,14]),(3,[7,9,10,11]),(2,[7,8]),(1,[5,6]),(0,[2])]
theorem yrJ:cH Try.prog [] (fun i=>(yDk.lookup i).getD []) Try.f60=some PF.fn:=by kernel_rfl
def yFr:List (Nat×List Nat):=[(14,[81]),(13,[81]),(12,[1,49,50,51,66,67,68,69,70,71,72,73,74,75,76,77,78,79,80]),(11,[64,65]),(10,[1,49,50,64]),(9,[4,53,54,55,56,57,58,59,60,61,62,63]),(8,[51,52]),(6,[3,47,48]),(5,[1,3,47]),(4,[14,15,16,17,18,19,20,21,22,23,24,25,26,27,28,29,30,31,32,33,34,35,36,37,38,39,40,41,42,43,44,45,46]),(3,[1,3,14]),(2,[8,9,10,11,12,13]),(1,[5,6,7]),(0,[0,2])]
theorem ywV:cH Try.prog [1] (fun i=>(yFr.lookup i).getD []) Try.f38=some PG.fn:=by kernel_rfl
def yHV:List (Nat×List Nat):=[(18,[1,36,37,38,39]),(17,[49,50]),(16,[1,36,37,38,49]),(15,[7,42,43,44,45,46,47,48]),(14,[39,40,41]),(12,[23,24,25,26,35]),(11,[5,32,34]),(10,[1,5,23,24,25,32,33]),(9,[31]),(8,[4,29,30]),(7,[26,27,28]),(5,[21,22]),(4,[1,21]),(3,[17,18,19,20]),(2,[1,17]),(1,[8,9,10,11,12,13,14,15,16]),(0,[0,2])]
theorem yyU:cH Try.prog [1,4,7] (fun i=>(yHV.lookup i).getD []) Try.f18=some PH.fn:=by kernel_rfl
def ypt:List (Nat×List Nat):=[(7,[0,1,7,8,9]),(6,[5,16,18]),(5,[0,1,5,7,8,16,17]),(4,[11,12,13,14,15]),(3,[9,10]),(1,[6]),(0,[4])]
theorem yfT:cH Try.prog [] (fun i=>(ypt.lookup i).getD []) Try.f39=some PI.fn:=by kernel_rfl
def yne:List (Nat×List Nat):=[(1,[0,1,5,6,7,8]),(0,[4])]
theorem ye9:cH Try.prog [] (fun i=>(yne.lookup i).getD []) Try.f19=some Mc.fn:=by kernel_rfl
def yA0:List (Nat×List Nat):=[(7,[0,1,7,8,9]),(6,[5,16,18]),(5,[0,1,5,7,8,16,17]),(4,[11,12,13,14,15]),(3,[9,10]),(1,[6]),(0,[4])]
theorem ypu:cH Try.prog [] (fun i=>(yA0.lookup i).getD []) Try.f40=some PJ.fn:=by kernel_rfl
def yw3:List (Nat×List Nat):=[(1,[0,1,5,6,7,8]),(0,[4])]
theorem ylT:cH Try.prog [] (fun i=>(yw3.lookup i).getD []) Try.f21=some PK.fn:=by kernel_rfl
def yDl:List (Nat×List Nat):=[(1,[1,3,4,5]),(0,[0,2])]
theorem yrK:cH Try.prog [1] (fun i=>(yDl.lookup i).getD []) Try.f20=some PN.fn:=by kernel_rfl
def yFk:List (Nat×List Nat):=[(8,[14]),(7,[14]),(6,[0,12,13]),(5,[0,12]),(4,[3,8,10,11]),(3,[0,3,8,9]),(2,[7]),(1,[4,5,6]),(0,[2])]
theorem yub:cH Try.prog [] (fun i=>(yFk.lookup i).getD []) Try.f9=some PO.fn:=by kernel_rfl
def yzf:List (Nat×List Nat):=[(9,[0,3,14,15,16]),(8,[35,36]),(7,[0,3,14,15,35]),(6,[6,18,19,20,21,22,23,24,25,26,27,28,29,30,31,32,33,34]),(5,[16,17]),(3,[1,2,10]),(2,[0,1,2,3,10,11,12,13]),(1,[7,8,9]),(0,[5])]
theorem yn5:cH Try.prog [31] (fun i=>(yzf.lookup i).getD []) Try.f23=some PS.fn:=by kernel_rfl
def yCj:List (Nat×List Nat):=[(3,[3,5,6]),(2,[1,2,4]),(0,[0])]
theorem yqF:cH Try.prog [1000002,1000003] (fun i=>(yCj.lookup i).getD []) Try.f22=some Gl.fn:=by kernel_rfl
def yDA:List (Nat×List Nat):=[(1,[1,3]),(0,[0,2])]
theorem yty:cH Try.prog [1000001] (fun i=>(yDA.lookup i).getD []) Try.f10=some PT.fn:=by kernel_rfl
def yFl:List (Nat×List Nat):=[(1,[0,3,4])]
theorem yuc:cH Try.prog [2] (fun i=>(yFl.lookup i).getD []) Try.f24=some PU.fn:=by kernel_rfl
def yFs:List (Nat×List Nat):=[(3,[0,4,8,9]),(2,[0,4,5,6,7]),(1,[3]),(0,[2])]
theorem ywW:cH Try.prog [] (fun i=>(yFs.lookup i).getD []) Try.f48=some PW.fn:=by kernel_rfl
def yHW:List (Nat×List Nat):=[(3,[0,1,6,11]),(2,[6,7,8,9,10]),(1,[5]),(0,[4])]
theorem yyV:cH Try.prog [] (fun i=>(yHW.lookup i).getD []) Try.f61=some PX.fn:=by kernel_rfl
def yFm:List (Nat×List Nat):=[(3,[25]),(2,[25]),(1,[1,3,4,5,6,7,8,9,10,11,12,13,14,15,16,17,18,19,20,21,22,23,24]),(0,[0,2])]
theorem yud:cH Try.prog [1] (fun i=>(yFm.lookup i).getD []) Try.f68=some PY.fn:=by kernel_rfl
def yzg:List (Nat×List Nat):=[(8,[3,6,7,8,9,17]),(7,[5,14,16]),(6,[3,5,6,7,8,14,15]),(5,[12,13]),(4,[9,10,11]),(2,[0]),(0,[2])]
theorem yn6:cH Try.prog [] (fun i=>(yzg.lookup i).getD []) Try.f67=some PZ.fn:=by kernel_rfl
def yFn:List (Nat×List Nat):=[(1,[2,3,5,6,7,8,9,10]),(0,[0,1,4])]
theorem yue:cH Try.prog [9,2,3] (fun i=>(yFn.lookup i).getD []) Try.f45=some Qa.fn:=by kernel_rfl
def yLs:List (Nat×List Nat):=[(11,[0,1,48,49,50]),(10,[7,9,12,13,40,41,42,43,44,45,46,47]),(9,[6,35,36,37,38,39]),(8,[11,33,34]),(7,[31,32]),(6,[8,10,25,26,27,28,29,30]),(5,[22,23,24]),(4,[20,21]),(3,[18,19]),(2,[16,17]),(1,[14,15]),(0,[4,5])]
theorem yDm:cH Try.prog [] (fun i=>(yLs.lookup i).getD []) Try.f47=some Qb.fn:=by kernel_rfl
def yLt:List (Nat×List Nat):=[(10,[0,14,19,20,21,22,23,24]),(9,[17,18]),(8,[14,15,16]),(7,[8,13]),(6,[11,12]),(5,[8,9,10]),(4,[4,7]),(2,[2,4,5,6]),(1,[3])]
theorem yDn:cH Try.prog [] (fun i=>(yLt.lookup i).getD []) Try.f82=some Qc.fn:=by kernel_rfl
def yzh:List (Nat×List Nat):=[(1,[0,3,4,5]),(0,[2])]
theorem yn7:cH Try.prog [] (fun i=>(yzh.lookup i).getD []) Try.f80=some Qd.fn:=by kernel_rfl
def yLu:List (Nat×List Nat):=[(28,[2,8,9,10,14,15,16,17,18,113,120,121,122,123,124,125,126,127,128,129,130,131,132,133,134]),(27,[119]),(26,[116,117,118]),(25,[113,114,115]),(24,[102,103,104,105,106,107,108,109,110,111,112,120]),(23,[97,98,99,100,101]),(22,[94,95,96]),(21,[11,13,16,78,85,86,87,88,89,90,91,92,93]),(20,[84]),(19,[81,82,83]),(18,[78,79,80]),(17,[67,68,69,70,71,72,73,74,75,76,77,85]),(16,[62,63,64,65,66]),(15,[59,60,61]),(14,[12,57,58]),(13,[55,56]),(12,[1,52,53,54]),(11,[0,44,45,46,47,48,49,50,51]),(10,[42,43]),(9,[40,41]),(8,[37,38,39]),(7,[27,34,35,36]),(6,[0,1,2,27,28,29,30,31,32,33]),(5,[24,26]),(4,[24,25]),(3,[20,22,23]),(2,[20,21]),(1,[19]),(0,[6,7])]
theorem yDo:cH Try.prog [] (fun i=>(yLu.lookup i).getD []) Try.f66=some Qe.fn:=by kernel_rfl
def yLv:List (Nat×List Nat):=[(2,[8,18]),(1,[0,1,2,7,9,10,11,12,13,14,15,16,17]),(0,[6])]
theorem yDp:cH Try.prog [] (fun i=>(yLv.lookup i).getD []) Try.f65=some Qf.fn:=by kernel_rfl
def yDB:List (Nat×List Nat):=[(5,[1,2,13,20,21,22,23,24]),(4,[1,2,13,14,15,16,17,18,19]),(3,[0,11]),(2,[0,1,2,11,12]),(1,[8,9,10]),(0,[7])]
theorem ytz:cH Try.prog [6] (fun i=>(yDB.lookup i).getD []) Try.f62=some Qg.fn:=by kernel_rfl
def yHX:List (Nat×List Nat):=[(26,[12,17,20,153,155,156,157,158,159,160]),(25,[12,17,20,153,154]),(24,[19,152]),(23,[2,3,7,16,138,139,140,141,142,143,144,145,146,147,148,149,150,151]),(22,[13,14,18,129,131,132,133,134,135,136,137]),(21,[2,3,7,12,13,14,16,129,130]),(20,[127,128]),(19,[119,121,122,123,124,125,126]),(18,[2,3,7,12,13,14,119,120]),(17,[114,115,116,117,118]),(16,[8,10,15,107,108,109,110,111,112,113]),(15,[9,11,94,101,102,103,104,105,106]),(14,[99,100]),(13,[94,95,96,97,98]),(12,[68,82,83,84,85,86,87,88,89,90,91,92,93]),(11,[8,10,15,75,76,77,78,79,80,81]),(10,[9,11,68,69,70,71,72,73,74]),(9,[62,63,64,65,66,67]),(8,[13,14,15]),(7,[59,60,61]),(6,[47,48,49,50,51,52,53,54,55,56,57,58]),(5,[35,36,37,38,39,40,41,42,43,44,45,46]),(4,[6,25,28,29,30,31,32,33,34]),(3,[2,3,6,25,26,27]),(2,[24]),(1,[21,22,23]),(0,[0,1,5])]
theorem yyW:cH Try.prog [2,3,4] (fun i=>(yHX.lookup i).getD []) Try.f43=some Qi.fn:=by kernel_rfl
def yHY:List (Nat×List Nat):=[(5,[2,3,18,19,20,21,22]),(4,[6,11,14,15,16,17]),(3,[2,3,6,11,12,13]),(2,[10]),(1,[7,8,9]),(0,[0,1,5])]
theorem yyX:cH Try.prog [2,3,4] (fun i=>(yHY.lookup i).getD []) Try.f41=some Qj.fn:=by kernel_rfl
def yHZ:List (Nat×List Nat):=[(10,[2,3,14,16,65,67,68,69,70,71,72,73,74,75,76,77,78,79,80,81,82]),(9,[2,3,14,16,65,66]),(8,[13,15,62,63,64]),(7,[8,10,11,12,52,53,54,55,56,57,58,59,60,61]),(6,[7,9,42,43,44,45,46,47,48,49,50,51]),(5,[36,37,38,39,40,41]),(4,[6,21,24,25,26,27,28,29,30,31,32,33,34,35]),(3,[2,3,6,21,22,23]),(2,[20]),(1,[17,18,19]),(0,[0,1,5])]
theorem yyY:cH Try.prog [2,3,4] (fun i=>(yHZ.lookup i).getD []) Try.f42=some Qk.fn:=by kernel_rfl
def yH0:List (Nat×List Nat):=[(8,[2,3,19,34,35,36,37,38,39,40,41,42]),(7,[2,3,19,23,24,25,26,27,28,29,30,31,32,33]),(6,[14,20,21,22]),(5,[2,3,14,18]),(4,[6,11,15,16,17]),(3,[2,3,6,11,12,13]),(2,[10]),(1,[7,8,9]),(0,[0,1,5])]
theorem yyZ:cH Try.prog [2,3,4] (fun i=>(yH0.lookup i).getD []) Try.f44=some Ql.fn:=by kernel_rfl
def yCk:List (Nat×List Nat):=[(10,[7,9,132,133,134]),(9,[6,126,127,128,129,130,131]),(8,[0,109,110,111,112,113,114,115,116,117,118,119,120,121,122,123,124,125]),(7,[103,104,105,106,107,108]),(6,[93,94,95,96,97,98,99,100,101,102]),(5,[3,5,10,86,87,88,89,90,91,92]),(4,[59,60,61,62,63,64,65,66,67,68,69,70,71,72,73,74,75,76,77,78,79,80,81,82,83,84,85]),(3,[53,54,55,56,57,58]),(2,[8,35,36,37,38,39,40,41,42,43,44,45,46,47,48,49,50,51,52]),(1,[11,12,13,14,15,16,17,18,19,20,21,22,23,24,25,26,27,28,29,30,31,32,33,34]),(0,[1])]
theorem yqG:cH Try.prog [3,4,5,6,7,9] (fun i=>(yCk.lookup i).getD []) Try.f25=some Qn.fn:=by kernel_rfl
def yA1:List (Nat×List Nat):=[(3,[7,24]),(2,[2,5,8,17,18,19,20,21,22,23]),(1,[1,6,9,10,11,12,13,14,15,16]),(0,[0])]
theorem ypv:cH Try.prog [2,4,5,7] (fun i=>(yA1.lookup i).getD []) Try.f26=some Qo.fn:=by kernel_rfl
def yDC:List (Nat×List Nat):=[(7,[5,39,67]),(6,[5,7,45,46,47,48,49,50,51,52,53,54,55,56,57,58,59,60,61,62,63,64,65,66]),(5,[39,40,41,42,43,44]),(4,[37,38]),(3,[6,15,16,17,18,19,20,21,22,23,24,25,26,27,28,29,30,31,32,33,34,35,36]),(2,[11,12,13,14])]
theorem ytA:cH Try.prog [] (fun i=>(yDC.lookup i).getD []) Try.f27=some Gt.fn:=by kernel_rfl
def yA2:List (Nat×List Nat):=[(1,[0,3,4,5]),(0,[2])]
theorem ypw:cH Try.prog [] (fun i=>(yA2.lookup i).getD []) Try.f69=some Qp.fn:=by kernel_rfl
def yy0:List (Nat×List Nat):=[(13,[19]),(12,[19]),(11,[0,1,16,17,18]),(10,[0,1,16]),(9,[13,14,15]),(8,[0,1,13]),(7,[6,11]),(6,[12]),(5,[12]),(4,[0,1,6,11]),(3,[5]),(2,[9,10]),(1,[7,8]),(0,[4])]
theorem ymF:cH Try.prog [] (fun i=>(yy0.lookup i).getD []) Try.f46=some Qq.fn:=by kernel_rfl
def yzi:List (Nat×List Nat):=[(1,[0,3,4,5]),(0,[2])]
theorem yn8:cH Try.prog [] (fun i=>(yzi.lookup i).getD []) Try.f70=some Qr.fn:=by kernel_rfl
def yw4:List (Nat×List Nat):=[(13,[19]),(12,[19]),(11,[0,1,16,17,18]),(10,[0,1,16]),(9,[13,14,15]),(8,[0,1,13]),(7,[6,11]),(6,[12]),(5,[12]),(4,[0,1,6,11]),(3,[5]),(2,[9,10]),(1,[7,8]),(0,[4])]
theorem ylU:cH Try.prog [] (fun i=>(yw4.lookup i).getD []) Try.f50=some Qs.fn:=by kernel_rfl
def yFt:List (Nat×List Nat):=[(8,[3,6,7,8,9,17]),(7,[5,14,16]),(6,[3,5,6,7,8,14,15]),(5,[12,13]),(4,[9,10,11]),(2,[0]),(0,[2])]
theorem ywX:cH Try.prog [] (fun i=>(yFt.lookup i).getD []) Try.f49=some Qt.fn:=by kernel_rfl
def yH1:List (Nat×List Nat):=[(11,[11,60,63]),(10,[60,61,62]),(9,[2,58,59]),(8,[7,8,9,10,50,51,52,53,54,55,56,57]),(7,[3,40,41,42,43,44,45,46,47,48,49]),(6,[24,30,31,32,33,34,35,36,37,38,39]),(5,[2,3,24,25,26,27,28,29]),(4,[6,16,18,19,20,21,22,23]),(3,[2,3,6,16,17]),(2,[15]),(1,[12,13,14]),(0,[0,1,4,5])]
theorem yy1:cH Try.prog [56,2,3] (fun i=>(yH1.lookup i).getD []) Try.f30=some Qu.fn:=by kernel_rfl
def yFu:List (Nat×List Nat):=[(2,[5,13,14]),(1,[2,3,6,7,8,9,10,11,12]),(0,[0,1,4])]
theorem ywY:cH Try.prog [2,3] (fun i=>(yFu.lookup i).getD []) Try.f12=some Qv.fn:=by kernel_rfl
def yDD:List (Nat×List Nat):=[(2,[2,3,7,8]),(1,[5,6]),(0,[0,1])]
theorem ytB:cH Try.prog [3,1000003] (fun i=>(yDD.lookup i).getD []) Try.f28=some Gu.fn:=by kernel_rfl
def yDE:List (Nat×List Nat):=[(2,[1,3,8,9,10,11,12]),(1,[2,4,6,7]),(0,[0])]
theorem ytC:cH Try.prog [11,4,1000004] (fun i=>(yDE.lookup i).getD []) Try.f29=some Gv.fn:=by kernel_rfl
def yFv:List (Nat×List Nat):=[(35,[147]),(34,[21,142,143,144,145,146]),(33,[139,140,141]),(31,[19]),(30,[17,18,133,134,135]),(29,[131]),(28,[0,5,11,17,18,131,132]),(27,[16,129,130]),(26,[126,127,128]),(25,[13,125]),(24,[124]),(23,[12,101,102,103,104,115,116,117,118,119,120,121,122,123]),(22,[114]),(21,[110,111,112,113]),(20,[15,107,108,109]),(19,[104,105,106]),(16,[98,99,100]),(15,[95,96,97,136,137,138,139]),(14,[22,23,24,25,92,93,94]),(13,[91]),(12,[8,39,40,41,42,87,88,89,90]),(11,[86]),(10,[73,74,75,76,77,78,79,80,81,82,83,84,85]),(9,[9,10,46,47,48,49,50,51,52,53,54,55,56,57,58,59,60,61,62,63,64,65,66,67,68,69,70,71,72]),(8,[42,43,44,45]),(6,[35,36,37,38]),(5,[7,28,29,30,31,32,33,34]),(4,[25,26,27]),(2,[1]),(999999,[1])]
theorem ywZ:cH Try.prog [82,89,112,2000031,2000032,2000095,2000096,4,12,16,1000004,1000005,1000034,1000011,1000012,1000013,1000016,1000017,1000019] (fun i=>(yFv.lookup i).getD []) Try.f11=some Jn.fn:=by kernel_rfl
def yFw:List (Nat×List Nat):=[(9,[1,16,30,31]),(8,[2,3,6,7,27,28,29]),(7,[21,22,23,24,25,26]),(6,[1,18,19,20]),(5,[4,16,17]),(4,[5,11,14,15]),(3,[1,5,11,12,13]),(2,[10]),(1,[8,9]),(0,[0])]
theorem yw0:cH Try.prog [1000001,1000002,1000003,1000007] (fun i=>(yFw.lookup i).getD []) Try.f5=some yF3.fn:=by kernel_rfl
def yH2:List (Nat×List Nat):=[(14,[98]),(13,[98]),(12,[1,3,4,57,97]),(8,[58,59]),(11,[87,88,89,90,91,92,93,94,95,96]),(10,[1,3,4,87]),(9,[57,60,61,62,63,64,65,66,67,68,69,70,71,72,73,74,75,76,77,78,79,80,81,82,83,84,85,86]),(7,[53,54,55,56]),(5,[52]),(4,[1,52]),(3,[13,14,15,16,17,18,19,20,21,22,23,24,25,26,27,28,29,30,31,32,33,34,35,36,37,38,39,40,41,42,43,44,45,46,47,48,49,50,51]),(2,[1,13]),(1,[5,6,7,8,9,10,11,12]),(0,[0,2])]
theorem yy2:cH Try.prog [1] (fun i=>(yH2.lookup i).getD []) Try.f51=some QD.fn:=by kernel_rfl
def yH3:List (Nat×List Nat):=[(15,[1,4,43]),(12,[44,45,57]),(14,[1,4,57]),(13,[43,46,47,48,49,50,51,52,53,54,55,56]),(11,[39,40,41,42]),(10,[3,23]),(7,[24,25,32]),(9,[1,3,32,33,34,35,36,37,38]),(8,[23,26,27,28,29,30,31]),(6,[19,20,21,22]),(5,[18]),(4,[1,18]),(3,[14,15,16,17]),(2,[1,14]),(1,[5,6,7,8,9,10,11,12,13]),(0,[0,2])]
theorem yy3:cH Try.prog [1] (fun i=>(yH3.lookup i).getD []) Try.f31=some QE.fn:=by kernel_rfl
def yFx:List (Nat×List Nat):=[(6,[1,3,8]),(3,[9,10,16]),(5,[1,3,16]),(4,[8,11,12,13,14,15]),(2,[4,5,6,7]),(0,[0,2])]
theorem yw1:cH Try.prog [1] (fun i=>(yFx.lookup i).getD []) Try.f32=some QF.fn:=by kernel_rfl
def yH4:List (Nat×List Nat):=[(11,[0,4,17]),(8,[18,19,25]),(10,[0,4,25]),(9,[17,20,21,22,23,24]),(7,[14,15,16]),(6,[13]),(5,[0,13]),(4,[3,9,11,12]),(3,[0,3,9,10]),(2,[8]),(1,[5,6,7]),(0,[2])]
theorem yy4:cH Try.prog [] (fun i=>(yH4.lookup i).getD []) Try.f13=some QH.fn:=by kernel_rfl
def yLE:List (Nat×List Nat):=[(1,[0,3,4])]
theorem yFo:cH Try.prog [2] (fun i=>(yLE.lookup i).getD []) Try.f52=some QI.fn:=by kernel_rfl
def yLw:List (Nat×List Nat):=[(3,[0,4,10,11]),(2,[0,4,5,6,7,8,9]),(1,[3]),(0,[2])]
theorem yDq:cH Try.prog [] (fun i=>(yLw.lookup i).getD []) Try.f36=some QJ.fn:=by kernel_rfl
def yLx:List (Nat×List Nat):=[(3,[0,1,6,11]),(2,[6,7,8,9,10]),(1,[5]),(0,[4])]
theorem yDr:cH Try.prog [] (fun i=>(yLx.lookup i).getD []) Try.f74=some QK.fn:=by kernel_rfl
def yH5:List (Nat×List Nat):=[(3,[30]),(2,[30]),(1,[1,3,4,5,6,7,8,9,10,11,12,13,14,15,16,17,18,19,20,21,22,23,24,25,26,27,28,29]),(0,[0,2])]
theorem yy5:cH Try.prog [1] (fun i=>(yH5.lookup i).getD []) Try.f81=some QL.fn:=by kernel_rfl
def yIz:List (Nat×List Nat):=[(3,[2,3,7,10,11]),(2,[2,3,7,8,9]),(1,[5,6]),(0,[0,1,4])]
theorem yA3:cH Try.prog [2,3] (fun i=>(yIz.lookup i).getD []) Try.f73=some QM.fn:=by kernel_rfl
def yLy:List (Nat×List Nat):=[(2,[1,7]),(1,[3,4,5,6]),(0,[0])]
theorem yDs:cH Try.prog [1,2] (fun i=>(yLy.lookup i).getD []) Try.f79=some QO.fn:=by kernel_rfl
def yH6:List (Nat×List Nat):=[(5,[5,7,9,10,11,35,36,37,38,39,40,41,42,43,44,45,46,47,48,49]),(4,[6,26,27,28,29,30,31,32,33,34]),(3,[8,20,21,22,23,24,25]),(2,[1,16,17,18,19]),(1,[0,12,13,14,15])]
theorem yy6:cH Try.prog [4] (fun i=>(yH6.lookup i).getD []) Try.f35=some QP.fn:=by kernel_rfl
def yIA:List (Nat×List Nat):=[(5,[5,6,20,23,24,25]),(4,[20,21,22]),(3,[2,17,18,19]),(2,[3,12,13,14,15,16]),(1,[7,8,9,10,11]),(0,[0,1])]
theorem yA4:cH Try.prog [2,3,4] (fun i=>(yIA.lookup i).getD []) Try.f75=some QQ.fn:=by kernel_rfl
def yH7:List (Nat×List Nat):=[(4,[2,3,5,15,18,19,20,21,22,23,24]),(3,[15,16,17]),(2,[11,12,13,14]),(1,[6,7,8,9,10]),(0,[0,1])]
theorem yy7:cH Try.prog [2,3,4] (fun i=>(yH7.lookup i).getD []) Try.f76=some QR.fn:=by kernel_rfl
def yIB:List (Nat×List Nat):=[(1,[2,3,5,6,7,8,9,10,11,12,13,14,15,16,17,18,19,20,21,22,23]),(0,[0,1,4])]
theorem yA5:cH Try.prog [2,3] (fun i=>(yIB.lookup i).getD []) Try.f37=some QS.fn:=by kernel_rfl
def yH8:List (Nat×List Nat):=[(14,[1,2,6,7,8,11,45,46]),(5,[12,13,37]),(13,[41,42,43,44]),(12,[37,38,39,40]),(11,[35,36]),(10,[32,33,34]),(9,[9,21,28,29,30,31]),(8,[21,22,23,24,25,26,27]),(7,[20]),(6,[11,14,15,16,17,18,19]),(4,[10]),(0,[0,5])]
theorem yy8:cH Try.prog [2,4,6] (fun i=>(yH8.lookup i).getD []) Try.f77=some QT.fn:=by kernel_rfl
def yIC:List (Nat×List Nat):=[(6,[8,35,40]),(5,[35,36,37,38,39]),(4,[0]),(3,[4,5,26,28,29,30,31,32,33,34]),(2,[0,4,5,26,27]),(1,[9,10,11,12,13,14,15,16,17,18,19,20,21,22,23,24,25]),(0,[1,2,7])]
theorem yA6:cH Try.prog [4,5,6,8] (fun i=>(yIC.lookup i).getD []) Try.f78=some QU.fn:=by kernel_rfl
def yLz:List (Nat×List Nat):=[(17,[2,3,6,9,13,14,93,94,95,96,97,98,99,100,101,102,103,104,105,106,107,108]),(16,[10,15,87,88,89,90,91,92]),(15,[12,84,85,86]),(14,[11,76,78,79,80,81,82,83]),(13,[2,3,6,9,10,76,77]),(12,[7,8,61,67,74,75]),(11,[71,72,73]),(10,[7,8,9,67,68,69,70]),(9,[65,66]),(8,[61,62,63,64]),(7,[55,56,57,58,59,60]),(6,[52,53,54]),(5,[49,50,51]),(4,[31,32,33,34,35,36,37,38,39,40,41,42,43,44,45,46,47,48]),(3,[19,24,25,26,27,28,29,30]),(2,[2,3,19,20,21,22,23]),(1,[16,17,18]),(0,[0,1,5])]
theorem yDt:cH Try.prog [2,3,4,7,8,10,11,14] (fun i=>(yLz.lookup i).getD []) Try.f54=some QV.fn:=by kernel_rfl
def yLA:List (Nat×List Nat):=[(3,[2,3,9,14,15,16,17,18,19]),(2,[2,3,9,10,11,12,13]),(1,[6,7,8]),(0,[0,1,5])]
theorem yDu:cH Try.prog [2,3,4] (fun i=>(yLA.lookup i).getD []) Try.f57=some QW.fn:=by kernel_rfl
def yLB:List (Nat×List Nat):=[(4,[2,3,6,7,30,31,32,33,34,35,36,37,38,39,40,41,42,43,44,45,46,47,48,49,50,51,52,53,54,55,56,57,58,59,60,61,62,63,64,65,66,67,68,69,70,71]),(3,[11,16,17,18,19,20,21,22,23,24,25,26,27,28,29]),(2,[2,3,11,12,13,14,15]),(1,[8,9,10]),(0,[0,1,5])]
theorem yDv:cH Try.prog [2,3,4] (fun i=>(yLB.lookup i).getD []) Try.f71=some QX.fn:=by kernel_rfl
def yFy:List (Nat×List Nat):=[(6,[1,2,5,6,9,32]),(4,[10,11]),(5,[9,12,13,14,15,16,17,18,19,20,21,22,23,24,25,26,27,28,29,30,31]),(3,[7,8]),(0,[0,4])]
theorem yw2:cH Try.prog [2] (fun i=>(yFy.lookup i).getD []) Try.f72=some QY.fn:=by kernel_rfl
def yH9:List (Nat×List Nat):=[(6,[8,10,52,53,54]),(5,[5,7,11,45,46,47,48,49,50,51]),(4,[1,3,36,37,38,39,40,41,42,43,44]),(3,[30,31,32,33,34,35]),(2,[9,18,19,20,21,22,23,24,25,26,27,28,29]),(1,[12,13,14,15,16,17]),(0,[0,2])]
theorem yy9:cH Try.prog [3,5,6,7,8,10] (fun i=>(yH9.lookup i).getD []) Try.f53=some QZ.fn:=by kernel_rfl
def yIa:List (Nat×List Nat):=[(6,[1,3,4,9,32]),(4,[10,11]),(5,[9,12,13,14,15,16,17,18,19,20,21,22,23,24,25,26,27,28,29,30,31]),(3,[5,6,7,8]),(0,[0,2])]
theorem yza:cH Try.prog [1] (fun i=>(yIa.lookup i).getD []) Try.f55=some Ra.fn:=by kernel_rfl
def yLC:List (Nat×List Nat):=[(8,[2,3,6,26,34,35,36,37,38]),(7,[3,26,27,28,29,30,31,32,33]),(6,[24,25]),(5,[17,19,20,21,22,23]),(4,[2,3,17,18]),(3,[10,15,16]),(2,[2,3,10,11,12,13,14]),(1,[7,8,9]),(0,[0,1,5])]
theorem yDw:cH Try.prog [2,3,4,6] (fun i=>(yLC.lookup i).getD []) Try.f58=some Rb.fn:=by kernel_rfl
def yIb:List (Nat×List Nat):=[(6,[8,10,52,53,54]),(5,[5,7,11,45,46,47,48,49,50,51]),(4,[1,3,34,35,36,37,38,39,40,41,42,43,44]),(3,[28,29,30,31,32,33]),(2,[9,18,19,20,21,22,23,24,25,26,27]),(1,[12,13,14,15,16,17]),(0,[0,2])]
theorem yzb:cH Try.prog [3,5,6,7,8,10] (fun i=>(yIb.lookup i).getD []) Try.f56=some Rc.fn:=by kernel_rfl
def yIc:List (Nat×List Nat):=[(11,[0,1,2,3,9,10,11,20,58]),(5,[21,22]),(10,[54,55,56,57]),(9,[12,13,47,48,49,50,51,52,53]),(8,[37,38,39,40,41,42,43,44,45,46]),(7,[30,31,32,33,34,35,36]),(6,[20,23,24,25,26,27,28,29]),(4,[17,18,19]),(1,[14,15,16]),(0,[8])]
theorem yzc:cH Try.prog [56,9,12,13] (fun i=>(yIc.lookup i).getD []) Try.f33=some Jo.fn:=by kernel_rfl
def yId:List (Nat×List Nat):=[(3,[7,24]),(2,[2,5,8,17,18,19,20,21,22,23]),(1,[1,6,9,10,11,12,13,14,15,16]),(0,[0])]
theorem yzd:cH Try.prog [2,4,5,7] (fun i=>(yId.lookup i).getD []) Try.f34=some Rd.fn:=by kernel_rfl
def yID:List (Nat×List Nat):=[(6,[5,6,33,37,38,39]),(5,[5,6,33,34,35,36]),(4,[2,31,32]),(3,[3,13,17,18,19,20,21,22,23,24,25,26,27,28,29,30]),(2,[2,3,13,14,15,16]),(1,[7,8,9,10,11,12]),(0,[0,1,4])]
theorem yA7:cH Try.prog [2,3,5,6] (fun i=>(yID.lookup i).getD []) Try.f16=some Re.fn:=by kernel_rfl
def yIe:List (Nat×List Nat):=[(21,[112,113,171]),(25,[171,172,173,174,175,176,177,178]),(24,[135,142,143,144,145,146,147,148,149,150,151,152,153,154,155,156,157,158,159,160,161,162,163,164,165,166,167,168,169,170]),(23,[135,136,137,138,139,140,141]),(22,[111,114,115,116,117,118,119,120,121,122,123,124,125,126,127,128,129,130,131,132,133,134]),(20,[109,110]),(19,[107]),(18,[0,1,5,6,7,8,9,107,108]),(17,[10,37,96,97,98,99,100,101,102,103,104,105,106]),(7,[11,12,38,39,68,94]),(16,[12,94,95]),(15,[92,93]),(14,[11,77,78,79,80,81,82,83,84,85,86,87,88,89,90,91]),(13,[68,69,70,71,72,73,74,75,76]),(12,[63,65,66,67]),(11,[63,64]),(10,[61,62]),(9,[47,48,49,50,51,52,53,54,55,56,57,58,59,60]),(8,[37,40,41,42,43,44,45,46]),(6,[35,36]),(4,[25,26,27,28,29,30,31,32,33,34]),(3,[9,13,20,21,22,23,24,111]),(2,[16,17,18,19]),(1,[14,15]),(999999,[1])]
theorem yze:cH Try.prog [4,9,11,12] (fun i=>(yIe.lookup i).getD []) Try.f14=some Js.fn:=by kernel_rfl
def yDx:List (Nat×List Nat):=[(15,[0,5,6,63]),(12,[64,65]),(14,[80,81]),(13,[63,66,67,68,69,70,71,72,73,74,75,76,77,78,79]),(11,[61,62]),(10,[3,56,57,58,59,60]),(9,[4,39,42,43,44,45,46,47,48,49,50,51,52,53,54,55]),(8,[39,40,41]),(7,[31,32,33,34,35,36,37,38]),(6,[27,28,29,30]),(5,[0,3,27]),(4,[23,26]),(3,[23,24,25]),(2,[10,11,12,13,14,15,16,17,18,19,20,21,22]),(1,[7,8,9]),(0,[2])]
theorem yrL:cH Try.prog [] (fun i=>(yDx.lookup i).getD []) Try.f15=some BP.fn:=by kernel_rfl
def yIE:List (Nat×List Nat):=[(13,[0,5,7,8,33,44,45]),(12,[9,39,40,41,42,43]),(11,[37,38]),(10,[33,34,35,36]),(9,[9,32,39]),(8,[6,19,26,27,28,29,30,31]),(6,[20,21]),(7,[19,22,23,24,25]),(5,[16,17,18]),(3,[12]),(2,[0,12,13,14,15]),(1,[10,11]),(0,[2,4]),(999999,[1])]
theorem yA8:cH Try.prog [24,40,3,8,9,4000007] (fun i=>(yIE.lookup i).getD []) Try.f6=some DJ.fn:=by kernel_rfl
def yIF:List (Nat×List Nat):=[(8,[0,1,5,14]),(5,[15,16,25]),(7,[0,1,5,25]),(6,[14,17,18,19,20,21,22,23,24]),(4,[11,12,13]),(3,[10]),(2,[0,1,10]),(1,[6,7,8,9]),(0,[4])]
theorem yA9:cH Try.prog [] (fun i=>(yIF.lookup i).getD []) Try.f7=some RD.fn:=by kernel_rfl
def yCl:List (Nat×List Nat):=[(5,[3,4,5,6,7,8,23,24,25,26,27,28,29,30,31,32,33,34,35]),(4,[0,17,18,19,20,21,22]),(3,[10,11,12,13,14,15,16]),(2,[0,10]),(1,[9]),(0,[2])]
theorem yqH:cH Try.prog [4,7] (fun i=>(yCl.lookup i).getD []) Try.f3=some RE.fn:=by kernel_rfl
theorem yMe:CS Try.prog tab:=by unfold tab;simp only [CS];exact ⟨⟨Try.f17,_,_,Try.func17,yyS⟩,⟨Try.f8,_,_,Try.func8,yqE⟩,⟨Try.f4,_,_,Try.func4,yyT⟩,⟨Try.f59,_,_,Try.func59,yrI⟩,⟨Try.f60,_,_,Try.func60,yrJ⟩,⟨Try.f38,_,_,Try.func38,ywV⟩,⟨Try.f18,_,_,Try.func18,yyU⟩,⟨Try.f39,_,_,Try.func39,yfT⟩,⟨Try.f19,_,_,Try.func19,ye9⟩,⟨Try.f40,_,_,Try.func40,ypu⟩,⟨Try.f21,_,_,Try.func21,ylT⟩,⟨Try.f20,_,_,Try.func20,yrK⟩,⟨Try.f9,_,_,Try.func9,yub⟩,⟨Try.f23,_,_,Try.func23,yn5⟩,⟨Try.f22,_,_,Try.func22,yqF⟩,⟨Try.f10,_,_,Try.func10,yty⟩,⟨Try.f24,_,_,Try.func24,yuc⟩,⟨Try.f48,_,_,Try.func48,ywW⟩,⟨Try.f61,_,_,Try.func61,yyV⟩,⟨Try.f68,_,_,Try.func68,yud⟩,⟨Try.f67,_,_,Try.func67,yn6⟩,⟨Try.f45,_,_,Try.func45,yue⟩,⟨Try.f47,_,_,Try.func47,yDm⟩,⟨Try.f82,_,_,Try.func82,yDn⟩,⟨Try.f80,_,_,Try.func80,yn7⟩,⟨Try.f66,_,_,Try.func66,yDo⟩,⟨Try.f65,_,_,Try.func65,yDp⟩,⟨Try.f62,_,_,Try.func62,ytz⟩,⟨Try.f43,_,_,Try.func43,yyW⟩,⟨Try.f41,_,_,Try.func41,yyX⟩,⟨Try.f42,_,_,Try.func42,yyY⟩,⟨Try.f44,_,_,Try.func44,yyZ⟩,⟨Try.f25,_,_,Try.func25,yqG⟩,⟨Try.f26,_,_,Try.func26,ypv⟩,⟨Try.f27,_,_,Try.func27,ytA⟩,⟨Try.f69,_,_,Try.func69,ypw⟩,⟨Try.f46,_,_,Try.func46,ymF⟩,⟨Try.f70,_,_,Try.func70,yn8⟩,⟨Try.f50,_,_,Try.func50,ylU⟩,⟨Try.f49,_,_,Try.func49,ywX⟩,⟨Try.f30,_,_,Try.func30,yy1⟩,⟨Try.f12,_,_,Try.func12,ywY⟩,⟨Try.f28,_,_,Try.func28,ytB⟩,⟨Try.f29,_,_,Try.func29,ytC⟩,⟨Try.f11,_,_,Try.func11,ywZ⟩,⟨Try.f5,_,_,Try.func5,yw0⟩,⟨Try.f51,_,_,Try.func51,yy2⟩,⟨Try.f31,_,_,Try.func31,yy3⟩,⟨Try.f32,_,_,Try.func32,yw1⟩,⟨Try.f13,_,_,Try.func13,yy4⟩,⟨Try.f52,_,_,Try.func52,yFo⟩,⟨Try.f36,_,_,Try.func36,yDq⟩,⟨Try.f74,_,_,Try.func74,yDr⟩,⟨Try.f81,_,_,Try.func81,yy5⟩,⟨Try.f73,_,_,Try.func73,yA3⟩,⟨Try.f79,_,_,Try.func79,yDs⟩,⟨Try.f35,_,_,Try.func35,yy6⟩,⟨Try.f75,_,_,Try.func75,yA4⟩,⟨Try.f76,_,_,Try.func76,yy7⟩,⟨Try.f37,_,_,Try.func37,yA5⟩,⟨Try.f77,_,_,Try.func77,yy8⟩,⟨Try.f78,_,_,Try.func78,yA6⟩,⟨Try.f54,_,_,Try.func54,yDt⟩,⟨Try.f57,_,_,Try.func57,yDu⟩,⟨Try.f71,_,_,Try.func71,yDv⟩,⟨Try.f72,_,_,Try.func72,yw2⟩,⟨Try.f53,_,_,Try.func53,yy9⟩,⟨Try.f55,_,_,Try.func55,yza⟩,⟨Try.f58,_,_,Try.func58,yDw⟩,⟨Try.f56,_,_,Try.func56,yzb⟩,⟨Try.f33,_,_,Try.func33,yzc⟩,⟨Try.f34,_,_,Try.func34,yzd⟩,⟨Try.f16,_,_,Try.func16,yA7⟩,⟨Try.f14,_,_,Try.func14,yze⟩,⟨Try.f15,_,_,Try.func15,yrL⟩,⟨Try.f6,_,_,Try.func6,yA8⟩,⟨Try.f7,_,_,Try.func7,yA9⟩,⟨Try.f3,_,_,Try.func3,yqH⟩,trivial⟩
theorem hm:Try.prog.follows .mixedOrders=true:=by kernel_rfl
theorem yMf:IsExtern Try.prog yQ add64Entry:=⟨_,Try.func63,by kernel_rfl,by kernel_rfl,by kernel_rfl,by kernel_rfl⟩
theorem yMg:IsExtern Try.prog yR Pf.Id:=⟨_,Try.func64,by kernel_rfl,by kernel_rfl,by kernel_rfl,by kernel_rfl⟩
theorem dnE:CT DL=[]:=by kernel_rfl
theorem k0C:EO Try.prog ln:=by
 refine kh hm yMf yMg yMe (fun n hn=>by rw [dnE] at hn;cases hn) ?_;intro n e b h
 cases h
theorem kN:EO Try.prog (E []):=kw k0C fun e h=>by cases h
end Go.Proofs.Ytlccifogaejlnaa.Eb
