/- Part 6. -/
import Derived.Test.YtfljciocndelnaaGreatRows

import Derived.Test.YtfljciocndelnaaGreatEgW5
import Derived.WalkKit
import Derived.ProofKit
import Derived.OpenShut
import Derived.ReadAgain
import Derived.ChangeBears






namespace Go.Proofs.YtfljciocndelnaaGreat.Eg
open Go Go.Pf Go.Pf.Vc Go.ChangeShapes Go.WideShapes Go.ChangeAt Go.RowKit
set_option maxRecDepth 100000
def yy:List (Nat×List Nat):=[(1,[1,3,4,5,6,7,8,9,10,11,12]),(0,[0,2])]
theorem yz:aT Tryz.prog [1] (fun i=>(yy.lookup i).getD []) Tryz.f90=some MK.fn:=by kernel_rfl
def za:List (Nat×List Nat):=[(6,[0,3,7,15,16,17]),(3,[8,9,14]),(5,[0,3,14]),(4,[7,10,11,12,13]),(2,[4,5,6]),(0,[2])]
theorem zb:aT Tryz.prog [] (fun i=>(za.lookup i).getD []) Tryz.f47=some ML.fn:=by kernel_rfl
def zc:List (Nat×List Nat):=[(6,[0,3,7,26,27]),(3,[8,9,25]),(5,[0,3,25]),(4,[7,10,11,12,13,14,15,16,17,18,19,20,21,22,23,24]),(2,[4,5,6]),(0,[2])]
theorem zd:aT Tryz.prog [] (fun i=>(zc.lookup i).getD []) Tryz.f21=some MM.fn:=by kernel_rfl
def ze:List (Nat×List Nat):=[(14,[98]),(13,[98]),(12,[1,3,4,57,97]),(8,[58,59]),(11,[87,88,89,90,91,92,93,94,95,96]),(10,[1,3,4,87]),(9,[57,60,61,62,63,64,65,66,67,68,69,70,71,72,73,74,75,76,77,78,79,80,81,82,83,84,85,86]),(7,[53,54,55,56]),(5,[52]),(4,[1,52]),(3,[13,14,15,16,17,18,19,20,21,22,23,24,25,26,27,28,29,30,31,32,33,34,35,36,37,38,39,40,41,42,43,44,45,46,47,48,49,50,51]),(2,[1,13]),(1,[5,6,7,8,9,10,11,12]),(0,[0,2])]
theorem zf:aT Tryz.prog [1] (fun i=>(ze.lookup i).getD []) Tryz.f116=some MN.fn:=by kernel_rfl
def zg:List (Nat×List Nat):=[(15,[1,4,43]),(12,[44,45,57]),(14,[1,4,57]),(13,[43,46,47,48,49,50,51,52,53,54,55,56]),(11,[39,40,41,42]),(10,[3,23]),(7,[24,25,32]),(9,[1,3,32,33,34,35,36,37,38]),(8,[23,26,27,28,29,30,31]),(6,[19,20,21,22]),(5,[18]),(4,[1,18]),(3,[14,15,16,17]),(2,[1,14]),(1,[5,6,7,8,9,10,11,12,13]),(0,[0,2])]
theorem zh:aT Tryz.prog [1] (fun i=>(zg.lookup i).getD []) Tryz.f91=some MO.fn:=by kernel_rfl
def zi:List (Nat×List Nat):=[(6,[1,3,8]),(3,[9,10,16]),(5,[1,3,16]),(4,[8,11,12,13,14,15]),(2,[4,5,6,7]),(0,[0,2])]
theorem zj:aT Tryz.prog [1] (fun i=>(zi.lookup i).getD []) Tryz.f92=some MP.fn:=by kernel_rfl
def zk:List (Nat×List Nat):=[(11,[0,4,17]),(8,[18,19,25]),(10,[0,4,25]),(9,[17,20,21,22,23,24]),(7,[14,15,16]),(6,[13]),(5,[0,13]),(4,[3,9,11,12]),(3,[0,3,9,10]),(2,[8]),(1,[5,6,7]),(0,[2])]
theorem zl:aT Tryz.prog [] (fun i=>(zk.lookup i).getD []) Tryz.f48=some MQ.fn:=by kernel_rfl
def zm:List (Nat×List Nat):=[(10,[0,1,5,6,15]),(6,[16,17]),(9,[39,40,41,42,43,44,45]),(8,[0,1,5,6,39]),(7,[15,18,19,20,21,22,23,24,25,26,27,28,29,30,31,32,33,34,35,36,37,38]),(5,[13,14]),(3,[10,11,12]),(2,[0,1,10]),(1,[7,8,9]),(0,[4])]
theorem zn:aT Tryz.prog [] (fun i=>(zm.lookup i).getD []) Tryz.f49=some MR.fn:=by kernel_rfl
def zo:List (Nat×List Nat):=[(5,[14]),(4,[14]),(3,[0,1,7,10,11,12,13]),(2,[0,1,7,8,9]),(1,[5,6]),(0,[4])]
theorem zp:aT Tryz.prog [] (fun i=>(zo.lookup i).getD []) Tryz.f22=some MS.fn:=by kernel_rfl
def zq:List (Nat×List Nat):=[(1,[0,1,5,6,7,8,9,10,11,12,13,14,15,16,17,18]),(0,[4])]
theorem zr:aT Tryz.prog [] (fun i=>(zq.lookup i).getD []) Tryz.f6=some MT.fn:=by kernel_rfl
def zt:List (Nat×List Nat):=[(3,[0,4,10,11]),(2,[0,4,5,6,7,8,9]),(1,[3]),(0,[2])]
theorem zu:aT Tryz.prog [] (fun i=>(zt.lookup i).getD []) Tryz.f24=some MU.fn:=by kernel_rfl
def zv:List (Nat×List Nat):=[(3,[0,1,6,11]),(2,[6,7,8,9,10]),(1,[5]),(0,[4])]
theorem zw:aT Tryz.prog [] (fun i=>(zv.lookup i).getD []) Tryz.f23=some MV.fn:=by kernel_rfl
def zx:List (Nat×List Nat):=[(3,[30]),(2,[30]),(1,[1,3,4,5,6,7,8,9,10,11,12,13,14,15,16,17,18,19,20,21,22,23,24,25,26,27,28,29]),(0,[0,2])]
theorem zy:aT Tryz.prog [1] (fun i=>(zx.lookup i).getD []) Tryz.f7=some MW.fn:=by kernel_rfl
def yIC:List (Nat×List Nat):=[(1,[1,2,3,4,5,6,7]),(0,[0])]
theorem yC6:aT Tryz.prog [1,2,4,5] (fun i=>(yIC.lookup i).getD []) Tryz.f25=some MX.fn:=by kernel_rfl
def yC7:List (Nat×List Nat):=[(8,[0,3,4,15,24]),(6,[16,17]),(7,[15,18,19,20,21,22,23]),(5,[12,13,14]),(3,[7,9,10,11]),(2,[7,8]),(1,[5,6]),(0,[2])]
theorem yrW:aT Tryz.prog [] (fun i=>(yC7.lookup i).getD []) Tryz.f96=some MY.fn:=by kernel_rfl
def yC8:List (Nat×List Nat):=[(8,[0,3,4,15,24]),(6,[16,17]),(7,[15,18,19,20,21,22,23]),(5,[12,13,14]),(3,[7,9,10,11]),(2,[7,8]),(1,[5,6]),(0,[2])]
theorem yrX:aT Tryz.prog [] (fun i=>(yC8.lookup i).getD []) Tryz.f97=some MZ.fn:=by kernel_rfl
def yFi:List (Nat×List Nat):=[(14,[81]),(13,[81]),(12,[1,49,50,51,66,67,68,69,70,71,72,73,74,75,76,77,78,79,80]),(11,[64,65]),(10,[1,49,50,64]),(9,[4,53,54,55,56,57,58,59,60,61,62,63]),(8,[51,52]),(6,[3,47,48]),(5,[1,3,47]),(4,[14,15,16,17,18,19,20,21,22,23,24,25,26,27,28,29,30,31,32,33,34,35,36,37,38,39,40,41,42,43,44,45,46]),(3,[1,3,14]),(2,[8,9,10,11,12,13]),(1,[5,6,7]),(0,[0,2])]
theorem yxh:aT Tryz.prog [1] (fun i=>(yFi.lookup i).getD []) Tryz.f59=some Na.fn:=by kernel_rfl
def yGy:List (Nat×List Nat):=[(18,[1,36,37,38,39]),(17,[49,50]),(16,[1,36,37,38,49]),(15,[7,42,43,44,45,46,47,48]),(14,[39,40,41]),(12,[23,24,25,26,35]),(11,[5,32,34]),(10,[1,5,23,24,25,32,33]),(9,[31]),(8,[4,29,30]),(7,[26,27,28]),(5,[21,22]),(4,[1,21]),(3,[17,18,19,20]),(2,[1,17]),(1,[8,9,10,11,12,13,14,15,16]),(0,[0,2])]
theorem yzd:aT Tryz.prog [1,4,7] (fun i=>(yGy.lookup i).getD []) Tryz.f71=some Nb.fn:=by kernel_rfl
def ypD:List (Nat×List Nat):=[(7,[0,1,7,8,9]),(6,[5,16,18]),(5,[0,1,5,7,8,16,17]),(4,[11,12,13,14,15]),(3,[9,10]),(1,[6]),(0,[4])]
theorem yfI:aT Tryz.prog [] (fun i=>(ypD.lookup i).getD []) Tryz.f103=some Nc.fn:=by kernel_rfl
def ynn:List (Nat×List Nat):=[(1,[0,1,5,6,7,8]),(0,[4])]
theorem yeS:aT Tryz.prog [] (fun i=>(ynn.lookup i).getD []) Tryz.f72=some Jz.fn:=by kernel_rfl
def yAR:List (Nat×List Nat):=[(7,[0,1,7,8,9]),(6,[5,16,18]),(5,[0,1,5,7,8,16,17]),(4,[11,12,13,14,15]),(3,[9,10]),(1,[6]),(0,[4])]
theorem ypE:aT Tryz.prog [] (fun i=>(yAR.lookup i).getD []) Tryz.f104=some Nd.fn:=by kernel_rfl
def yxu:List (Nat×List Nat):=[(1,[0,1,5,6,7,8]),(0,[4])]
theorem ylT:aT Tryz.prog [] (fun i=>(yxu.lookup i).getD []) Tryz.f74=some Nf.fn:=by kernel_rfl
def yC9:List (Nat×List Nat):=[(1,[1,3,4,5]),(0,[0,2])]
theorem yrY:aT Tryz.prog [1] (fun i=>(yC9.lookup i).getD []) Tryz.f73=some Ng.fn:=by kernel_rfl
def yE8:List (Nat×List Nat):=[(8,[14]),(7,[14]),(6,[0,12,13]),(5,[0,12]),(4,[3,8,10,11]),(3,[0,3,8,9]),(2,[7]),(1,[4,5,6]),(0,[2])]
theorem yu1:aT Tryz.prog [] (fun i=>(yE8.lookup i).getD []) Tryz.f38=some Nh.fn:=by kernel_rfl
def yxv:List (Nat×List Nat):=[(4,[14,15]),(3,[4,11,12,13]),(2,[8,9,10]),(0,[1])]
theorem ylU:aT Tryz.prog [] (fun i=>(yxv.lookup i).getD []) Tryz.f95=some VD.fn:=by kernel_rfl
def yzr:List (Nat×List Nat):=[(1,[1,3]),(0,[0,2])]
theorem yof:aT Tryz.prog [] (fun i=>(yzr.lookup i).getD []) Tryz.f51=some Ni.fn:=by kernel_rfl
def yxi:List (Nat×List Nat):=[(4,[2,6,12]),(3,[2,5,8,9,10,11]),(2,[4,6,7]),(1,[1]),(0,[0])]
theorem ykF:aT Tryz.prog [10,1000002] (fun i=>(yxi.lookup i).getD []) Tryz.f117=some VE.fn:=by kernel_rfl
def yDa:List (Nat×List Nat):=[(1,[0,3,4]),(0,[2])]
theorem yrZ:aT Tryz.prog [] (fun i=>(yDa.lookup i).getD []) Tryz.f93=some VF.fn:=by kernel_rfl
def yID:List (Nat×List Nat):=[(7,[0,8,13,14,15,16,17,18]),(6,[11,12]),(5,[8,9,10]),(4,[4,7]),(2,[2,4,5,6]),(1,[3])]
theorem yDb:aT Tryz.prog [] (fun i=>(yID.lookup i).getD []) Tryz.f140=some VG.fn:=by kernel_rfl
def yIE:List (Nat×List Nat):=[(10,[0,14,19,20,21,22,23,24]),(9,[17,18]),(8,[14,15,16]),(7,[8,13]),(6,[11,12]),(5,[8,9,10]),(4,[4,7]),(2,[2,4,5,6]),(1,[3])]
theorem yDc:aT Tryz.prog [] (fun i=>(yIE.lookup i).getD []) Tryz.f141=some Nj.fn:=by kernel_rfl
def yI5:List (Nat×List Nat):=[(2,[0,6,7]),(1,[0,3,4,5]),(0,[2])]
theorem yGz:aT Tryz.prog [] (fun i=>(yI5.lookup i).getD []) Tryz.f119=some VH.fn:=by kernel_rfl
def yDd:List (Nat×List Nat):=[(1,[0,3,4,5]),(0,[2])]
theorem yr0:aT Tryz.prog [] (fun i=>(yDd.lookup i).getD []) Tryz.f156=some VI.fn:=by kernel_rfl
def yDl:List (Nat×List Nat):=[(1,[0,1,5,6,7,8,9,10,11,12,13,14,15,16]),(0,[4])]
theorem yua:aT Tryz.prog [] (fun i=>(yDl.lookup i).getD []) Tryz.f137=some VJ.fn:=by kernel_rfl
def yog:List (Nat×List Nat):=[(2,[7,13,14,30]),(5,[31,32]),(6,[30,33,34,35,36,37,38,39,40,41,42,43,44,45,46,47,48]),(4,[16,17,18,19,20,21,22,23,24,25,26,27,28,29]),(3,[12,15]),(1,[10,11]),(0,[8,9])]
theorem yfa:aT Tryz.prog [] (fun i=>(yog.lookup i).getD []) Tryz.f131=some VK.fn:=by kernel_rfl
def yr1:List (Nat×List Nat):=[(30,[14,133]),(29,[2,127,128,129,130,131,132]),(28,[16,17,18,113,124,125,126]),(27,[14,122,123]),(26,[1,117,118,119,120,121]),(25,[16,17,18,113,114,115,116]),(24,[111,112]),(23,[10,109,110]),(22,[103,104,105,106,107,108]),(21,[15,102]),(20,[8,9,11,87,94,95,96,97,98,99,100,101]),(19,[13,93]),(18,[1,10,11,87,88,89,90,91,92]),(17,[68,72,73,74,75,76,77,78,79,80,81,82,83,84,85,86]),(16,[68,69,70,71]),(15,[12,50,61,62,63,64,65,66,67]),(13,[55,56,57,58,59,60]),(12,[12,50,51,52,53,54]),(11,[49]),(10,[35,42,43,44,45,46,47,48]),(9,[40,41]),(8,[35,36,37,38,39]),(7,[29,34]),(6,[0,1,2,3,8,9,10,29,30,31,32,33]),(5,[23,28]),(4,[0,1,2,3,8,9,10,23,24,25,26,27]),(3,[22]),(2,[19,20,21])]
theorem ygT:aT Tryz.prog [] (fun i=>(yr1.lookup i).getD []) Tryz.f118=some VL.fn:=by kernel_rfl
def yB4:List (Nat×List Nat):=[(1,[0,2,5,6,7,8,9,10]),(0,[3,4])]
theorem yqV:aT Tryz.prog [] (fun i=>(yB4.lookup i).getD []) Tryz.f94=some VM.fn:=by kernel_rfl
def yDm:List (Nat×List Nat):=[(3,[3,8]),(2,[6,7]),(1,[0,4,5]),(0,[2])]
theorem yub:aT Tryz.prog [] (fun i=>(yDm.lookup i).getD []) Tryz.f50=some VN.fn:=by kernel_rfl
def yDe:List (Nat×List Nat):=[(13,[32]),(12,[32]),(11,[0,1,17,18,19,20,28,29,30,31]),(10,[26,27]),(9,[0,1,17,18,19,26]),(8,[7,8,24,25]),(7,[20,21,22,23]),(5,[6]),(4,[5,12,14,15,16]),(3,[0,1,5,12,13]),(2,[11]),(1,[9,10]),(0,[4])]
theorem yr2:aT Tryz.prog [] (fun i=>(yDe.lookup i).getD []) Tryz.f28=some Gv.fn:=by kernel_rfl
def yE9:List (Nat×List Nat):=[(1,[0,3,4])]
theorem yu2:aT Tryz.prog [2] (fun i=>(yE9.lookup i).getD []) Tryz.f31=some Nl.fn:=by kernel_rfl
def yFj:List (Nat×List Nat):=[(3,[0,4,8,9]),(2,[0,4,5,6,7]),(1,[3]),(0,[2])]
theorem yxj:aT Tryz.prog [] (fun i=>(yFj.lookup i).getD []) Tryz.f57=some Nm.fn:=by kernel_rfl
def yGA:List (Nat×List Nat):=[(3,[0,1,6,11]),(2,[6,7,8,9,10]),(1,[5]),(0,[4])]
theorem yze:aT Tryz.prog [] (fun i=>(yGA.lookup i).getD []) Tryz.f58=some Nn.fn:=by kernel_rfl
def yFa:List (Nat×List Nat):=[(3,[25]),(2,[25]),(1,[1,3,4,5,6,7,8,9,10,11,12,13,14,15,16,17,18,19,20,21,22,23,24]),(0,[0,2])]
theorem yu3:aT Tryz.prog [1] (fun i=>(yFa.lookup i).getD []) Tryz.f30=some No.fn:=by kernel_rfl
def yzs:List (Nat×List Nat):=[(8,[3,6,7,8,9,17]),(7,[5,14,16]),(6,[3,5,6,7,8,14,15]),(5,[12,13]),(4,[9,10,11]),(2,[0]),(0,[2])]
theorem yoh:aT Tryz.prog [] (fun i=>(yzs.lookup i).getD []) Tryz.f98=some Np.fn:=by kernel_rfl
def yFb:List (Nat×List Nat):=[(1,[2,3,5,6,7,8,9,10]),(0,[0,1,4])]
theorem yu4:aT Tryz.prog [9,2,3] (fun i=>(yFb.lookup i).getD []) Tryz.f60=some Nq.fn:=by kernel_rfl
def yIF:List (Nat×List Nat):=[(11,[0,1,48,49,50]),(10,[7,9,12,13,40,41,42,43,44,45,46,47]),(9,[6,35,36,37,38,39]),(8,[11,33,34]),(7,[31,32]),(6,[8,10,25,26,27,28,29,30]),(5,[22,23,24]),(4,[20,21]),(3,[18,19]),(2,[16,17]),(1,[14,15]),(0,[4,5])]
theorem yDf:aT Tryz.prog [] (fun i=>(yIF.lookup i).getD []) Tryz.f61=some Nr.fn:=by kernel_rfl
def yzt:List (Nat×List Nat):=[(1,[0,3,4,5]),(0,[2])]
theorem yoi:aT Tryz.prog [] (fun i=>(yzt.lookup i).getD []) Tryz.f120=some Ns.fn:=by kernel_rfl
def yIG:List (Nat×List Nat):=[(28,[2,8,9,10,14,15,16,17,18,113,120,121,122,123,124,125,126,127,128,129,130,131,132,133,134]),(27,[119]),(26,[116,117,118]),(25,[113,114,115]),(24,[102,103,104,105,106,107,108,109,110,111,112,120]),(23,[97,98,99,100,101]),(22,[94,95,96]),(21,[11,13,16,78,85,86,87,88,89,90,91,92,93]),(20,[84]),(19,[81,82,83]),(18,[78,79,80]),(17,[67,68,69,70,71,72,73,74,75,76,77,85]),(16,[62,63,64,65,66]),(15,[59,60,61]),(14,[12,57,58]),(13,[55,56]),(12,[1,52,53,54]),(11,[0,44,45,46,47,48,49,50,51]),(10,[42,43]),(9,[40,41]),(8,[37,38,39]),(7,[27,34,35,36]),(6,[0,1,2,27,28,29,30,31,32,33]),(5,[24,26]),(4,[24,25]),(3,[20,22,23]),(2,[20,21]),(1,[19]),(0,[6,7])]
theorem yDg:aT Tryz.prog [] (fun i=>(yIG.lookup i).getD []) Tryz.f102=some Nt.fn:=by kernel_rfl
def yIH:List (Nat×List Nat):=[(2,[8,18]),(1,[0,1,2,7,9,10,11,12,13,14,15,16,17]),(0,[6])]
theorem yDh:aT Tryz.prog [] (fun i=>(yIH.lookup i).getD []) Tryz.f101=some Nu.fn:=by kernel_rfl
def yDn:List (Nat×List Nat):=[(5,[1,2,13,20,21,22,23,24]),(4,[1,2,13,14,15,16,17,18,19]),(3,[0,11]),(2,[0,1,2,11,12]),(1,[8,9,10]),(0,[7])]
theorem yuc:aT Tryz.prog [6] (fun i=>(yDn.lookup i).getD []) Tryz.f62=some Nv.fn:=by kernel_rfl
def yGB:List (Nat×List Nat):=[(26,[12,17,20,153,155,156,157,158,159,160]),(25,[12,17,20,153,154]),(24,[19,152]),(23,[2,3,7,16,138,139,140,141,142,143,144,145,146,147,148,149,150,151]),(22,[13,14,18,129,131,132,133,134,135,136,137]),(21,[2,3,7,12,13,14,16,129,130]),(20,[127,128]),(19,[119,121,122,123,124,125,126]),(18,[2,3,7,12,13,14,119,120]),(17,[114,115,116,117,118]),(16,[8,10,15,107,108,109,110,111,112,113]),(15,[9,11,94,101,102,103,104,105,106]),(14,[99,100]),(13,[94,95,96,97,98]),(12,[68,82,83,84,85,86,87,88,89,90,91,92,93]),(11,[8,10,15,75,76,77,78,79,80,81]),(10,[9,11,68,69,70,71,72,73,74]),(9,[62,63,64,65,66,67]),(8,[13,14,15]),(7,[59,60,61]),(6,[47,48,49,50,51,52,53,54,55,56,57,58]),(5,[35,36,37,38,39,40,41,42,43,44,45,46]),(4,[6,25,28,29,30,31,32,33,34]),(3,[2,3,6,25,26,27]),(2,[24]),(1,[21,22,23]),(0,[0,1,5])]
theorem yzf:aT Tryz.prog [2,3,4] (fun i=>(yGB.lookup i).getD []) Tryz.f70=some NI.fn:=by kernel_rfl
def yGC:List (Nat×List Nat):=[(5,[2,3,18,19,20,21,22]),(4,[6,11,14,15,16,17]),(3,[2,3,6,11,12,13]),(2,[10]),(1,[7,8,9]),(0,[0,1,5])]
theorem yzg:aT Tryz.prog [2,3,4] (fun i=>(yGC.lookup i).getD []) Tryz.f67=some NJ.fn:=by kernel_rfl
def yGD:List (Nat×List Nat):=[(10,[2,3,14,16,65,67,68,69,70,71,72,73,74,75,76,77,78,79,80,81,82]),(9,[2,3,14,16,65,66]),(8,[13,15,62,63,64]),(7,[8,10,11,12,52,53,54,55,56,57,58,59,60,61]),(6,[7,9,42,43,44,45,46,47,48,49,50,51]),(5,[36,37,38,39,40,41]),(4,[6,21,24,25,26,27,28,29,30,31,32,33,34,35]),(3,[2,3,6,21,22,23]),(2,[20]),(1,[17,18,19]),(0,[0,1,5])]
theorem yzh:aT Tryz.prog [2,3,4] (fun i=>(yGD.lookup i).getD []) Tryz.f33=some NK.fn:=by kernel_rfl
def yGE:List (Nat×List Nat):=[(8,[2,3,19,34,35,36,37,38,39,40,41,42]),(7,[2,3,19,23,24,25,26,27,28,29,30,31,32,33]),(6,[14,20,21,22]),(5,[2,3,14,18]),(4,[6,11,15,16,17]),(3,[2,3,6,11,12,13]),(2,[10]),(1,[7,8,9]),(0,[0,1,5])]
theorem yzi:aT Tryz.prog [2,3,4] (fun i=>(yGE.lookup i).getD []) Tryz.f68=some NL.fn:=by kernel_rfl
def yB5:List (Nat×List Nat):=[(10,[7,9,132,133,134]),(9,[6,126,127,128,129,130,131]),(8,[0,109,110,111,112,113,114,115,116,117,118,119,120,121,122,123,124,125]),(7,[103,104,105,106,107,108]),(6,[93,94,95,96,97,98,99,100,101,102]),(5,[3,5,10,86,87,88,89,90,91,92]),(4,[59,60,61,62,63,64,65,66,67,68,69,70,71,72,73,74,75,76,77,78,79,80,81,82,83,84,85]),(3,[53,54,55,56,57,58]),(2,[8,35,36,37,38,39,40,41,42,43,44,45,46,47,48,49,50,51,52]),(1,[11,12,13,14,15,16,17,18,19,20,21,22,23,24,25,26,27,28,29,30,31,32,33,34]),(0,[1])]
theorem yqW:aT Tryz.prog [3,4,5,6,7,9] (fun i=>(yB5.lookup i).getD []) Tryz.f52=some NM.fn:=by kernel_rfl
def yAS:List (Nat×List Nat):=[(3,[7,24]),(2,[2,5,8,17,18,19,20,21,22,23]),(1,[1,6,9,10,11,12,13,14,15,16]),(0,[0])]
theorem ypF:aT Tryz.prog [2,4,5,7] (fun i=>(yAS.lookup i).getD []) Tryz.f53=some NN.fn:=by kernel_rfl
def yDo:List (Nat×List Nat):=[(7,[5,39,67]),(6,[5,7,45,46,47,48,49,50,51,52,53,54,55,56,57,58,59,60,61,62,63,64,65,66]),(5,[39,40,41,42,43,44]),(4,[37,38]),(3,[6,15,16,17,18,19,20,21,22,23,24,25,26,27,28,29,30,31,32,33,34,35,36]),(2,[11,12,13,14])]
theorem yud:aT Tryz.prog [] (fun i=>(yDo.lookup i).getD []) Tryz.f54=some DO.fn:=by kernel_rfl
def yAT:List (Nat×List Nat):=[(1,[0,3,4,5]),(0,[2])]
theorem ypG:aT Tryz.prog [] (fun i=>(yAT.lookup i).getD []) Tryz.f121=some NO.fn:=by kernel_rfl
def yzj:List (Nat×List Nat):=[(13,[19]),(12,[19]),(11,[0,1,16,17,18]),(10,[0,1,16]),(9,[13,14,15]),(8,[0,1,13]),(7,[6,11]),(6,[12]),(5,[12]),(4,[0,1,6,11]),(3,[5]),(2,[9,10]),(1,[7,8]),(0,[4])]
theorem ymI:aT Tryz.prog [] (fun i=>(yzj.lookup i).getD []) Tryz.f105=some NP.fn:=by kernel_rfl
def yzu:List (Nat×List Nat):=[(1,[0,3,4,5]),(0,[2])]
theorem yoj:aT Tryz.prog [] (fun i=>(yzu.lookup i).getD []) Tryz.f122=some NQ.fn:=by kernel_rfl
def yxw:List (Nat×List Nat):=[(13,[19]),(12,[19]),(11,[0,1,16,17,18]),(10,[0,1,16]),(9,[13,14,15]),(8,[0,1,13]),(7,[6,11]),(6,[12]),(5,[12]),(4,[0,1,6,11]),(3,[5]),(2,[9,10]),(1,[7,8]),(0,[4])]
theorem ylV:aT Tryz.prog [] (fun i=>(yxw.lookup i).getD []) Tryz.f107=some NR.fn:=by kernel_rfl
def yFk:List (Nat×List Nat):=[(8,[3,6,7,8,9,17]),(7,[5,14,16]),(6,[3,5,6,7,8,14,15]),(5,[12,13]),(4,[9,10,11]),(2,[0]),(0,[2])]
theorem yxk:aT Tryz.prog [] (fun i=>(yFk.lookup i).getD []) Tryz.f106=some NS.fn:=by kernel_rfl
def yGF:List (Nat×List Nat):=[(11,[11,60,63]),(10,[60,61,62]),(9,[2,58,59]),(8,[7,8,9,10,50,51,52,53,54,55,56,57]),(7,[3,40,41,42,43,44,45,46,47,48,49]),(6,[24,30,31,32,33,34,35,36,37,38,39]),(5,[2,3,24,25,26,27,28,29]),(4,[6,16,18,19,20,21,22,23]),(3,[2,3,6,16,17]),(2,[15]),(1,[12,13,14]),(0,[0,1,4,5])]
theorem yzk:aT Tryz.prog [56,2,3] (fun i=>(yGF.lookup i).getD []) Tryz.f77=some NT.fn:=by kernel_rfl
def yFl:List (Nat×List Nat):=[(2,[5,13,14]),(1,[2,3,6,7,8,9,10,11,12]),(0,[0,1,4])]
theorem yxl:aT Tryz.prog [2,3] (fun i=>(yFl.lookup i).getD []) Tryz.f40=some NU.fn:=by kernel_rfl
def yDp:List (Nat×List Nat):=[(2,[2,3,7,8]),(1,[5,6]),(0,[0,1])]
theorem yue:aT Tryz.prog [3,1000003] (fun i=>(yDp.lookup i).getD []) Tryz.f55=some DP.fn:=by kernel_rfl
def yDq:List (Nat×List Nat):=[(2,[1,3,8,9,10,11,12]),(1,[2,4,6,7]),(0,[0])]
theorem yuf:aT Tryz.prog [11,4,1000004] (fun i=>(yDq.lookup i).getD []) Tryz.f56=some DQ.fn:=by kernel_rfl
def yFm:List (Nat×List Nat):=[(35,[147]),(34,[21,142,143,144,145,146]),(33,[139,140,141]),(31,[19]),(30,[17,18,133,134,135]),(29,[131]),(28,[0,5,11,17,18,131,132]),(27,[16,129,130]),(26,[126,127,128]),(25,[13,125]),(24,[124]),(23,[12,101,102,103,104,115,116,117,118,119,120,121,122,123]),(22,[114]),(21,[110,111,112,113]),(20,[15,107,108,109]),(19,[104,105,106]),(16,[98,99,100]),(15,[95,96,97,136,137,138,139]),(14,[22,23,24,25,92,93,94]),(13,[91]),(12,[8,39,40,41,42,87,88,89,90]),(11,[86]),(10,[73,74,75,76,77,78,79,80,81,82,83,84,85]),(9,[9,10,46,47,48,49,50,51,52,53,54,55,56,57,58,59,60,61,62,63,64,65,66,67,68,69,70,71,72]),(8,[42,43,44,45]),(6,[35,36,37,38]),(5,[7,28,29,30,31,32,33,34]),(4,[25,26,27]),(2,[1]),(999999,[1])]
theorem yxm:aT Tryz.prog [82,89,112,2000031,2000032,2000095,2000096,4,12,16,1000004,1000005,1000034,1000011,1000012,1000013,1000016,1000017,1000019] (fun i=>(yFm.lookup i).getD []) Tryz.f29=some GG.fn:=by kernel_rfl
def yFn:List (Nat×List Nat):=[(4,[0,1,6,11,14,15,16]),(3,[0,1,6,11,12,13]),(2,[10]),(1,[7,8,9]),(0,[5])]
theorem yxn:aT Tryz.prog [4] (fun i=>(yFn.lookup i).getD []) Tryz.f9=some NY.fn:=by kernel_rfl
def yFo:List (Nat×List Nat):=[(10,[1,5,14,15,16,17,38]),(9,[37]),(8,[6,7,21,22,23,24,25,26,27,28,29,30,31,32,33,34,35,36]),(7,[17,18,19,20]),(5,[13]),(4,[4,11]),(3,[1,4,11,12]),(2,[10]),(1,[8,9]),(0,[0,2,3])]
theorem yxo:aT Tryz.prog [1] (fun i=>(yFo.lookup i).getD []) Tryz.f32=some NZ.fn:=by kernel_rfl
def yFp:List (Nat×List Nat):=[(1,[0,3,4])]
theorem yxp:aT Tryz.prog [2] (fun i=>(yFp.lookup i).getD []) Tryz.f69=some Oa.fn:=by kernel_rfl
def yGG:List (Nat×List Nat):=[(2,[5,13,14]),(1,[2,3,6,7,8,9,10,11,12]),(0,[0,1,4])]
theorem yzl:aT Tryz.prog [2,3] (fun i=>(yGG.lookup i).getD []) Tryz.f66=some Ob.fn:=by kernel_rfl
def yFq:List (Nat×List Nat):=[(1,[2,3,5,6,7,8,9,10,11,12,13,14,15,16,17,18,19,20]),(0,[0,1,4])]
theorem yxq:aT Tryz.prog [2,3] (fun i=>(yFq.lookup i).getD []) Tryz.f63=some Oc.fn:=by kernel_rfl
def yFc:List (Nat×List Nat):=[(12,[5,6,7,14,15,41,48]),(11,[6,7,14,41,42,43,44,45,46,47]),(10,[40]),(9,[3,4,9,20,33,34,35,36,37,38,39]),(8,[5,13,29,31,32]),(7,[5,29,30]),(6,[28]),(5,[4,12,27]),(4,[3,6,7,9,20,21,22,23,24,25,26]),(3,[17,18,19]),(2,[3,4,5,6,7,9,17]),(1,[16]),(0,[0,1,2,8,11])]
theorem yu5:aT Tryz.prog [7,8,9,12,14] (fun i=>(yFc.lookup i).getD []) Tryz.f65=some JL.fn:=by kernel_rfl
def yGH:List (Nat×List Nat):=[(18,[2,3,4,14,15,16,17]),(17,[8,9,31,61]),(16,[9,59,60]),(15,[2,3,4,9,14,15,16,59]),(14,[8,10,12,34,52,54,55,56,57,58]),(13,[2,3,4,8,9,10,12,14,15,16,52,53]),(12,[51]),(11,[11,42,44,45,46,47,48,49,50]),(10,[2,3,4,8,9,10,11,12,14,15,16,42,43]),(9,[41]),(8,[34,35,36,37,38,39,40]),(7,[33]),(6,[31,32]),(5,[28,29,30]),(4,[7,21,22,23,24,25,26,27]),(3,[17,18,19,20]),(1,[13]),(0,[0,1,6])]
theorem yzm:aT Tryz.prog [3,4,9,10,11] (fun i=>(yGH.lookup i).getD []) Tryz.f64=some Od.fn:=by kernel_rfl
def yGI:List (Nat×List Nat):=[(15,[9,10,45,48]),(14,[9,10,45,46,47]),(13,[11,42,44]),(12,[11,42,43]),(11,[41]),(10,[3,4,5,37,38,39,40]),(8,[35]),(7,[3,4,5,35,36]),(6,[31,33,34]),(5,[3,4,5,31,32]),(4,[8,15,18,19,20,21,22,23,24,25,26,27,28,29,30]),(3,[3,4,5,8,15,16,17]),(2,[14]),(1,[12,13]),(0,[0,1,2,7])]
theorem yzn:aT Tryz.prog [3,4,6] (fun i=>(yGI.lookup i).getD []) Tryz.f34=some Oe.fn:=by kernel_rfl
def yFr:List (Nat×List Nat):=[(19,[0,5,9,10,32,33,34,35,73]),(18,[72]),(17,[16,66,68,69,70,71]),(16,[0,5,9,10,16,32,33,34,66,67]),(15,[12,15,54,65]),(14,[12,15,54,55,56,57,58,59,60,61,62,63,64]),(13,[53]),(12,[13,46,47,48,49,50,51,52]),(11,[14,38,39,40,41,42,43,44,45]),(10,[35,36,37]),(8,[1]),(6,[30,31]),(5,[0,1,5,30]),(4,[8,21,23,24,25,26,27,28,29]),(3,[0,1,5,8,21,22]),(2,[20]),(1,[17,18,19]),(0,[2,6,7])]
theorem yxr:aT Tryz.prog [70,5,9,15] (fun i=>(yFr.lookup i).getD []) Tryz.f10=some Of.fn:=by kernel_rfl
def yzv:List (Nat×List Nat):=[(9,[0,3,14,15,16]),(8,[35,36]),(7,[0,3,14,15,35]),(6,[6,18,19,20,21,22,23,24,25,26,27,28,29,30,31,32,33,34]),(5,[16,17]),(3,[1,2,10]),(2,[0,1,2,3,10,11,12,13]),(1,[7,8,9]),(0,[5])]
theorem yok:aT Tryz.prog [31] (fun i=>(yzv.lookup i).getD []) Tryz.f76=some VO.fn:=by kernel_rfl
def yB6:List (Nat×List Nat):=[(3,[3,5,6]),(2,[1,2,4]),(0,[0])]
theorem yqX:aT Tryz.prog [1000002,1000003] (fun i=>(yB6.lookup i).getD []) Tryz.f75=some VQ.fn:=by kernel_rfl
def yDr:List (Nat×List Nat):=[(1,[1,3]),(0,[0,2])]
theorem yug:aT Tryz.prog [1000001] (fun i=>(yDr.lookup i).getD []) Tryz.f39=some VS.fn:=by kernel_rfl
def yFs:List (Nat×List Nat):=[(9,[1,16,30,31]),(8,[2,3,6,7,27,28,29]),(7,[21,22,23,24,25,26]),(6,[1,18,19,20]),(5,[4,16,17]),(4,[5,11,14,15]),(3,[1,5,11,12,13]),(2,[10]),(1,[8,9]),(0,[0])]
theorem yxs:aT Tryz.prog [1000001,1000002,1000003,1000007] (fun i=>(yFs.lookup i).getD []) Tryz.f13=some VT.fn:=by kernel_rfl
def yIK:List (Nat×List Nat):=[(1,[0,3,4])]
theorem yFd:aT Tryz.prog [2] (fun i=>(yIK.lookup i).getD []) Tryz.f37=some Og.fn:=by kernel_rfl
def yIL:List (Nat×List Nat):=[(1,[0,3,4])]
theorem yFe:aT Tryz.prog [2] (fun i=>(yIL.lookup i).getD []) Tryz.f12=some Oh.fn:=by kernel_rfl
def yDs:List (Nat×List Nat):=[(8,[0,1,5,14]),(5,[15,16,25]),(7,[0,1,5,25]),(6,[14,17,18,19,20,21,22,23,24]),(4,[11,12,13]),(3,[10]),(2,[0,1,10]),(1,[6,7,8,9]),(0,[4])]
theorem yuh:aT Tryz.prog [] (fun i=>(yDs.lookup i).getD []) Tryz.f26=some Oi.fn:=by kernel_rfl
def yHa:List (Nat×List Nat):=[(8,[0,1,5,14]),(5,[15,16,25]),(7,[0,1,5,25]),(6,[14,17,18,19,20,21,22,23,24]),(4,[11,12,13]),(3,[10]),(2,[0,1,10]),(1,[6,7,8,9]),(0,[4])]
theorem yAU:aT Tryz.prog [] (fun i=>(yHa.lookup i).getD []) Tryz.f27=some Oj.fn:=by kernel_rfl
def yGJ:List (Nat×List Nat):=[(8,[1,2,3,4,5,6,7,8,9,10,11,13,14,57,58,59,60,61,62,63,64,65,66,67,68,69,70,71,72,73,74,75,76,77,78,79,80,81,82,83,84,85,86,87,88,89,90,91,92,93,94,95,96,97,98,99,100,101,102,103,104,105,106,107,108]),(7,[54,55,56]),(6,[12,47,48,49,50,51,52,53]),(5,[41,42,43,44,45,46]),(4,[34,35,36,37,38,39,40]),(3,[28,29,30,31,32,33]),(2,[21,22,23,24,25,26,27]),(1,[15,16,17,18,19,20]),(0,[0])]
theorem yzo:aT Tryz.prog [17,23,30,36,49,102,1,5,10] (fun i=>(yGJ.lookup i).getD []) Tryz.f8=some Ok.fn:=by kernel_rfl
def yGK:List (Nat×List Nat):=[(5,[5,7,9,10,11,35,36,37,38,39,40,41,42,43,44,45,46,47,48,49]),(4,[6,26,27,28,29,30,31,32,33,34]),(3,[8,20,21,22,23,24,25]),(2,[1,16,17,18,19]),(1,[0,12,13,14,15])]
theorem yzp:aT Tryz.prog [4] (fun i=>(yGK.lookup i).getD []) Tryz.f35=some Ol.fn:=by kernel_rfl
def yHb:List (Nat×List Nat):=[(1,[2,3,5,6,7,8,9,10,11,12,13,14,15,16,17,18,19,20,21,22,23]),(0,[0,1,4])]
theorem yAV:aT Tryz.prog [2,3] (fun i=>(yHb.lookup i).getD []) Tryz.f36=some Om.fn:=by kernel_rfl
def yHc:List (Nat×List Nat):=[(6,[5,6,33,37,38,39]),(5,[5,6,33,34,35,36]),(4,[2,31,32]),(3,[3,13,17,18,19,20,21,22,23,24,25,26,27,28,29,30]),(2,[2,3,13,14,15,16]),(1,[7,8,9,10,11,12]),(0,[0,1,4])]
theorem yAW:aT Tryz.prog [2,3,5,6] (fun i=>(yHc.lookup i).getD []) Tryz.f11=some Oo.fn:=by kernel_rfl
def yzq:List (Nat×List Nat):=[(11,[0,1,9,10,56,62,63,64,65,66,67,68,69,70,71,72,73,74,75,76,77,78,79,80,81,82,83,84,85,86,87]),(10,[0,1,9,10,56,57,58,59,60,61]),(9,[5,7,52,54,55]),(8,[0,1,5,7,9,10,52,53]),(7,[46,47,48,49,50,51]),(6,[38,39,40,41,42,43,44,45]),(5,[0,1,5,7,38]),(4,[8,32,33,34,35,36,37]),(3,[24,26,27,28,29,30,31]),(2,[0,1,5,24,25]),(1,[11,12,13,14,15,16,17,18,19,20,21,22,23]),(0,[2,6])]
theorem ymJ:aT Tryz.prog [5,7] (fun i=>(yzq.lookup i).getD []) Tryz.f3=some Oq.fn:=by kernel_rfl
theorem yI6:AB Tryz.prog tab:=by unfold tab;simp only [AB];exact ⟨⟨Tryz.f90,_,_,Tryz.func90,yz⟩,⟨Tryz.f47,_,_,Tryz.func47,zb⟩,⟨Tryz.f21,_,_,Tryz.func21,zd⟩,⟨Tryz.f116,_,_,Tryz.func116,zf⟩,⟨Tryz.f91,_,_,Tryz.func91,zh⟩,⟨Tryz.f92,_,_,Tryz.func92,zj⟩,⟨Tryz.f48,_,_,Tryz.func48,zl⟩,⟨Tryz.f49,_,_,Tryz.func49,zn⟩,⟨Tryz.f22,_,_,Tryz.func22,zp⟩,⟨Tryz.f6,_,_,Tryz.func6,zr⟩,⟨Tryz.f24,_,_,Tryz.func24,zu⟩,⟨Tryz.f23,_,_,Tryz.func23,zw⟩,⟨Tryz.f7,_,_,Tryz.func7,zy⟩,⟨Tryz.f25,_,_,Tryz.func25,yC6⟩,⟨Tryz.f96,_,_,Tryz.func96,yrW⟩,⟨Tryz.f97,_,_,Tryz.func97,yrX⟩,⟨Tryz.f59,_,_,Tryz.func59,yxh⟩,⟨Tryz.f71,_,_,Tryz.func71,yzd⟩,⟨Tryz.f103,_,_,Tryz.func103,yfI⟩,⟨Tryz.f72,_,_,Tryz.func72,yeS⟩,⟨Tryz.f104,_,_,Tryz.func104,ypE⟩,⟨Tryz.f74,_,_,Tryz.func74,ylT⟩,⟨Tryz.f73,_,_,Tryz.func73,yrY⟩,⟨Tryz.f38,_,_,Tryz.func38,yu1⟩,⟨Tryz.f95,_,_,Tryz.func95,ylU⟩,⟨Tryz.f51,_,_,Tryz.func51,yof⟩,⟨Tryz.f117,_,_,Tryz.func117,ykF⟩,⟨Tryz.f93,_,_,Tryz.func93,yrZ⟩,⟨Tryz.f140,_,_,Tryz.func140,yDb⟩,⟨Tryz.f141,_,_,Tryz.func141,yDc⟩,⟨Tryz.f119,_,_,Tryz.func119,yGz⟩,⟨Tryz.f156,_,_,Tryz.func156,yr0⟩,⟨Tryz.f137,_,_,Tryz.func137,yua⟩,⟨Tryz.f131,_,_,Tryz.func131,yfa⟩,⟨Tryz.f118,_,_,Tryz.func118,ygT⟩,⟨Tryz.f94,_,_,Tryz.func94,yqV⟩,⟨Tryz.f50,_,_,Tryz.func50,yub⟩,⟨Tryz.f28,_,_,Tryz.func28,yr2⟩,⟨Tryz.f31,_,_,Tryz.func31,yu2⟩,⟨Tryz.f57,_,_,Tryz.func57,yxj⟩,⟨Tryz.f58,_,_,Tryz.func58,yze⟩,⟨Tryz.f30,_,_,Tryz.func30,yu3⟩,⟨Tryz.f98,_,_,Tryz.func98,yoh⟩,⟨Tryz.f60,_,_,Tryz.func60,yu4⟩,⟨Tryz.f61,_,_,Tryz.func61,yDf⟩,⟨Tryz.f120,_,_,Tryz.func120,yoi⟩,⟨Tryz.f102,_,_,Tryz.func102,yDg⟩,⟨Tryz.f101,_,_,Tryz.func101,yDh⟩,⟨Tryz.f62,_,_,Tryz.func62,yuc⟩,⟨Tryz.f70,_,_,Tryz.func70,yzf⟩,⟨Tryz.f67,_,_,Tryz.func67,yzg⟩,⟨Tryz.f33,_,_,Tryz.func33,yzh⟩,⟨Tryz.f68,_,_,Tryz.func68,yzi⟩,⟨Tryz.f52,_,_,Tryz.func52,yqW⟩,⟨Tryz.f53,_,_,Tryz.func53,ypF⟩,⟨Tryz.f54,_,_,Tryz.func54,yud⟩,⟨Tryz.f121,_,_,Tryz.func121,ypG⟩,⟨Tryz.f105,_,_,Tryz.func105,ymI⟩,⟨Tryz.f122,_,_,Tryz.func122,yoj⟩,⟨Tryz.f107,_,_,Tryz.func107,ylV⟩,⟨Tryz.f106,_,_,Tryz.func106,yxk⟩,⟨Tryz.f77,_,_,Tryz.func77,yzk⟩,⟨Tryz.f40,_,_,Tryz.func40,yxl⟩,⟨Tryz.f55,_,_,Tryz.func55,yue⟩,⟨Tryz.f56,_,_,Tryz.func56,yuf⟩,⟨Tryz.f29,_,_,Tryz.func29,yxm⟩,⟨Tryz.f9,_,_,Tryz.func9,yxn⟩,⟨Tryz.f32,_,_,Tryz.func32,yxo⟩,⟨Tryz.f69,_,_,Tryz.func69,yxp⟩,⟨Tryz.f66,_,_,Tryz.func66,yzl⟩,⟨Tryz.f63,_,_,Tryz.func63,yxq⟩,⟨Tryz.f65,_,_,Tryz.func65,yu5⟩,⟨Tryz.f64,_,_,Tryz.func64,yzm⟩,⟨Tryz.f34,_,_,Tryz.func34,yzn⟩,⟨Tryz.f10,_,_,Tryz.func10,yxr⟩,⟨Tryz.f76,_,_,Tryz.func76,yok⟩,⟨Tryz.f75,_,_,Tryz.func75,yqX⟩,⟨Tryz.f39,_,_,Tryz.func39,yug⟩,⟨Tryz.f13,_,_,Tryz.func13,yxs⟩,⟨Tryz.f37,_,_,Tryz.func37,yFd⟩,⟨Tryz.f12,_,_,Tryz.func12,yFe⟩,⟨Tryz.f26,_,_,Tryz.func26,yuh⟩,⟨Tryz.f27,_,_,Tryz.func27,yAU⟩,⟨Tryz.f8,_,_,Tryz.func8,yzo⟩,⟨Tryz.f35,_,_,Tryz.func35,yzp⟩,⟨Tryz.f36,_,_,Tryz.func36,yAV⟩,⟨Tryz.f11,_,_,Tryz.func11,yAW⟩,⟨Tryz.f3,_,_,Tryz.func3,ymJ⟩,trivial⟩
theorem hm:Tryz.prog.follows .mixedOrders=true:=by kernel_rfl
theorem yI7:IsExtern Tryz.prog vM add64Entry:=⟨_,Tryz.func99,by kernel_rfl,by kernel_rfl,by kernel_rfl,by kernel_rfl⟩
theorem yI8:IsExtern Tryz.prog vN Fx:=⟨_,Tryz.func100,by kernel_rfl,by kernel_rfl,by kernel_rfl,by kernel_rfl⟩
theorem dnE:AD Bv=[]:=by kernel_rfl
theorem k0C:EO Tryz.prog Z3:=by
 refine U2 hm yI7 yI8 yI6 (fun n hn=>by rw [dnE] at hn;cases hn) ?_;intro n e b h
 cases h
theorem kN:EO Tryz.prog (E []):=V1 k0C fun e h=>by cases h
end Go.Proofs.YtfljciocndelnaaGreat.Eg
