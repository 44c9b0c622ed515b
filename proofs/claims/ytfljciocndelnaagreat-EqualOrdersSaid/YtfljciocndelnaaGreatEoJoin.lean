/- Part 6. -/
import Derived.Test.YtfljciocndelnaaGreatRows

import Derived.Test.YtfljciocndelnaaGreatEoW5
import Derived.WalkKit
import Derived.ProofKit
import Derived.OpenShut
import Derived.ReadAgain
import Derived.ChangeBears






namespace Go.Proofs.YtfljciocndelnaaGreat.Eo
open Go Go.Pf Go.Pf.Vc Go.ChangeShapes Go.WideShapes Go.ChangeAt Go.RowKit
set_option maxRecDepth 100000
def yJp:List (Nat×List Nat):=[(1,[1,3,4,5,6,7,8,9,10,11,12]),(0,[0,2])]
theorem yAl:bA Tryz.prog [1] (fun i=>(yJp.lookup i).getD []) Tryz.f90=some OV.fn:=by kernel_rfl
def yDJ:List (Nat×List Nat):=[(6,[0,3,7,15,16,17]),(3,[8,9,14]),(5,[0,3,14]),(4,[7,10,11,12,13]),(2,[4,5,6]),(0,[2])]
theorem yrG:bA Tryz.prog [] (fun i=>(yDJ.lookup i).getD []) Tryz.f47=some OW.fn:=by kernel_rfl
def yJq:List (Nat×List Nat):=[(6,[0,3,7,26,27]),(3,[8,9,25]),(5,[0,3,25]),(4,[7,10,11,12,13,14,15,16,17,18,19,20,21,22,23,24]),(2,[4,5,6]),(0,[2])]
theorem yAm:bA Tryz.prog [] (fun i=>(yJq.lookup i).getD []) Tryz.f21=some OX.fn:=by kernel_rfl
def yJr:List (Nat×List Nat):=[(14,[98]),(13,[98]),(12,[1,3,4,57,97]),(8,[58,59]),(11,[87,88,89,90,91,92,93,94,95,96]),(10,[1,3,4,87]),(9,[57,60,61,62,63,64,65,66,67,68,69,70,71,72,73,74,75,76,77,78,79,80,81,82,83,84,85,86]),(7,[53,54,55,56]),(5,[52]),(4,[1,52]),(3,[13,14,15,16,17,18,19,20,21,22,23,24,25,26,27,28,29,30,31,32,33,34,35,36,37,38,39,40,41,42,43,44,45,46,47,48,49,50,51]),(2,[1,13]),(1,[5,6,7,8,9,10,11,12]),(0,[0,2])]
theorem yAn:bA Tryz.prog [1] (fun i=>(yJr.lookup i).getD []) Tryz.f116=some OY.fn:=by kernel_rfl
def yJs:List (Nat×List Nat):=[(15,[1,4,43]),(12,[44,45,57]),(14,[1,4,57]),(13,[43,46,47,48,49,50,51,52,53,54,55,56]),(11,[39,40,41,42]),(10,[3,23]),(7,[24,25,32]),(9,[1,3,32,33,34,35,36,37,38]),(8,[23,26,27,28,29,30,31]),(6,[19,20,21,22]),(5,[18]),(4,[1,18]),(3,[14,15,16,17]),(2,[1,14]),(1,[5,6,7,8,9,10,11,12,13]),(0,[0,2])]
theorem yAo:bA Tryz.prog [1] (fun i=>(yJs.lookup i).getD []) Tryz.f91=some OZ.fn:=by kernel_rfl
def yG7:List (Nat×List Nat):=[(6,[1,3,8]),(3,[9,10,16]),(5,[1,3,16]),(4,[8,11,12,13,14,15]),(2,[4,5,6,7]),(0,[0,2])]
theorem yyl:bA Tryz.prog [1] (fun i=>(yG7.lookup i).getD []) Tryz.f92=some Pa.fn:=by kernel_rfl
def yJt:List (Nat×List Nat):=[(11,[0,4,17]),(8,[18,19,25]),(10,[0,4,25]),(9,[17,20,21,22,23,24]),(7,[14,15,16]),(6,[13]),(5,[0,13]),(4,[3,9,11,12]),(3,[0,3,9,10]),(2,[8]),(1,[5,6,7]),(0,[2])]
theorem yAp:bA Tryz.prog [] (fun i=>(yJt.lookup i).getD []) Tryz.f48=some Pb.fn:=by kernel_rfl
def yJu:List (Nat×List Nat):=[(10,[0,1,5,6,15]),(6,[16,17]),(9,[39,40,41,42,43,44,45]),(8,[0,1,5,6,39]),(7,[15,18,19,20,21,22,23,24,25,26,27,28,29,30,31,32,33,34,35,36,37,38]),(5,[13,14]),(3,[10,11,12]),(2,[0,1,10]),(1,[7,8,9]),(0,[4])]
theorem yAq:bA Tryz.prog [] (fun i=>(yJu.lookup i).getD []) Tryz.f49=some Pc.fn:=by kernel_rfl
def yJ1:List (Nat×List Nat):=[(5,[14]),(4,[14]),(3,[0,1,7,10,11,12,13]),(2,[0,1,7,8,9]),(1,[5,6]),(0,[4])]
theorem yCl:bA Tryz.prog [] (fun i=>(yJ1.lookup i).getD []) Tryz.f22=some Pd.fn:=by kernel_rfl
def yML:List (Nat×List Nat):=[(1,[0,1,5,6,7,8,9,10,11,12,13,14,15,16,17,18]),(0,[4])]
theorem yEI:bA Tryz.prog [] (fun i=>(yML.lookup i).getD []) Tryz.f6=some Pe.fn:=by kernel_rfl
def yMM:List (Nat×List Nat):=[(1,[1,2,3,4,5,6,7]),(0,[0])]
theorem yEJ:bA Tryz.prog [1,2,4,5] (fun i=>(yMM.lookup i).getD []) Tryz.f25=some Pg.fn:=by kernel_rfl
def yEK:List (Nat×List Nat):=[(8,[0,3,4,15,24]),(6,[16,17]),(7,[15,18,19,20,21,22,23]),(5,[12,13,14]),(3,[7,9,10,11]),(2,[7,8]),(1,[5,6]),(0,[2])]
theorem ysJ:bA Tryz.prog [] (fun i=>(yEK.lookup i).getD []) Tryz.f96=some Ph.fn:=by kernel_rfl
def yEL:List (Nat×List Nat):=[(8,[0,3,4,15,24]),(6,[16,17]),(7,[15,18,19,20,21,22,23]),(5,[12,13,14]),(3,[7,9,10,11]),(2,[7,8]),(1,[5,6]),(0,[2])]
theorem ysK:bA Tryz.prog [] (fun i=>(yEL.lookup i).getD []) Tryz.f97=some Pi.fn:=by kernel_rfl
def yG8:List (Nat×List Nat):=[(14,[81]),(13,[81]),(12,[1,49,50,51,66,67,68,69,70,71,72,73,74,75,76,77,78,79,80]),(11,[64,65]),(10,[1,49,50,64]),(9,[4,53,54,55,56,57,58,59,60,61,62,63]),(8,[51,52]),(6,[3,47,48]),(5,[1,3,47]),(4,[14,15,16,17,18,19,20,21,22,23,24,25,26,27,28,29,30,31,32,33,34,35,36,37,38,39,40,41,42,43,44,45,46]),(3,[1,3,14]),(2,[8,9,10,11,12,13]),(1,[5,6,7]),(0,[0,2])]
theorem yym:bA Tryz.prog [1] (fun i=>(yG8.lookup i).getD []) Tryz.f59=some Pj.fn:=by kernel_rfl
def yJv:List (Nat×List Nat):=[(18,[1,36,37,38,39]),(17,[49,50]),(16,[1,36,37,38,49]),(15,[7,42,43,44,45,46,47,48]),(14,[39,40,41]),(12,[23,24,25,26,35]),(11,[5,32,34]),(10,[1,5,23,24,25,32,33]),(9,[31]),(8,[4,29,30]),(7,[26,27,28]),(5,[21,22]),(4,[1,21]),(3,[17,18,19,20]),(2,[1,17]),(1,[8,9,10,11,12,13,14,15,16]),(0,[0,2])]
theorem yAr:bA Tryz.prog [1,4,7] (fun i=>(yJv.lookup i).getD []) Tryz.f71=some Pk.fn:=by kernel_rfl
def yqo:List (Nat×List Nat):=[(7,[0,1,7,8,9]),(6,[5,16,18]),(5,[0,1,5,7,8,16,17]),(4,[11,12,13,14,15]),(3,[9,10]),(1,[6]),(0,[4])]
theorem yf2:bA Tryz.prog [] (fun i=>(yqo.lookup i).getD []) Tryz.f103=some Pl.fn:=by kernel_rfl
def yn3:List (Nat×List Nat):=[(1,[0,1,5,6,7,8]),(0,[4])]
theorem yfa:bA Tryz.prog [] (fun i=>(yn3.lookup i).getD []) Tryz.f72=some Ly.fn:=by kernel_rfl
def yCm:List (Nat×List Nat):=[(7,[0,1,7,8,9]),(6,[5,16,18]),(5,[0,1,5,7,8,16,17]),(4,[11,12,13,14,15]),(3,[9,10]),(1,[6]),(0,[4])]
theorem yqp:bA Tryz.prog [] (fun i=>(yCm.lookup i).getD []) Tryz.f104=some Pm.fn:=by kernel_rfl
def yyA:List (Nat×List Nat):=[(1,[0,1,5,6,7,8]),(0,[4])]
theorem ymB:bA Tryz.prog [] (fun i=>(yyA.lookup i).getD []) Tryz.f74=some Pn.fn:=by kernel_rfl
def yEM:List (Nat×List Nat):=[(1,[1,3,4,5]),(0,[0,2])]
theorem ysL:bA Tryz.prog [1] (fun i=>(yEM.lookup i).getD []) Tryz.f73=some Po.fn:=by kernel_rfl
def yGY:List (Nat×List Nat):=[(8,[14]),(7,[14]),(6,[0,12,13]),(5,[0,12]),(4,[3,8,10,11]),(3,[0,3,8,9]),(2,[7]),(1,[4,5,6]),(0,[2])]
theorem yvN:bA Tryz.prog [] (fun i=>(yGY.lookup i).getD []) Tryz.f38=some Pp.fn:=by kernel_rfl
def yyB:List (Nat×List Nat):=[(4,[14,15]),(3,[4,11,12,13]),(2,[8,9,10]),(0,[1])]
theorem ymC:bA Tryz.prog [] (fun i=>(yyB.lookup i).getD []) Tryz.f95=some Zd.fn:=by kernel_rfl
def yAF:List (Nat×List Nat):=[(1,[1,3]),(0,[0,2])]
theorem yoV:bA Tryz.prog [] (fun i=>(yAF.lookup i).getD []) Tryz.f51=some Pq.fn:=by kernel_rfl
def yyn:List (Nat×List Nat):=[(4,[2,6,12]),(3,[2,5,8,9,10,11]),(2,[4,6,7]),(1,[1]),(0,[0])]
theorem ylm:bA Tryz.prog [10,1000002] (fun i=>(yyn.lookup i).getD []) Tryz.f117=some Ze.fn:=by kernel_rfl
def yEN:List (Nat×List Nat):=[(1,[0,3,4]),(0,[2])]
theorem ysM:bA Tryz.prog [] (fun i=>(yEN.lookup i).getD []) Tryz.f93=some Zf.fn:=by kernel_rfl
def yMN:List (Nat×List Nat):=[(7,[0,8,13,14,15,16,17,18]),(6,[11,12]),(5,[8,9,10]),(4,[4,7]),(2,[2,4,5,6]),(1,[3])]
theorem yEO:bA Tryz.prog [] (fun i=>(yMN.lookup i).getD []) Tryz.f140=some Zg.fn:=by kernel_rfl
def yMO:List (Nat×List Nat):=[(10,[0,14,19,20,21,22,23,24]),(9,[17,18]),(8,[14,15,16]),(7,[8,13]),(6,[11,12]),(5,[8,9,10]),(4,[4,7]),(2,[2,4,5,6]),(1,[3])]
theorem yEP:bA Tryz.prog [] (fun i=>(yMO.lookup i).getD []) Tryz.f141=some Pr.fn:=by kernel_rfl
def yNn:List (Nat×List Nat):=[(2,[0,6,7]),(1,[0,3,4,5]),(0,[2])]
theorem yJw:bA Tryz.prog [] (fun i=>(yNn.lookup i).getD []) Tryz.f119=some Zh.fn:=by kernel_rfl
def yEQ:List (Nat×List Nat):=[(1,[0,3,4,5]),(0,[2])]
theorem ysN:bA Tryz.prog [] (fun i=>(yEQ.lookup i).getD []) Tryz.f156=some Zi.fn:=by kernel_rfl
def yE0:List (Nat×List Nat):=[(1,[0,1,5,6,7,8,9,10,11,12,13,14,15,16]),(0,[4])]
theorem yuW:bA Tryz.prog [] (fun i=>(yE0.lookup i).getD []) Tryz.f137=some Zj.fn:=by kernel_rfl
def yoW:List (Nat×List Nat):=[(2,[7,13,14,30]),(5,[31,32]),(6,[30,33,34,35,36,37,38,39,40,41,42,43,44,45,46,47,48]),(4,[16,17,18,19,20,21,22,23,24,25,26,27,28,29]),(3,[12,15]),(1,[10,11]),(0,[8,9])]
theorem yfw:bA Tryz.prog [] (fun i=>(yoW.lookup i).getD []) Tryz.f131=some Zk.fn:=by kernel_rfl
def ysO:List (Nat×List Nat):=[(30,[14,133]),(29,[2,127,128,129,130,131,132]),(28,[16,17,18,113,124,125,126]),(27,[14,122,123]),(26,[1,117,118,119,120,121]),(25,[16,17,18,113,114,115,116]),(24,[111,112]),(23,[10,109,110]),(22,[103,104,105,106,107,108]),(21,[15,102]),(20,[8,9,11,87,94,95,96,97,98,99,100,101]),(19,[13,93]),(18,[1,10,11,87,88,89,90,91,92]),(17,[68,72,73,74,75,76,77,78,79,80,81,82,83,84,85,86]),(16,[68,69,70,71]),(15,[12,50,61,62,63,64,65,66,67]),(13,[55,56,57,58,59,60]),(12,[12,50,51,52,53,54]),(11,[49]),(10,[35,42,43,44,45,46,47,48]),(9,[40,41]),(8,[35,36,37,38,39]),(7,[29,34]),(6,[0,1,2,3,8,9,10,29,30,31,32,33]),(5,[23,28]),(4,[0,1,2,3,8,9,10,23,24,25,26,27]),(3,[22]),(2,[19,20,21])]
theorem yhm:bA Tryz.prog [] (fun i=>(ysO.lookup i).getD []) Tryz.f118=some Zl.fn:=by kernel_rfl
def yDK:List (Nat×List Nat):=[(1,[0,2,5,6,7,8,9,10]),(0,[3,4])]
theorem yrH:bA Tryz.prog [] (fun i=>(yDK.lookup i).getD []) Tryz.f94=some Zm.fn:=by kernel_rfl
def yE1:List (Nat×List Nat):=[(3,[3,8]),(2,[6,7]),(1,[0,4,5]),(0,[2])]
theorem yuX:bA Tryz.prog [] (fun i=>(yE1.lookup i).getD []) Tryz.f50=some Zn.fn:=by kernel_rfl
def yER:List (Nat×List Nat):=[(13,[32]),(12,[32]),(11,[0,1,17,18,19,20,28,29,30,31]),(10,[26,27]),(9,[0,1,17,18,19,26]),(8,[7,8,24,25]),(7,[20,21,22,23]),(5,[6]),(4,[5,12,14,15,16]),(3,[0,1,5,12,13]),(2,[11]),(1,[9,10]),(0,[4])]
theorem ysP:bA Tryz.prog [] (fun i=>(yER.lookup i).getD []) Tryz.f28=some IA.fn:=by kernel_rfl
def yGZ:List (Nat×List Nat):=[(1,[0,3,4])]
theorem yvO:bA Tryz.prog [2] (fun i=>(yGZ.lookup i).getD []) Tryz.f31=some Pt.fn:=by kernel_rfl
def yG9:List (Nat×List Nat):=[(3,[0,4,8,9]),(2,[0,4,5,6,7]),(1,[3]),(0,[2])]
theorem yyo:bA Tryz.prog [] (fun i=>(yG9.lookup i).getD []) Tryz.f57=some Pu.fn:=by kernel_rfl
def yJx:List (Nat×List Nat):=[(3,[0,1,6,11]),(2,[6,7,8,9,10]),(1,[5]),(0,[4])]
theorem yAs:bA Tryz.prog [] (fun i=>(yJx.lookup i).getD []) Tryz.f58=some Pv.fn:=by kernel_rfl
def yG0:List (Nat×List Nat):=[(3,[25]),(2,[25]),(1,[1,3,4,5,6,7,8,9,10,11,12,13,14,15,16,17,18,19,20,21,22,23,24]),(0,[0,2])]
theorem yvP:bA Tryz.prog [1] (fun i=>(yG0.lookup i).getD []) Tryz.f30=some Pw.fn:=by kernel_rfl
def yAG:List (Nat×List Nat):=[(8,[3,6,7,8,9,17]),(7,[5,14,16]),(6,[3,5,6,7,8,14,15]),(5,[12,13]),(4,[9,10,11]),(2,[0]),(0,[2])]
theorem yoX:bA Tryz.prog [] (fun i=>(yAG.lookup i).getD []) Tryz.f98=some Px.fn:=by kernel_rfl
def yG1:List (Nat×List Nat):=[(1,[2,3,5,6,7,8,9,10]),(0,[0,1,4])]
theorem yvQ:bA Tryz.prog [9,2,3] (fun i=>(yG1.lookup i).getD []) Tryz.f60=some Py.fn:=by kernel_rfl
def yMP:List (Nat×List Nat):=[(11,[0,1,48,49,50]),(10,[7,9,12,13,40,41,42,43,44,45,46,47]),(9,[6,35,36,37,38,39]),(8,[11,33,34]),(7,[31,32]),(6,[8,10,25,26,27,28,29,30]),(5,[22,23,24]),(4,[20,21]),(3,[18,19]),(2,[16,17]),(1,[14,15]),(0,[4,5])]
theorem yES:bA Tryz.prog [] (fun i=>(yMP.lookup i).getD []) Tryz.f61=some Pz.fn:=by kernel_rfl
def yAH:List (Nat×List Nat):=[(1,[0,3,4,5]),(0,[2])]
theorem yoY:bA Tryz.prog [] (fun i=>(yAH.lookup i).getD []) Tryz.f120=some PA.fn:=by kernel_rfl
def yMQ:List (Nat×List Nat):=[(28,[2,8,9,10,14,15,16,17,18,113,120,121,122,123,124,125,126,127,128,129,130,131,132,133,134]),(27,[119]),(26,[116,117,118]),(25,[113,114,115]),(24,[102,103,104,105,106,107,108,109,110,111,112,120]),(23,[97,98,99,100,101]),(22,[94,95,96]),(21,[11,13,16,78,85,86,87,88,89,90,91,92,93]),(20,[84]),(19,[81,82,83]),(18,[78,79,80]),(17,[67,68,69,70,71,72,73,74,75,76,77,85]),(16,[62,63,64,65,66]),(15,[59,60,61]),(14,[12,57,58]),(13,[55,56]),(12,[1,52,53,54]),(11,[0,44,45,46,47,48,49,50,51]),(10,[42,43]),(9,[40,41]),(8,[37,38,39]),(7,[27,34,35,36]),(6,[0,1,2,27,28,29,30,31,32,33]),(5,[24,26]),(4,[24,25]),(3,[20,22,23]),(2,[20,21]),(1,[19]),(0,[6,7])]
theorem yET:bA Tryz.prog [] (fun i=>(yMQ.lookup i).getD []) Tryz.f102=some PB.fn:=by kernel_rfl
def yMR:List (Nat×List Nat):=[(2,[8,18]),(1,[0,1,2,7,9,10,11,12,13,14,15,16,17]),(0,[6])]
theorem yEU:bA Tryz.prog [] (fun i=>(yMR.lookup i).getD []) Tryz.f101=some PC.fn:=by kernel_rfl
def yE2:List (Nat×List Nat):=[(5,[1,2,13,20,21,22,23,24]),(4,[1,2,13,14,15,16,17,18,19]),(3,[0,11]),(2,[0,1,2,11,12]),(1,[8,9,10]),(0,[7])]
theorem yuY:bA Tryz.prog [6] (fun i=>(yE2.lookup i).getD []) Tryz.f62=some PD.fn:=by kernel_rfl
def yJy:List (Nat×List Nat):=[(26,[12,17,20,153,155,156,157,158,159,160]),(25,[12,17,20,153,154]),(24,[19,152]),(23,[2,3,7,16,138,139,140,141,142,143,144,145,146,147,148,149,150,151]),(22,[13,14,18,129,131,132,133,134,135,136,137]),(21,[2,3,7,12,13,14,16,129,130]),(20,[127,128]),(19,[119,121,122,123,124,125,126]),(18,[2,3,7,12,13,14,119,120]),(17,[114,115,116,117,118]),(16,[8,10,15,107,108,109,110,111,112,113]),(15,[9,11,94,101,102,103,104,105,106]),(14,[99,100]),(13,[94,95,96,97,98]),(12,[68,82,83,84,85,86,87,88,89,90,91,92,93]),(11,[8,10,15,75,76,77,78,79,80,81]),(10,[9,11,68,69,70,71,72,73,74]),(9,[62,63,64,65,66,67]),(8,[13,14,15]),(7,[59,60,61]),(6,[47,48,49,50,51,52,53,54,55,56,57,58]),(5,[35,36,37,38,39,40,41,42,43,44,45,46]),(4,[6,25,28,29,30,31,32,33,34]),(3,[2,3,6,25,26,27]),(2,[24]),(1,[21,22,23]),(0,[0,1,5])]
theorem yAt:bA Tryz.prog [2,3,4] (fun i=>(yJy.lookup i).getD []) Tryz.f70=some PR.fn:=by kernel_rfl
def yJz:List (Nat×List Nat):=[(5,[2,3,18,19,20,21,22]),(4,[6,11,14,15,16,17]),(3,[2,3,6,11,12,13]),(2,[10]),(1,[7,8,9]),(0,[0,1,5])]
theorem yAu:bA Tryz.prog [2,3,4] (fun i=>(yJz.lookup i).getD []) Tryz.f67=some PS.fn:=by kernel_rfl
def yJA:List (Nat×List Nat):=[(10,[2,3,14,16,65,67,68,69,70,71,72,73,74,75,76,77,78,79,80,81,82]),(9,[2,3,14,16,65,66]),(8,[13,15,62,63,64]),(7,[8,10,11,12,52,53,54,55,56,57,58,59,60,61]),(6,[7,9,42,43,44,45,46,47,48,49,50,51]),(5,[36,37,38,39,40,41]),(4,[6,21,24,25,26,27,28,29,30,31,32,33,34,35]),(3,[2,3,6,21,22,23]),(2,[20]),(1,[17,18,19]),(0,[0,1,5])]
theorem yAv:bA Tryz.prog [2,3,4] (fun i=>(yJA.lookup i).getD []) Tryz.f33=some PU.fn:=by kernel_rfl
def yJB:List (Nat×List Nat):=[(8,[2,3,19,34,35,36,37,38,39,40,41,42]),(7,[2,3,19,23,24,25,26,27,28,29,30,31,32,33]),(6,[14,20,21,22]),(5,[2,3,14,18]),(4,[6,11,15,16,17]),(3,[2,3,6,11,12,13]),(2,[10]),(1,[7,8,9]),(0,[0,1,5])]
theorem yAw:bA Tryz.prog [2,3,4] (fun i=>(yJB.lookup i).getD []) Tryz.f68=some PW.fn:=by kernel_rfl
def yDL:List (Nat×List Nat):=[(10,[7,9,132,133,134]),(9,[6,126,127,128,129,130,131]),(8,[0,109,110,111,112,113,114,115,116,117,118,119,120,121,122,123,124,125]),(7,[103,104,105,106,107,108]),(6,[93,94,95,96,97,98,99,100,101,102]),(5,[3,5,10,86,87,88,89,90,91,92]),(4,[59,60,61,62,63,64,65,66,67,68,69,70,71,72,73,74,75,76,77,78,79,80,81,82,83,84,85]),(3,[53,54,55,56,57,58]),(2,[8,35,36,37,38,39,40,41,42,43,44,45,46,47,48,49,50,51,52]),(1,[11,12,13,14,15,16,17,18,19,20,21,22,23,24,25,26,27,28,29,30,31,32,33,34]),(0,[1])]
theorem yrI:bA Tryz.prog [3,4,5,6,7,9] (fun i=>(yDL.lookup i).getD []) Tryz.f52=some PX.fn:=by kernel_rfl
def yCn:List (Nat×List Nat):=[(3,[7,24]),(2,[2,5,8,17,18,19,20,21,22,23]),(1,[1,6,9,10,11,12,13,14,15,16]),(0,[0])]
theorem yqq:bA Tryz.prog [2,4,5,7] (fun i=>(yCn.lookup i).getD []) Tryz.f53=some PY.fn:=by kernel_rfl
def yE3:List (Nat×List Nat):=[(7,[5,39,67]),(6,[5,7,45,46,47,48,49,50,51,52,53,54,55,56,57,58,59,60,61,62,63,64,65,66]),(5,[39,40,41,42,43,44]),(4,[37,38]),(3,[6,15,16,17,18,19,20,21,22,23,24,25,26,27,28,29,30,31,32,33,34,35,36]),(2,[11,12,13,14])]
theorem yuZ:bA Tryz.prog [] (fun i=>(yE3.lookup i).getD []) Tryz.f54=some FJ.fn:=by kernel_rfl
def yCo:List (Nat×List Nat):=[(1,[0,3,4,5]),(0,[2])]
theorem yqr:bA Tryz.prog [] (fun i=>(yCo.lookup i).getD []) Tryz.f121=some PZ.fn:=by kernel_rfl
def yAx:List (Nat×List Nat):=[(13,[19]),(12,[19]),(11,[0,1,16,17,18]),(10,[0,1,16]),(9,[13,14,15]),(8,[0,1,13]),(7,[6,11]),(6,[12]),(5,[12]),(4,[0,1,6,11]),(3,[5]),(2,[9,10]),(1,[7,8]),(0,[4])]
theorem ynk:bA Tryz.prog [] (fun i=>(yAx.lookup i).getD []) Tryz.f105=some Qa.fn:=by kernel_rfl
def yAI:List (Nat×List Nat):=[(1,[0,3,4,5]),(0,[2])]
theorem yoZ:bA Tryz.prog [] (fun i=>(yAI.lookup i).getD []) Tryz.f122=some Qb.fn:=by kernel_rfl
def yyC:List (Nat×List Nat):=[(13,[19]),(12,[19]),(11,[0,1,16,17,18]),(10,[0,1,16]),(9,[13,14,15]),(8,[0,1,13]),(7,[6,11]),(6,[12]),(5,[12]),(4,[0,1,6,11]),(3,[5]),(2,[9,10]),(1,[7,8]),(0,[4])]
theorem ymD:bA Tryz.prog [] (fun i=>(yyC.lookup i).getD []) Tryz.f107=some Qc.fn:=by kernel_rfl
def yHa:List (Nat×List Nat):=[(8,[3,6,7,8,9,17]),(7,[5,14,16]),(6,[3,5,6,7,8,14,15]),(5,[12,13]),(4,[9,10,11]),(2,[0]),(0,[2])]
theorem yyp:bA Tryz.prog [] (fun i=>(yHa.lookup i).getD []) Tryz.f106=some Qd.fn:=by kernel_rfl
def yJC:List (Nat×List Nat):=[(11,[11,60,63]),(10,[60,61,62]),(9,[2,58,59]),(8,[7,8,9,10,50,51,52,53,54,55,56,57]),(7,[3,40,41,42,43,44,45,46,47,48,49]),(6,[24,30,31,32,33,34,35,36,37,38,39]),(5,[2,3,24,25,26,27,28,29]),(4,[6,16,18,19,20,21,22,23]),(3,[2,3,6,16,17]),(2,[15]),(1,[12,13,14]),(0,[0,1,4,5])]
theorem yAy:bA Tryz.prog [56,2,3] (fun i=>(yJC.lookup i).getD []) Tryz.f77=some Qe.fn:=by kernel_rfl
def yHb:List (Nat×List Nat):=[(2,[5,13,14]),(1,[2,3,6,7,8,9,10,11,12]),(0,[0,1,4])]
theorem yyq:bA Tryz.prog [2,3] (fun i=>(yHb.lookup i).getD []) Tryz.f40=some Qf.fn:=by kernel_rfl
def yE4:List (Nat×List Nat):=[(2,[2,3,7,8]),(1,[5,6]),(0,[0,1])]
theorem yu0:bA Tryz.prog [3,1000003] (fun i=>(yE4.lookup i).getD []) Tryz.f55=some FK.fn:=by kernel_rfl
def yE5:List (Nat×List Nat):=[(2,[1,3,8,9,10,11,12]),(1,[2,4,6,7]),(0,[0])]
theorem yu1:bA Tryz.prog [11,4,1000004] (fun i=>(yE5.lookup i).getD []) Tryz.f56=some FM.fn:=by kernel_rfl
def yHc:List (Nat×List Nat):=[(35,[147]),(34,[21,142,143,144,145,146]),(33,[139,140,141]),(31,[19]),(30,[17,18,133,134,135]),(29,[131]),(28,[0,5,11,17,18,131,132]),(27,[16,129,130]),(26,[126,127,128]),(25,[13,125]),(24,[124]),(23,[12,101,102,103,104,115,116,117,118,119,120,121,122,123]),(22,[114]),(21,[110,111,112,113]),(20,[15,107,108,109]),(19,[104,105,106]),(16,[98,99,100]),(15,[95,96,97,136,137,138,139]),(14,[22,23,24,25,92,93,94]),(13,[91]),(12,[8,39,40,41,42,87,88,89,90]),(11,[86]),(10,[73,74,75,76,77,78,79,80,81,82,83,84,85]),(9,[9,10,46,47,48,49,50,51,52,53,54,55,56,57,58,59,60,61,62,63,64,65,66,67,68,69,70,71,72]),(8,[42,43,44,45]),(6,[35,36,37,38]),(5,[7,28,29,30,31,32,33,34]),(4,[25,26,27]),(2,[1]),(999999,[1])]
theorem yyr:bA Tryz.prog [82,89,112,2000031,2000032,2000095,2000096,4,12,16,1000004,1000005,1000034,1000011,1000012,1000013,1000016,1000017,1000019] (fun i=>(yHc.lookup i).getD []) Tryz.f29=some IJ.fn:=by kernel_rfl
def yHd:List (Nat×List Nat):=[(4,[0,1,6,11,14,15,16]),(3,[0,1,6,11,12,13]),(2,[10]),(1,[7,8,9]),(0,[5])]
theorem yys:bA Tryz.prog [4] (fun i=>(yHd.lookup i).getD []) Tryz.f9=some Qj.fn:=by kernel_rfl
def yHe:List (Nat×List Nat):=[(10,[1,5,14,15,16,17,38]),(9,[37]),(8,[6,7,21,22,23,24,25,26,27,28,29,30,31,32,33,34,35,36]),(7,[17,18,19,20]),(5,[13]),(4,[4,11]),(3,[1,4,11,12]),(2,[10]),(1,[8,9]),(0,[0,2,3])]
theorem yyt:bA Tryz.prog [1] (fun i=>(yHe.lookup i).getD []) Tryz.f32=some Qk.fn:=by kernel_rfl
def yHf:List (Nat×List Nat):=[(1,[0,3,4])]
theorem yyu:bA Tryz.prog [2] (fun i=>(yHf.lookup i).getD []) Tryz.f69=some Ql.fn:=by kernel_rfl
def yJD:List (Nat×List Nat):=[(2,[5,13,14]),(1,[2,3,6,7,8,9,10,11,12]),(0,[0,1,4])]
theorem yAz:bA Tryz.prog [2,3] (fun i=>(yJD.lookup i).getD []) Tryz.f66=some Qm.fn:=by kernel_rfl
def yHg:List (Nat×List Nat):=[(1,[2,3,5,6,7,8,9,10,11,12,13,14,15,16,17,18,19,20]),(0,[0,1,4])]
theorem yyv:bA Tryz.prog [2,3] (fun i=>(yHg.lookup i).getD []) Tryz.f63=some Qn.fn:=by kernel_rfl
def yG2:List (Nat×List Nat):=[(12,[5,6,7,14,15,41,48]),(11,[6,7,14,41,42,43,44,45,46,47]),(10,[40]),(9,[3,4,9,20,33,34,35,36,37,38,39]),(8,[5,13,29,31,32]),(7,[5,29,30]),(6,[28]),(5,[4,12,27]),(4,[3,6,7,9,20,21,22,23,24,25,26]),(3,[17,18,19]),(2,[3,4,5,6,7,9,17]),(1,[16]),(0,[0,1,2,8,11])]
theorem yvR:bA Tryz.prog [7,8,9,12,14] (fun i=>(yG2.lookup i).getD []) Tryz.f65=some LK.fn:=by kernel_rfl
def yJE:List (Nat×List Nat):=[(18,[2,3,4,14,15,16,17]),(17,[8,9,31,61]),(16,[9,59,60]),(15,[2,3,4,9,14,15,16,59]),(14,[8,10,12,34,52,54,55,56,57,58]),(13,[2,3,4,8,9,10,12,14,15,16,52,53]),(12,[51]),(11,[11,42,44,45,46,47,48,49,50]),(10,[2,3,4,8,9,10,11,12,14,15,16,42,43]),(9,[41]),(8,[34,35,36,37,38,39,40]),(7,[33]),(6,[31,32]),(5,[28,29,30]),(4,[7,21,22,23,24,25,26,27]),(3,[17,18,19,20]),(1,[13]),(0,[0,1,6])]
theorem yAA:bA Tryz.prog [3,4,9,10,11] (fun i=>(yJE.lookup i).getD []) Tryz.f64=some Qo.fn:=by kernel_rfl
def yJF:List (Nat×List Nat):=[(15,[9,10,45,48]),(14,[9,10,45,46,47]),(13,[11,42,44]),(12,[11,42,43]),(11,[41]),(10,[3,4,5,37,38,39,40]),(8,[35]),(7,[3,4,5,35,36]),(6,[31,33,34]),(5,[3,4,5,31,32]),(4,[8,15,18,19,20,21,22,23,24,25,26,27,28,29,30]),(3,[3,4,5,8,15,16,17]),(2,[14]),(1,[12,13]),(0,[0,1,2,7])]
theorem yAB:bA Tryz.prog [3,4,6] (fun i=>(yJF.lookup i).getD []) Tryz.f34=some Qp.fn:=by kernel_rfl
def yHh:List (Nat×List Nat):=[(19,[0,5,9,10,32,33,34,35,73]),(18,[72]),(17,[16,66,68,69,70,71]),(16,[0,5,9,10,16,32,33,34,66,67]),(15,[12,15,54,65]),(14,[12,15,54,55,56,57,58,59,60,61,62,63,64]),(13,[53]),(12,[13,46,47,48,49,50,51,52]),(11,[14,38,39,40,41,42,43,44,45]),(10,[35,36,37]),(8,[1]),(6,[30,31]),(5,[0,1,5,30]),(4,[8,21,23,24,25,26,27,28,29]),(3,[0,1,5,8,21,22]),(2,[20]),(1,[17,18,19]),(0,[2,6,7])]
theorem yyw:bA Tryz.prog [70,5,9,15] (fun i=>(yHh.lookup i).getD []) Tryz.f10=some Qq.fn:=by kernel_rfl
def yAJ:List (Nat×List Nat):=[(9,[0,3,14,15,16]),(8,[35,36]),(7,[0,3,14,15,35]),(6,[6,18,19,20,21,22,23,24,25,26,27,28,29,30,31,32,33,34]),(5,[16,17]),(3,[1,2,10]),(2,[0,1,2,3,10,11,12,13]),(1,[7,8,9]),(0,[5])]
theorem yo0:bA Tryz.prog [31] (fun i=>(yAJ.lookup i).getD []) Tryz.f76=some Qs.fn:=by kernel_rfl
def yDM:List (Nat×List Nat):=[(3,[3,5,6]),(2,[1,2,4]),(0,[0])]
theorem yrJ:bA Tryz.prog [1000002,1000003] (fun i=>(yDM.lookup i).getD []) Tryz.f75=some FN.fn:=by kernel_rfl
def yE6:List (Nat×List Nat):=[(1,[1,3]),(0,[0,2])]
theorem yu2:bA Tryz.prog [1000001] (fun i=>(yE6.lookup i).getD []) Tryz.f39=some Qt.fn:=by kernel_rfl
def yHi:List (Nat×List Nat):=[(9,[1,16,30,31]),(8,[2,3,6,7,27,28,29]),(7,[21,22,23,24,25,26]),(6,[1,18,19,20]),(5,[4,16,17]),(4,[5,11,14,15]),(3,[1,5,11,12,13]),(2,[10]),(1,[8,9]),(0,[0])]
theorem yyx:bA Tryz.prog [1000001,1000002,1000003,1000007] (fun i=>(yHi.lookup i).getD []) Tryz.f13=some yHP.fn:=by kernel_rfl
def yMW:List (Nat×List Nat):=[(1,[0,3,4])]
theorem yG3:bA Tryz.prog [2] (fun i=>(yMW.lookup i).getD []) Tryz.f37=some Qu.fn:=by kernel_rfl
def yMX:List (Nat×List Nat):=[(1,[0,3,4])]
theorem yG4:bA Tryz.prog [2] (fun i=>(yMX.lookup i).getD []) Tryz.f12=some Qv.fn:=by kernel_rfl
def yE7:List (Nat×List Nat):=[(8,[0,1,5,14]),(5,[15,16,25]),(7,[0,1,5,25]),(6,[14,17,18,19,20,21,22,23,24]),(4,[11,12,13]),(3,[10]),(2,[0,1,10]),(1,[6,7,8,9]),(0,[4])]
theorem yu3:bA Tryz.prog [] (fun i=>(yE7.lookup i).getD []) Tryz.f26=some Qw.fn:=by kernel_rfl
def yJ2:List (Nat×List Nat):=[(8,[0,1,5,14]),(5,[15,16,25]),(7,[0,1,5,25]),(6,[14,17,18,19,20,21,22,23,24]),(4,[11,12,13]),(3,[10]),(2,[0,1,10]),(1,[6,7,8,9]),(0,[4])]
theorem yCp:bA Tryz.prog [] (fun i=>(yJ2.lookup i).getD []) Tryz.f27=some Qy.fn:=by kernel_rfl
def yJG:List (Nat×List Nat):=[(8,[1,2,3,4,5,6,7,8,9,10,11,13,14,57,58,59,60,61,62,63,64,65,66,67,68,69,70,71,72,73,74,75,76,77,78,79,80,81,82,83,84,85,86,87,88,89,90,91,92,93,94,95,96,97,98,99,100,101,102,103,104,105,106,107,108]),(7,[54,55,56]),(6,[12,47,48,49,50,51,52,53]),(5,[41,42,43,44,45,46]),(4,[34,35,36,37,38,39,40]),(3,[28,29,30,31,32,33]),(2,[21,22,23,24,25,26,27]),(1,[15,16,17,18,19,20]),(0,[0])]
theorem yAC:bA Tryz.prog [17,23,30,36,49,102,1,5,10] (fun i=>(yJG.lookup i).getD []) Tryz.f8=some Qz.fn:=by kernel_rfl
def yMS:List (Nat×List Nat):=[(3,[0,4,10,11]),(2,[0,4,5,6,7,8,9]),(1,[3]),(0,[2])]
theorem yEV:bA Tryz.prog [] (fun i=>(yMS.lookup i).getD []) Tryz.f24=some QC.fn:=by kernel_rfl
def yMT:List (Nat×List Nat):=[(3,[0,1,6,11]),(2,[6,7,8,9,10]),(1,[5]),(0,[4])]
theorem yEW:bA Tryz.prog [] (fun i=>(yMT.lookup i).getD []) Tryz.f23=some QD.fn:=by kernel_rfl
def yJH:List (Nat×List Nat):=[(3,[30]),(2,[30]),(1,[1,3,4,5,6,7,8,9,10,11,12,13,14,15,16,17,18,19,20,21,22,23,24,25,26,27,28,29]),(0,[0,2])]
theorem yAD:bA Tryz.prog [1] (fun i=>(yJH.lookup i).getD []) Tryz.f7=some QE.fn:=by kernel_rfl
def yJ3:List (Nat×List Nat):=[(3,[2,3,7,10,11]),(2,[2,3,7,8,9]),(1,[5,6]),(0,[0,1,4])]
theorem yCq:bA Tryz.prog [2,3] (fun i=>(yJ3.lookup i).getD []) Tryz.f14=some QF.fn:=by kernel_rfl
def yJI:List (Nat×List Nat):=[(5,[5,7,9,10,11,35,36,37,38,39,40,41,42,43,44,45,46,47,48,49]),(4,[6,26,27,28,29,30,31,32,33,34]),(3,[8,20,21,22,23,24,25]),(2,[1,16,17,18,19]),(1,[0,12,13,14,15])]
theorem yAE:bA Tryz.prog [4] (fun i=>(yJI.lookup i).getD []) Tryz.f35=some QH.fn:=by kernel_rfl
def yJ4:List (Nat×List Nat):=[(1,[2,3,5,6,7,8,9,10,11,12,13,14,15,16,17,18,19,20,21,22,23]),(0,[0,1,4])]
theorem yCr:bA Tryz.prog [2,3] (fun i=>(yJ4.lookup i).getD []) Tryz.f36=some QI.fn:=by kernel_rfl
def yJ5:List (Nat×List Nat):=[(6,[5,6,33,37,38,39]),(5,[5,6,33,34,35,36]),(4,[2,31,32]),(3,[3,13,17,18,19,20,21,22,23,24,25,26,27,28,29,30]),(2,[2,3,13,14,15,16]),(1,[7,8,9,10,11,12]),(0,[0,1,4])]
theorem yCs:bA Tryz.prog [2,3,5,6] (fun i=>(yJ5.lookup i).getD []) Tryz.f11=some QJ.fn:=by kernel_rfl
def yHj:List (Nat×List Nat):=[(10,[1,3,5,35,48]),(8,[36,37]),(9,[35,38,39,40,41,42,43,44,45,46,47]),(7,[34]),(6,[4,14,30,31,32,33]),(4,[15,16]),(5,[14,17,18,19,20,21,22,23,24,25,26,27,28,29]),(3,[13]),(2,[9,10,11,12]),(1,[6,7,8]),(0,[0])]
theorem yyy:bA Tryz.prog [27,45,1,2,3] (fun i=>(yHj.lookup i).getD []) Tryz.f15=some QK.fn:=by kernel_rfl
def yCt:List (Nat×List Nat):=[(18,[5,15,16,102,103,104,105,106,107,108,109,110,111]),(17,[0,1,12,13,14,74,96,97,98,99,100,101]),(14,[75,76]),(16,[85,86,87,88,89,90,91,92,93,94,95]),(15,[74,77,78,79,80,81,82,83,84]),(13,[71,72,73]),(10,[70]),(9,[0,1,5,70]),(8,[8,10,11,64,65,66,67,68,69]),(7,[7,57,58,59,60,61,62,63]),(6,[0,1,5,7,8,57]),(5,[6,9,34,35,36,37,38,39,40,41,42,43,44,45,46,47,48,49,50,51,52,53,54,55,56]),(4,[28,29,30,31,32,33]),(3,[20,22,23,24,25,26,27]),(2,[0,1,20,21]),(1,[17,18,19]),(0,[4])]
theorem yqs:bA Tryz.prog [83,94,5,8,10,15] (fun i=>(yCt.lookup i).getD []) Tryz.f4=some QL.fn:=by kernel_rfl
theorem yNo:Cd Tryz.prog tab:=by unfold tab;simp only [Cd];exact ⟨⟨Tryz.f90,_,_,Tryz.func90,yAl⟩,⟨Tryz.f47,_,_,Tryz.func47,yrG⟩,⟨Tryz.f21,_,_,Tryz.func21,yAm⟩,⟨Tryz.f116,_,_,Tryz.func116,yAn⟩,⟨Tryz.f91,_,_,Tryz.func91,yAo⟩,⟨Tryz.f92,_,_,Tryz.func92,yyl⟩,⟨Tryz.f48,_,_,Tryz.func48,yAp⟩,⟨Tryz.f49,_,_,Tryz.func49,yAq⟩,⟨Tryz.f22,_,_,Tryz.func22,yCl⟩,⟨Tryz.f6,_,_,Tryz.func6,yEI⟩,⟨Tryz.f25,_,_,Tryz.func25,yEJ⟩,⟨Tryz.f96,_,_,Tryz.func96,ysJ⟩,⟨Tryz.f97,_,_,Tryz.func97,ysK⟩,⟨Tryz.f59,_,_,Tryz.func59,yym⟩,⟨Tryz.f71,_,_,Tryz.func71,yAr⟩,⟨Tryz.f103,_,_,Tryz.func103,yf2⟩,⟨Tryz.f72,_,_,Tryz.func72,yfa⟩,⟨Tryz.f104,_,_,Tryz.func104,yqp⟩,⟨Tryz.f74,_,_,Tryz.func74,ymB⟩,⟨Tryz.f73,_,_,Tryz.func73,ysL⟩,⟨Tryz.f38,_,_,Tryz.func38,yvN⟩,⟨Tryz.f95,_,_,Tryz.func95,ymC⟩,⟨Tryz.f51,_,_,Tryz.func51,yoV⟩,⟨Tryz.f117,_,_,Tryz.func117,ylm⟩,⟨Tryz.f93,_,_,Tryz.func93,ysM⟩,⟨Tryz.f140,_,_,Tryz.func140,yEO⟩,⟨Tryz.f141,_,_,Tryz.func141,yEP⟩,⟨Tryz.f119,_,_,Tryz.func119,yJw⟩,⟨Tryz.f156,_,_,Tryz.func156,ysN⟩,⟨Tryz.f137,_,_,Tryz.func137,yuW⟩,⟨Tryz.f131,_,_,Tryz.func131,yfw⟩,⟨Tryz.f118,_,_,Tryz.func118,yhm⟩,⟨Tryz.f94,_,_,Tryz.func94,yrH⟩,⟨Tryz.f50,_,_,Tryz.func50,yuX⟩,⟨Tryz.f28,_,_,Tryz.func28,ysP⟩,⟨Tryz.f31,_,_,Tryz.func31,yvO⟩,⟨Tryz.f57,_,_,Tryz.func57,yyo⟩,⟨Tryz.f58,_,_,Tryz.func58,yAs⟩,⟨Tryz.f30,_,_,Tryz.func30,yvP⟩,⟨Tryz.f98,_,_,Tryz.func98,yoX⟩,⟨Tryz.f60,_,_,Tryz.func60,yvQ⟩,⟨Tryz.f61,_,_,Tryz.func61,yES⟩,⟨Tryz.f120,_,_,Tryz.func120,yoY⟩,⟨Tryz.f102,_,_,Tryz.func102,yET⟩,⟨Tryz.f101,_,_,Tryz.func101,yEU⟩,⟨Tryz.f62,_,_,Tryz.func62,yuY⟩,⟨Tryz.f70,_,_,Tryz.func70,yAt⟩,⟨Tryz.f67,_,_,Tryz.func67,yAu⟩,⟨Tryz.f33,_,_,Tryz.func33,yAv⟩,⟨Tryz.f68,_,_,Tryz.func68,yAw⟩,⟨Tryz.f52,_,_,Tryz.func52,yrI⟩,⟨Tryz.f53,_,_,Tryz.func53,yqq⟩,⟨Tryz.f54,_,_,Tryz.func54,yuZ⟩,⟨Tryz.f121,_,_,Tryz.func121,yqr⟩,⟨Tryz.f105,_,_,Tryz.func105,ynk⟩,⟨Tryz.f122,_,_,Tryz.func122,yoZ⟩,⟨Tryz.f107,_,_,Tryz.func107,ymD⟩,⟨Tryz.f106,_,_,Tryz.func106,yyp⟩,⟨Tryz.f77,_,_,Tryz.func77,yAy⟩,⟨Tryz.f40,_,_,Tryz.func40,yyq⟩,⟨Tryz.f55,_,_,Tryz.func55,yu0⟩,⟨Tryz.f56,_,_,Tryz.func56,yu1⟩,⟨Tryz.f29,_,_,Tryz.func29,yyr⟩,⟨Tryz.f9,_,_,Tryz.func9,yys⟩,⟨Tryz.f32,_,_,Tryz.func32,yyt⟩,⟨Tryz.f69,_,_,Tryz.func69,yyu⟩,⟨Tryz.f66,_,_,Tryz.func66,yAz⟩,⟨Tryz.f63,_,_,Tryz.func63,yyv⟩,⟨Tryz.f65,_,_,Tryz.func65,yvR⟩,⟨Tryz.f64,_,_,Tryz.func64,yAA⟩,⟨Tryz.f34,_,_,Tryz.func34,yAB⟩,⟨Tryz.f10,_,_,Tryz.func10,yyw⟩,⟨Tryz.f76,_,_,Tryz.func76,yo0⟩,⟨Tryz.f75,_,_,Tryz.func75,yrJ⟩,⟨Tryz.f39,_,_,Tryz.func39,yu2⟩,⟨Tryz.f13,_,_,Tryz.func13,yyx⟩,⟨Tryz.f37,_,_,Tryz.func37,yG3⟩,⟨Tryz.f12,_,_,Tryz.func12,yG4⟩,⟨Tryz.f26,_,_,Tryz.func26,yu3⟩,⟨Tryz.f27,_,_,Tryz.func27,yCp⟩,⟨Tryz.f8,_,_,Tryz.func8,yAC⟩,⟨Tryz.f24,_,_,Tryz.func24,yEV⟩,⟨Tryz.f23,_,_,Tryz.func23,yEW⟩,⟨Tryz.f7,_,_,Tryz.func7,yAD⟩,⟨Tryz.f14,_,_,Tryz.func14,yCq⟩,⟨Tryz.f35,_,_,Tryz.func35,yAE⟩,⟨Tryz.f36,_,_,Tryz.func36,yCr⟩,⟨Tryz.f11,_,_,Tryz.func11,yCs⟩,⟨Tryz.f15,_,_,Tryz.func15,yyy⟩,⟨Tryz.f4,_,_,Tryz.func4,yqs⟩,trivial⟩
theorem hm:Tryz.prog.follows .mixedOrders=true:=by kernel_rfl
theorem yNp:IsExtern Tryz.prog yG add64Entry:=⟨_,Tryz.func99,by kernel_rfl,by kernel_rfl,by kernel_rfl,by kernel_rfl⟩
theorem yNq:IsExtern Tryz.prog yH HE:=⟨_,Tryz.func100,by kernel_rfl,by kernel_rfl,by kernel_rfl,by kernel_rfl⟩
theorem dnE:Ce De=[]:=by kernel_rfl
theorem k0C:EO Tryz.prog mr:=by
 refine ki hm yNp yNq yNo (fun n hn=>by rw [dnE] at hn;cases hn) ?_;intro n e b h
 cases h
theorem kN:EO Tryz.prog (E []):=ky k0C fun e h=>by cases h
end Go.Proofs.YtfljciocndelnaaGreat.Eo
