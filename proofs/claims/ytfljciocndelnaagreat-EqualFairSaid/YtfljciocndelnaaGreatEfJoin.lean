/- Part 8. -/
import Derived.Test.YtfljciocndelnaaGreatRows

import Derived.Test.YtfljciocndelnaaGreatEfW7
import Derived.WalkKit
import Derived.ProofKit
import Derived.OpenShut
import Derived.ReadAgain
import Derived.ChangeBears




import Derived.Shelf.SlSortCmp.WholeK
import Derived.Test.YtfljciocndelnaaGreatShelf
namespace Go.Proofs.YtfljciocndelnaaGreat.Ef
open Go Go.Pf Go.Pf.Vc Go.ChangeShapes Go.WideShapes Go.ChangeAt Go.RowKit Go.Shelf Go.Sort Go.Lib Go.Proofs
set_option maxRecDepth 100000
def yF6:List (Nat×List Nat):=[(4,[14,15]),(3,[4,11,12,13]),(2,[8,9,10]),(0,[1])]
theorem yq3:kE Tryz.prog [] (fun i=>(yF6.lookup i).getD []) Tryz.f95=some O5.fn:=by kernel_rfl
def yHO:List (Nat×List Nat):=[(1,[1,3]),(0,[0,2])]
theorem yuF:kE Tryz.prog [] (fun i=>(yHO.lookup i).getD []) Tryz.f51=some Rs.fn:=by kernel_rfl
def yF2:List (Nat×List Nat):=[(4,[2,6,12]),(3,[2,5,8,9,10,11]),(2,[4,6,7]),(1,[1]),(0,[0])]
theorem ypt:kE Tryz.prog [10,1000002] (fun i=>(yF2.lookup i).getD []) Tryz.f117=some O6.fn:=by kernel_rfl
def yLJ:List (Nat×List Nat):=[(1,[0,3,4]),(0,[2])]
theorem yzN:kE Tryz.prog [] (fun i=>(yLJ.lookup i).getD []) Tryz.f93=some O7.fn:=by kernel_rfl
def yuG:List (Nat×List Nat):=[(2,[7,13,14,30]),(5,[31,32]),(6,[30,33,34,35,36,37,38,39,40,41,42,43,44,45,46,47,48]),(4,[16,17,18,19,20,21,22,23,24,25,26,27,28,29]),(3,[12,15]),(1,[10,11]),(0,[8,9])]
theorem yhM:kE Tryz.prog [] (fun i=>(yuG.lookup i).getD []) Tryz.f131=some P4.fn:=by kernel_rfl
def yzO:List (Nat×List Nat):=[(30,[14,133]),(29,[2,127,128,129,130,131,132]),(28,[16,17,18,113,124,125,126]),(27,[14,122,123]),(26,[1,117,118,119,120,121]),(25,[16,17,18,113,114,115,116]),(24,[111,112]),(23,[10,109,110]),(22,[103,104,105,106,107,108]),(21,[15,102]),(20,[8,9,11,87,94,95,96,97,98,99,100,101]),(19,[13,93]),(18,[1,10,11,87,88,89,90,91,92]),(17,[68,72,73,74,75,76,77,78,79,80,81,82,83,84,85,86]),(16,[68,69,70,71]),(15,[12,50,61,62,63,64,65,66,67]),(13,[55,56,57,58,59,60]),(12,[12,50,51,52,53,54]),(11,[49]),(10,[35,42,43,44,45,46,47,48]),(9,[40,41]),(8,[35,36,37,38,39]),(7,[29,34]),(6,[0,1,2,3,8,9,10,29,30,31,32,33]),(5,[23,28]),(4,[0,1,2,3,8,9,10,23,24,25,26,27]),(3,[22]),(2,[19,20,21])]
theorem yj8:kE Tryz.prog [] (fun i=>(yzO.lookup i).getD []) Tryz.f118=some S3.fn:=by kernel_rfl
def yKC:List (Nat×List Nat):=[(1,[0,2,5,6,7,8,9,10]),(0,[3,4])]
theorem yym:kE Tryz.prog [] (fun i=>(yKC.lookup i).getD []) Tryz.f94=some S4.fn:=by kernel_rfl
def yLO:List (Nat×List Nat):=[(3,[3,8]),(2,[6,7]),(1,[0,4,5]),(0,[2])]
theorem yCk:kE Tryz.prog [] (fun i=>(yLO.lookup i).getD []) Tryz.f50=some S5.fn:=by kernel_rfl
def yLK:List (Nat×List Nat):=[(13,[32]),(12,[32]),(11,[0,1,17,18,19,20,28,29,30,31]),(10,[26,27]),(9,[0,1,17,18,19,26]),(8,[7,8,24,25]),(7,[20,21,22,23]),(5,[6]),(4,[5,12,14,15,16]),(3,[0,1,5,12,13]),(2,[11]),(1,[9,10]),(0,[4])]
theorem yzP:kE Tryz.prog [] (fun i=>(yLK.lookup i).getD []) Tryz.f28=some Jf.fn:=by kernel_rfl
def yLP:List (Nat×List Nat):=[(7,[5,39,67]),(6,[5,7,45,46,47,48,49,50,51,52,53,54,55,56,57,58,59,60,61,62,63,64,65,66]),(5,[39,40,41,42,43,44]),(4,[37,38]),(3,[6,15,16,17,18,19,20,21,22,23,24,25,26,27,28,29,30,31,32,33,34,35,36]),(2,[11,12,13,14])]
theorem yCl:kE Tryz.prog [] (fun i=>(yLP.lookup i).getD []) Tryz.f54=some FN.fn:=by kernel_rfl
def yLQ:List (Nat×List Nat):=[(2,[2,3,7,8]),(1,[5,6]),(0,[0,1])]
theorem yCm:kE Tryz.prog [3,1000003] (fun i=>(yLQ.lookup i).getD []) Tryz.f55=some FO.fn:=by kernel_rfl
def yLR:List (Nat×List Nat):=[(2,[1,3,8,9,10,11,12]),(1,[2,4,6,7]),(0,[0])]
theorem yCn:kE Tryz.prog [11,4,1000004] (fun i=>(yLR.lookup i).getD []) Tryz.f56=some FQ.fn:=by kernel_rfl
def yOi:List (Nat×List Nat):=[(35,[147]),(34,[21,142,143,144,145,146]),(33,[139,140,141]),(31,[19]),(30,[17,18,133,134,135]),(29,[131]),(28,[0,5,11,17,18,131,132]),(27,[16,129,130]),(26,[126,127,128]),(25,[13,125]),(24,[124]),(23,[12,101,102,103,104,115,116,117,118,119,120,121,122,123]),(22,[114]),(21,[110,111,112,113]),(20,[15,107,108,109]),(19,[104,105,106]),(16,[98,99,100]),(15,[95,96,97,136,137,138,139]),(14,[22,23,24,25,92,93,94]),(13,[91]),(12,[8,39,40,41,42,87,88,89,90]),(11,[86]),(10,[73,74,75,76,77,78,79,80,81,82,83,84,85]),(9,[9,10,46,47,48,49,50,51,52,53,54,55,56,57,58,59,60,61,62,63,64,65,66,67,68,69,70,71,72]),(8,[42,43,44,45]),(6,[35,36,37,38]),(5,[7,28,29,30,31,32,33,34]),(4,[25,26,27]),(2,[1]),(999999,[1])]
theorem yF3:kE Tryz.prog [82,89,112,2000031,2000032,2000095,2000096,4,12,16,1000004,1000005,1000034,1000011,1000012,1000013,1000016,1000017,1000019] (fun i=>(yOi.lookup i).getD []) Tryz.f29=some Jl.fn:=by kernel_rfl
def yHP:List (Nat×List Nat):=[(9,[0,3,14,15,16]),(8,[35,36]),(7,[0,3,14,15,35]),(6,[6,18,19,20,21,22,23,24,25,26,27,28,29,30,31,32,33,34]),(5,[16,17]),(3,[1,2,10]),(2,[0,1,2,3,10,11,12,13]),(1,[7,8,9]),(0,[5])]
theorem yuH:kE Tryz.prog [31] (fun i=>(yHP.lookup i).getD []) Tryz.f76=some W0.fn:=by kernel_rfl
def yKD:List (Nat×List Nat):=[(3,[3,5,6]),(2,[1,2,4]),(0,[0])]
theorem yyn:kE Tryz.prog [1000002,1000003] (fun i=>(yKD.lookup i).getD []) Tryz.f75=some W5.fn:=by kernel_rfl
def yLS:List (Nat×List Nat):=[(1,[1,3]),(0,[0,2])]
theorem yCo:kE Tryz.prog [1000001] (fun i=>(yLS.lookup i).getD []) Tryz.f39=some W6.fn:=by kernel_rfl
def yOj:List (Nat×List Nat):=[(9,[1,16,30,31]),(8,[2,3,6,7,27,28,29]),(7,[21,22,23,24,25,26]),(6,[1,18,19,20]),(5,[4,16,17]),(4,[5,11,14,15]),(3,[1,5,11,12,13]),(2,[10]),(1,[8,9]),(0,[0])]
theorem yF4:kE Tryz.prog [1000001,1000002,1000003,1000007] (fun i=>(yOj.lookup i).getD []) Tryz.f13=some W7.fn:=by kernel_rfl
theorem ySp:CA Tryz.prog tab:=by unfold tab;simp only [CA];exact ⟨⟨Tryz.f90,_,_,Tryz.func90,bA (by kernel_rfl)⟩,⟨Tryz.f47,_,_,Tryz.func47,bA (by kernel_rfl)⟩,⟨Tryz.f21,_,_,Tryz.func21,bA (by kernel_rfl)⟩,⟨Tryz.f116,_,_,Tryz.func116,bA (by kernel_rfl)⟩,⟨Tryz.f91,_,_,Tryz.func91,bA (by kernel_rfl)⟩,⟨Tryz.f92,_,_,Tryz.func92,bA (by kernel_rfl)⟩,⟨Tryz.f48,_,_,Tryz.func48,bA (by kernel_rfl)⟩,⟨Tryz.f49,_,_,Tryz.func49,bA (by kernel_rfl)⟩,⟨Tryz.f22,_,_,Tryz.func22,bA (by kernel_rfl)⟩,⟨Tryz.f6,_,_,Tryz.func6,bA (by kernel_rfl)⟩,⟨Tryz.f25,_,_,Tryz.func25,bA (by kernel_rfl)⟩,⟨Tryz.f96,_,_,Tryz.func96,bA (by kernel_rfl)⟩,⟨Tryz.f97,_,_,Tryz.func97,bA (by kernel_rfl)⟩,⟨Tryz.f59,_,_,Tryz.func59,bA (by kernel_rfl)⟩,⟨Tryz.f71,_,_,Tryz.func71,bA (by kernel_rfl)⟩,⟨Tryz.f103,_,_,Tryz.func103,bA (by kernel_rfl)⟩,⟨Tryz.f72,_,_,Tryz.func72,bA (by kernel_rfl)⟩,⟨Tryz.f104,_,_,Tryz.func104,bA (by kernel_rfl)⟩,⟨Tryz.f74,_,_,Tryz.func74,bA (by kernel_rfl)⟩,⟨Tryz.f73,_,_,Tryz.func73,bA (by kernel_rfl)⟩,⟨Tryz.f38,_,_,Tryz.func38,bA (by kernel_rfl)⟩,⟨Tryz.f95,_,_,Tryz.func95,yq3⟩,⟨Tryz.f51,_,_,Tryz.func51,yuF⟩,⟨Tryz.f117,_,_,Tryz.func117,ypt⟩,⟨Tryz.f93,_,_,Tryz.func93,yzN⟩,⟨Tryz.f140,_,_,Tryz.func140,bA (by kernel_rfl)⟩,⟨Tryz.f141,_,_,Tryz.func141,bA (by kernel_rfl)⟩,⟨Tryz.f119,_,_,Tryz.func119,bA (by kernel_rfl)⟩,⟨Tryz.f156,_,_,Tryz.func156,bA (by kernel_rfl)⟩,⟨Tryz.f137,_,_,Tryz.func137,bA (by kernel_rfl)⟩,⟨Tryz.f131,_,_,Tryz.func131,yhM⟩,⟨Tryz.f118,_,_,Tryz.func118,yj8⟩,⟨Tryz.f94,_,_,Tryz.func94,yym⟩,⟨Tryz.f50,_,_,Tryz.func50,yCk⟩,⟨Tryz.f28,_,_,Tryz.func28,yzP⟩,⟨Tryz.f31,_,_,Tryz.func31,bA (by kernel_rfl)⟩,⟨Tryz.f57,_,_,Tryz.func57,bA (by kernel_rfl)⟩,⟨Tryz.f58,_,_,Tryz.func58,bA (by kernel_rfl)⟩,⟨Tryz.f30,_,_,Tryz.func30,bA (by kernel_rfl)⟩,⟨Tryz.f98,_,_,Tryz.func98,bA (by kernel_rfl)⟩,⟨Tryz.f60,_,_,Tryz.func60,bA (by kernel_rfl)⟩,⟨Tryz.f61,_,_,Tryz.func61,bA (by kernel_rfl)⟩,⟨Tryz.f120,_,_,Tryz.func120,bA (by kernel_rfl)⟩,⟨Tryz.f102,_,_,Tryz.func102,bA (by kernel_rfl)⟩,⟨Tryz.f101,_,_,Tryz.func101,bA (by kernel_rfl)⟩,⟨Tryz.f62,_,_,Tryz.func62,bA (by kernel_rfl)⟩,⟨Tryz.f70,_,_,Tryz.func70,bA (by kernel_rfl)⟩,⟨Tryz.f67,_,_,Tryz.func67,bA (by kernel_rfl)⟩,⟨Tryz.f33,_,_,Tryz.func33,bA (by kernel_rfl)⟩,⟨Tryz.f68,_,_,Tryz.func68,bA (by kernel_rfl)⟩,⟨Tryz.f52,_,_,Tryz.func52,bA (by kernel_rfl)⟩,⟨Tryz.f53,_,_,Tryz.func53,bA (by kernel_rfl)⟩,⟨Tryz.f54,_,_,Tryz.func54,yCl⟩,⟨Tryz.f121,_,_,Tryz.func121,bA (by kernel_rfl)⟩,⟨Tryz.f105,_,_,Tryz.func105,bA (by kernel_rfl)⟩,⟨Tryz.f122,_,_,Tryz.func122,bA (by kernel_rfl)⟩,⟨Tryz.f107,_,_,Tryz.func107,bA (by kernel_rfl)⟩,⟨Tryz.f106,_,_,Tryz.func106,bA (by kernel_rfl)⟩,⟨Tryz.f77,_,_,Tryz.func77,bA (by kernel_rfl)⟩,⟨Tryz.f40,_,_,Tryz.func40,bA (by kernel_rfl)⟩,⟨Tryz.f55,_,_,Tryz.func55,yCm⟩,⟨Tryz.f56,_,_,Tryz.func56,yCn⟩,⟨Tryz.f29,_,_,Tryz.func29,yF3⟩,⟨Tryz.f9,_,_,Tryz.func9,bA (by kernel_rfl)⟩,⟨Tryz.f32,_,_,Tryz.func32,bA (by kernel_rfl)⟩,⟨Tryz.f69,_,_,Tryz.func69,bA (by kernel_rfl)⟩,⟨Tryz.f66,_,_,Tryz.func66,bA (by kernel_rfl)⟩,⟨Tryz.f63,_,_,Tryz.func63,bA (by kernel_rfl)⟩,⟨Tryz.f65,_,_,Tryz.func65,bA (by kernel_rfl)⟩,⟨Tryz.f64,_,_,Tryz.func64,bA (by kernel_rfl)⟩,⟨Tryz.f34,_,_,Tryz.func34,bA (by kernel_rfl)⟩,⟨Tryz.f10,_,_,Tryz.func10,bA (by kernel_rfl)⟩,⟨Tryz.f76,_,_,Tryz.func76,yuH⟩,⟨Tryz.f75,_,_,Tryz.func75,yyn⟩,⟨Tryz.f39,_,_,Tryz.func39,yCo⟩,⟨Tryz.f13,_,_,Tryz.func13,yF4⟩,⟨Tryz.f37,_,_,Tryz.func37,bA (by kernel_rfl)⟩,⟨Tryz.f12,_,_,Tryz.func12,bA (by kernel_rfl)⟩,⟨Tryz.f26,_,_,Tryz.func26,bA (by kernel_rfl)⟩,⟨Tryz.f27,_,_,Tryz.func27,bA (by kernel_rfl)⟩,⟨Tryz.f8,_,_,Tryz.func8,bA (by kernel_rfl)⟩,⟨Tryz.f16,_,_,Tryz.func16,bA (by kernel_rfl)⟩,⟨Tryz.f157,_,_,Tryz.func157,bA (by kernel_rfl)⟩,⟨Tryz.f142,_,_,Tryz.func142,bA (by kernel_rfl)⟩,⟨Tryz.f124,_,_,Tryz.func124,bA (by kernel_rfl)⟩,⟨Tryz.f123,_,_,Tryz.func123,bA (by kernel_rfl)⟩,⟨Tryz.f79,_,_,Tryz.func79,bA (by kernel_rfl)⟩,⟨Tryz.f86,_,_,Tryz.func86,bA (by kernel_rfl)⟩,⟨Tryz.f108,_,_,Tryz.func108,bA (by kernel_rfl)⟩,⟨Tryz.f127,_,_,Tryz.func127,bA (by kernel_rfl)⟩,⟨Tryz.f126,_,_,Tryz.func126,bA (by kernel_rfl)⟩,⟨Tryz.f125,_,_,Tryz.func125,bA (by kernel_rfl)⟩,⟨Tryz.f109,_,_,Tryz.func109,bA (by kernel_rfl)⟩,⟨Tryz.f78,_,_,Tryz.func78,bA (by kernel_rfl)⟩,⟨Tryz.f41,_,_,Tryz.func41,bA (by kernel_rfl)⟩,⟨Tryz.f42,_,_,Tryz.func42,bA (by kernel_rfl)⟩,⟨Tryz.f112,_,_,Tryz.func112,bA (by kernel_rfl)⟩,⟨Tryz.f128,_,_,Tryz.func128,bA (by kernel_rfl)⟩,⟨Tryz.f110,_,_,Tryz.func110,bA (by kernel_rfl)⟩,⟨Tryz.f111,_,_,Tryz.func111,bA (by kernel_rfl)⟩,⟨Tryz.f82,_,_,Tryz.func82,bA (by kernel_rfl)⟩,⟨Tryz.f81,_,_,Tryz.func81,bA (by kernel_rfl)⟩,⟨Tryz.f80,_,_,Tryz.func80,bA (by kernel_rfl)⟩,⟨Tryz.f129,_,_,Tryz.func129,bA (by kernel_rfl)⟩,⟨Tryz.f113,_,_,Tryz.func113,bA (by kernel_rfl)⟩,⟨Tryz.f143,_,_,Tryz.func143,bA (by kernel_rfl)⟩,⟨Tryz.f130,_,_,Tryz.func130,bA (by kernel_rfl)⟩,⟨Tryz.f114,_,_,Tryz.func114,bA (by kernel_rfl)⟩,⟨Tryz.f115,_,_,Tryz.func115,bA (by kernel_rfl)⟩,⟨Tryz.f83,_,_,Tryz.func83,bA (by kernel_rfl)⟩,⟨Tryz.f85,_,_,Tryz.func85,bA (by kernel_rfl)⟩,⟨Tryz.f84,_,_,Tryz.func84,bA (by kernel_rfl)⟩,⟨Tryz.f87,_,_,Tryz.func87,bA (by kernel_rfl)⟩,⟨Tryz.f88,_,_,Tryz.func88,bA (by kernel_rfl)⟩,⟨Tryz.f89,_,_,Tryz.func89,bA (by kernel_rfl)⟩,⟨Tryz.f43,_,_,Tryz.func43,bA (by kernel_rfl)⟩,⟨Tryz.f17,_,_,Tryz.func17,bA (by kernel_rfl)⟩,⟨Tryz.f44,_,_,Tryz.func44,bA (by kernel_rfl)⟩,⟨Tryz.f45,_,_,Tryz.func45,bA (by kernel_rfl)⟩,⟨Tryz.f18,_,_,Tryz.func18,bA (by kernel_rfl)⟩,⟨Tryz.f20,_,_,Tryz.func20,bA (by kernel_rfl)⟩,⟨Tryz.f24,_,_,Tryz.func24,bA (by kernel_rfl)⟩,⟨Tryz.f23,_,_,Tryz.func23,bA (by kernel_rfl)⟩,⟨Tryz.f7,_,_,Tryz.func7,bA (by kernel_rfl)⟩,⟨Tryz.f14,_,_,Tryz.func14,bA (by kernel_rfl)⟩,⟨Tryz.f35,_,_,Tryz.func35,bA (by kernel_rfl)⟩,⟨Tryz.f46,_,_,Tryz.func46,bA (by kernel_rfl)⟩,⟨Tryz.f19,_,_,Tryz.func19,bA (by kernel_rfl)⟩,⟨Tryz.f5,_,_,Tryz.func5,bA (by kernel_rfl)⟩,trivial⟩
theorem hm:Tryz.prog.follows .mixedOrders=true:=by kernel_rfl
theorem ySq:IsExtern Tryz.prog CQ add64Entry:=⟨_,Tryz.func99,by kernel_rfl,by kernel_rfl,by kernel_rfl,by kernel_rfl⟩
theorem ySr:IsExtern Tryz.prog CR Ig:=⟨_,Tryz.func100,by kernel_rfl,by kernel_rfl,by kernel_rfl,by kernel_rfl⟩
theorem dnE:CB Db=[]:=by kernel_rfl
theorem YQ:EO Tryz.prog E0C:=by
 refine yMu hm ySq ySr ySp (fun n hn=>by rw [dnE] at hn;cases hn) ?_;intro n e b h
 cases h
theorem kN:EO Tryz.prog (E []):=K6 YQ fun e h=>by cases h
theorem yq4:SortsAt Tryz.prog nW.s nW.cf nW.srt where
 size:=fun d=>(pdq_sorts _ (Xq _ _) d 0 d.size (Go.Lib.bitLen d.size) true true (iL _) (bX _) (Or.inl rfl)).1.1
 pos:=by decide
 enters:=enters_of Tryz.func115 (by kernel_rfl) rfl
 entersN:=enters_of Tryz.func114 (by kernel_rfl) rfl
 law:=fun blk off cap d w hc hH hb hs=>AnyQ.slices_SortFunc_eq Tryz.sortSp 4 Tryz.isAgg61 Tryz.sizeOf61 nW.s.enc (fun x=>Srt.enc_len x) (fun x=>Srt.enc_one x) nW.cf (Xq _ _) 115 #[] blk off cap d w (enters_of Tryz.func115 (by kernel_rfl) rfl) hc hH hb hs
theorem kS:EO Tryz.prog (E cC):=by
 refine K6 YQ ?_;intro e h;simp only [cC,qAn,wJ,or_false] at h;rcases h with rfl;exact fun y0=>yLI nW.s yq4 (fun x y=>by
  have h:=yNw [] fI x.2 y.2;exact J6 kN hm (dC (by kernel_rfl) _) (by kernel_rfl) (Ans.solo h)) (Qe (YQ.ats (y:=y0) (iL _)) hm 60) (fun H=>by kernel_rfl) (fun H=>by kernel_rfl)
end Go.Proofs.YtfljciocndelnaaGreat.Ef
