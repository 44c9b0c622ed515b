/- Part 6. -/
import Derived.Test.YtfclgjlabhkndaaGreatRows

import Derived.Test.YtfclgjlabhkndaaGreatHtW5
import Derived.WalkKit
import Derived.ProofKit
import Derived.OpenShut
import Derived.ReadAgain
import Derived.ChangeBears






namespace Go.Proofs.YtfclgjlabhkndaaGreat.Ht
open Go Go.Pf Go.Pf.Vc Go.ChangeShapes Go.WideShapes Go.ChangeAt Go.RowKit
set_option maxRecDepth 100000
def yqw:List (Nat×List Nat):=[(16,[7,9,54,61,62]),(15,[7,9,54,55,56,57,58,59,60]),(14,[52,53]),(13,[8,35,49,50,51]),(12,[45,46,47,48]),(11,[44]),(10,[7,35,36,37,38,39,40,41,42,43]),(9,[33,34]),(8,[30,31,32]),(7,[28,29]),(6,[7,8,13,23,24,25,26,27]),(5,[20,21,22]),(4,[19]),(3,[7,13,14,15,16,17,18]),(2,[11,12]),(1,[10])]
theorem yfP:ykX Tryz.prog [] (fun i=>(yqw.lookup i).getD []) Tryz.f82=some ycT.fn:=by kernel_rfl
def yu7:List (Nat×List Nat):=[(30,[14,133]),(29,[2,127,128,129,130,131,132]),(28,[16,17,18,113,124,125,126]),(27,[14,122,123]),(26,[1,117,118,119,120,121]),(25,[16,17,18,113,114,115,116]),(24,[111,112]),(23,[10,109,110]),(22,[103,104,105,106,107,108]),(21,[15,102]),(20,[8,9,11,87,94,95,96,97,98,99,100,101]),(19,[13,93]),(18,[1,10,11,87,88,89,90,91,92]),(17,[68,72,73,74,75,76,77,78,79,80,81,82,83,84,85,86]),(16,[68,69,70,71]),(15,[12,50,61,62,63,64,65,66,67]),(13,[55,56,57,58,59,60]),(12,[12,50,51,52,53,54]),(11,[49]),(10,[35,42,43,44,45,46,47,48]),(9,[40,41]),(8,[35,36,37,38,39]),(7,[29,34]),(6,[0,1,2,3,8,9,10,29,30,31,32,33]),(5,[23,28]),(4,[0,1,2,3,8,9,10,23,24,25,26,27]),(3,[22]),(2,[19,20,21])]
theorem yhV:ykX Tryz.prog [] (fun i=>(yu7.lookup i).getD []) Tryz.f83=some yhJ.fn:=by kernel_rfl
theorem yJA:yvZ Tryz.prog tab:=by
 unfold tab
 simp only [yvZ]
 exact ⟨⟨Tryz.f27,_,_,Tryz.func27,yaC (by kernel_rfl)⟩,⟨Tryz.f6,_,_,Tryz.func6,yaC (by kernel_rfl)⟩,⟨Tryz.f13,_,_,Tryz.func13,yaC (by kernel_rfl)⟩,⟨Tryz.f34,_,_,Tryz.func34,yaC (by kernel_rfl)⟩,⟨Tryz.f14,_,_,Tryz.func14,yaC (by kernel_rfl)⟩,⟨Tryz.f35,_,_,Tryz.func35,yaC (by kernel_rfl)⟩,⟨Tryz.f15,_,_,Tryz.func15,yaC (by kernel_rfl)⟩,⟨Tryz.f22,_,_,Tryz.func22,yaC (by kernel_rfl)⟩,⟨Tryz.f36,_,_,Tryz.func36,yaC (by kernel_rfl)⟩,⟨Tryz.f109,_,_,Tryz.func109,yaC (by kernel_rfl)⟩,⟨Tryz.f110,_,_,Tryz.func110,yaC (by kernel_rfl)⟩,⟨Tryz.f69,_,_,Tryz.func69,yaC (by kernel_rfl)⟩,⟨Tryz.f39,_,_,Tryz.func39,yaC (by kernel_rfl)⟩,⟨Tryz.f105,_,_,Tryz.func105,yaC (by kernel_rfl)⟩,⟨Tryz.f66,_,_,Tryz.func66,yaC (by kernel_rfl)⟩,⟨Tryz.f29,_,_,Tryz.func29,yaC (by kernel_rfl)⟩,⟨Tryz.f30,_,_,Tryz.func30,yaC (by kernel_rfl)⟩,⟨Tryz.f73,_,_,Tryz.func73,yaC (by kernel_rfl)⟩,⟨Tryz.f76,_,_,Tryz.func76,yaC (by kernel_rfl)⟩,⟨Tryz.f112,_,_,Tryz.func112,yaC (by kernel_rfl)⟩,⟨Tryz.f111,_,_,Tryz.func111,yaC (by kernel_rfl)⟩,⟨Tryz.f70,_,_,Tryz.func70,yaC (by kernel_rfl)⟩,⟨Tryz.f113,_,_,Tryz.func113,yaC (by kernel_rfl)⟩,⟨Tryz.f71,_,_,Tryz.func71,yaC (by kernel_rfl)⟩,⟨Tryz.f72,_,_,Tryz.func72,yaC (by kernel_rfl)⟩,⟨Tryz.f114,_,_,Tryz.func114,yaC (by kernel_rfl)⟩,⟨Tryz.f75,_,_,Tryz.func75,yaC (by kernel_rfl)⟩,⟨Tryz.f74,_,_,Tryz.func74,yaC (by kernel_rfl)⟩,⟨Tryz.f40,_,_,Tryz.func40,yaC (by kernel_rfl)⟩,⟨Tryz.f41,_,_,Tryz.func41,yaC (by kernel_rfl)⟩,⟨Tryz.f77,_,_,Tryz.func77,yaC (by kernel_rfl)⟩,⟨Tryz.f42,_,_,Tryz.func42,yaC (by kernel_rfl)⟩,⟨Tryz.f58,_,_,Tryz.func58,yaC (by kernel_rfl)⟩,⟨Tryz.f93,_,_,Tryz.func93,yaC (by kernel_rfl)⟩,⟨Tryz.f78,_,_,Tryz.func78,yaC (by kernel_rfl)⟩,⟨Tryz.f130,_,_,Tryz.func130,yaC (by kernel_rfl)⟩,⟨Tryz.f129,_,_,Tryz.func129,yaC (by kernel_rfl)⟩,⟨Tryz.f128,_,_,Tryz.func128,yaC (by kernel_rfl)⟩,⟨Tryz.f65,_,_,Tryz.func65,yaC (by kernel_rfl)⟩,⟨Tryz.f168,_,_,Tryz.func168,yaC (by kernel_rfl)⟩,⟨Tryz.f157,_,_,Tryz.func157,yaC (by kernel_rfl)⟩,⟨Tryz.f156,_,_,Tryz.func156,yaC (by kernel_rfl)⟩,⟨Tryz.f132,_,_,Tryz.func132,yaC (by kernel_rfl)⟩,⟨Tryz.f131,_,_,Tryz.func131,yaC (by kernel_rfl)⟩,⟨Tryz.f80,_,_,Tryz.func80,yaC (by kernel_rfl)⟩,⟨Tryz.f90,_,_,Tryz.func90,yaC (by kernel_rfl)⟩,⟨Tryz.f56,_,_,Tryz.func56,yaC (by kernel_rfl)⟩,⟨Tryz.f115,_,_,Tryz.func115,yaC (by kernel_rfl)⟩,⟨Tryz.f79,_,_,Tryz.func79,yaC (by kernel_rfl)⟩,⟨Tryz.f94,_,_,Tryz.func94,yaC (by kernel_rfl)⟩,⟨Tryz.f134,_,_,Tryz.func134,yaC (by kernel_rfl)⟩,⟨Tryz.f133,_,_,Tryz.func133,yaC (by kernel_rfl)⟩,⟨Tryz.f91,_,_,Tryz.func91,yaC (by kernel_rfl)⟩,⟨Tryz.f57,_,_,Tryz.func57,yaC (by kernel_rfl)⟩,⟨Tryz.f81,_,_,Tryz.func81,yaC (by kernel_rfl)⟩,⟨Tryz.f43,_,_,Tryz.func43,yaC (by kernel_rfl)⟩,⟨Tryz.f116,_,_,Tryz.func116,yaC (by kernel_rfl)⟩,⟨Tryz.f82,_,_,Tryz.func82,yfP⟩,⟨Tryz.f44,_,_,Tryz.func44,yaC (by kernel_rfl)⟩,⟨Tryz.f45,_,_,Tryz.func45,yaC (by kernel_rfl)⟩,⟨Tryz.f64,_,_,Tryz.func64,yaC (by kernel_rfl)⟩,⟨Tryz.f28,_,_,Tryz.func28,yaC (by kernel_rfl)⟩,⟨Tryz.f153,_,_,Tryz.func153,yaC (by kernel_rfl)⟩,⟨Tryz.f124,_,_,Tryz.func124,yaC (by kernel_rfl)⟩,⟨Tryz.f118,_,_,Tryz.func118,yaC (by kernel_rfl)⟩,⟨Tryz.f83,_,_,Tryz.func83,yhV⟩,⟨Tryz.f46,_,_,Tryz.func46,yaC (by kernel_rfl)⟩,⟨Tryz.f17,_,_,Tryz.func17,yaC (by kernel_rfl)⟩,⟨Tryz.f9,_,_,Tryz.func9,yaC (by kernel_rfl)⟩,⟨Tryz.f7,_,_,Tryz.func7,yaC (by kernel_rfl)⟩,⟨Tryz.f37,_,_,Tryz.func37,yaC (by kernel_rfl)⟩,⟨Tryz.f33,_,_,Tryz.func33,yaC (by kernel_rfl)⟩,⟨Tryz.f11,_,_,Tryz.func11,yaC (by kernel_rfl)⟩,⟨Tryz.f38,_,_,Tryz.func38,yaC (by kernel_rfl)⟩,⟨Tryz.f16,_,_,Tryz.func16,yaC (by kernel_rfl)⟩,⟨Tryz.f48,_,_,Tryz.func48,yaC (by kernel_rfl)⟩,⟨Tryz.f47,_,_,Tryz.func47,yaC (by kernel_rfl)⟩,⟨Tryz.f18,_,_,Tryz.func18,yaC (by kernel_rfl)⟩,⟨Tryz.f49,_,_,Tryz.func49,yaC (by kernel_rfl)⟩,⟨Tryz.f50,_,_,Tryz.func50,yaC (by kernel_rfl)⟩,⟨Tryz.f19,_,_,Tryz.func19,yaC (by kernel_rfl)⟩,⟨Tryz.f51,_,_,Tryz.func51,yaC (by kernel_rfl)⟩,⟨Tryz.f84,_,_,Tryz.func84,yaC (by kernel_rfl)⟩,⟨Tryz.f85,_,_,Tryz.func85,yaC (by kernel_rfl)⟩,⟨Tryz.f54,_,_,Tryz.func54,yaC (by kernel_rfl)⟩,⟨Tryz.f127,_,_,Tryz.func127,yaC (by kernel_rfl)⟩,⟨Tryz.f87,_,_,Tryz.func87,yaC (by kernel_rfl)⟩,⟨Tryz.f88,_,_,Tryz.func88,yaC (by kernel_rfl)⟩,⟨Tryz.f89,_,_,Tryz.func89,yaC (by kernel_rfl)⟩,⟨Tryz.f55,_,_,Tryz.func55,yaC (by kernel_rfl)⟩,⟨Tryz.f53,_,_,Tryz.func53,yaC (by kernel_rfl)⟩,⟨Tryz.f86,_,_,Tryz.func86,yaC (by kernel_rfl)⟩,⟨Tryz.f21,_,_,Tryz.func21,yaC (by kernel_rfl)⟩,⟨Tryz.f52,_,_,Tryz.func52,yaC (by kernel_rfl)⟩,⟨Tryz.f20,_,_,Tryz.func20,yaC (by kernel_rfl)⟩,⟨Tryz.f4,_,_,Tryz.func4,yaC (by kernel_rfl)⟩,trivial⟩
theorem hm:Tryz.prog.follows .mixedOrders=true:=by kernel_rfl
theorem yJB:IsExtern Tryz.prog ygx add64Entry:=⟨_,Tryz.func154,by kernel_rfl,by kernel_rfl,by kernel_rfl,by kernel_rfl⟩
theorem yJC:IsExtern Tryz.prog ygy yv1:=⟨_,Tryz.func155,by kernel_rfl,by kernel_rfl,by kernel_rfl,by kernel_rfl⟩
theorem dnE:dnL quiL=[]:=by kernel_rfl
theorem k0C:EO Tryz.prog E0C:=by
 refine yGA hm yJB yJC yJA (fun n hn=>by rw [dnE] at hn;cases hn) ?_
 intro n e b h
 simp only [cloL,qAv,Prod.mk.injEq,List.not_mem_nil,or_false] at h
 rcases h with ⟨rfl,rfl,rfl⟩
 exact ⟨(.int .i64 (0)),by kernel_rfl⟩
theorem kN:EO Tryz.prog (E []):=yGD k0C fun e h=>by cases h
end Go.Proofs.YtfclgjlabhkndaaGreat.Ht
