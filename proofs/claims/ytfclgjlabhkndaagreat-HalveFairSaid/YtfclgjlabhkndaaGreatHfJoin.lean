/- Part 8. -/
import Derived.Test.YtfclgjlabhkndaaGreatRows

import Derived.Test.YtfclgjlabhkndaaGreatHfW7
import Derived.WalkKit
import Derived.ProofKit
import Derived.OpenShut
import Derived.ReadAgain
import Derived.ChangeBears




import Derived.Shelf.SlSortCmp.WholeK
import Derived.Test.YtfclgjlabhkndaaGreatShelf
namespace Go.Proofs.YtfclgjlabhkndaaGreat.Hf
open Go Go.Pf Go.Pf.Vc Go.ChangeShapes Go.WideShapes Go.ChangeAt Go.RowKit Go.Shelf Go.Sort Go.Lib Go.Proofs
set_option maxRecDepth 100000
def yua:List (Nat×List Nat):=[(16,[7,9,54,61,62]),(15,[7,9,54,55,56,57,58,59,60]),(14,[52,53]),(13,[8,35,49,50,51]),(12,[45,46,47,48]),(11,[44]),(10,[7,35,36,37,38,39,40,41,42,43]),(9,[33,34]),(8,[30,31,32]),(7,[28,29]),(6,[7,8,13,23,24,25,26,27]),(5,[20,21,22]),(4,[19]),(3,[7,13,14,15,16,17,18]),(2,[11,12]),(1,[10])]
theorem yhB:ynL Tryz.prog [] (fun i=>(yua.lookup i).getD []) Tryz.f82=some yei.fn:=by kernel_rfl
def yzs:List (Nat×List Nat):=[(30,[14,133]),(29,[2,127,128,129,130,131,132]),(28,[16,17,18,113,124,125,126]),(27,[14,122,123]),(26,[1,117,118,119,120,121]),(25,[16,17,18,113,114,115,116]),(24,[111,112]),(23,[10,109,110]),(22,[103,104,105,106,107,108]),(21,[15,102]),(20,[8,9,11,87,94,95,96,97,98,99,100,101]),(19,[13,93]),(18,[1,10,11,87,88,89,90,91,92]),(17,[68,72,73,74,75,76,77,78,79,80,81,82,83,84,85,86]),(16,[68,69,70,71]),(15,[12,50,61,62,63,64,65,66,67]),(13,[55,56,57,58,59,60]),(12,[12,50,51,52,53,54]),(11,[49]),(10,[35,42,43,44,45,46,47,48]),(9,[40,41]),(8,[35,36,37,38,39]),(7,[29,34]),(6,[0,1,2,3,8,9,10,29,30,31,32,33]),(5,[23,28]),(4,[0,1,2,3,8,9,10,23,24,25,26,27]),(3,[22]),(2,[19,20,21])]
theorem ykd:ynL Tryz.prog [] (fun i=>(yzs.lookup i).getD []) Tryz.f83=some yj1.fn:=by kernel_rfl
theorem yON:yAg Tryz.prog tab:=by
 unfold tab
 simp only [yAg]
 exact ⟨⟨Tryz.f27,_,_,Tryz.func27,yaM (by kernel_rfl)⟩,⟨Tryz.f6,_,_,Tryz.func6,yaM (by kernel_rfl)⟩,⟨Tryz.f34,_,_,Tryz.func34,yaM (by kernel_rfl)⟩,⟨Tryz.f14,_,_,Tryz.func14,yaM (by kernel_rfl)⟩,⟨Tryz.f23,_,_,Tryz.func23,yaM (by kernel_rfl)⟩,⟨Tryz.f22,_,_,Tryz.func22,yaM (by kernel_rfl)⟩,⟨Tryz.f36,_,_,Tryz.func36,yaM (by kernel_rfl)⟩,⟨Tryz.f109,_,_,Tryz.func109,yaM (by kernel_rfl)⟩,⟨Tryz.f110,_,_,Tryz.func110,yaM (by kernel_rfl)⟩,⟨Tryz.f69,_,_,Tryz.func69,yaM (by kernel_rfl)⟩,⟨Tryz.f39,_,_,Tryz.func39,yaM (by kernel_rfl)⟩,⟨Tryz.f105,_,_,Tryz.func105,yaM (by kernel_rfl)⟩,⟨Tryz.f66,_,_,Tryz.func66,yaM (by kernel_rfl)⟩,⟨Tryz.f29,_,_,Tryz.func29,yaM (by kernel_rfl)⟩,⟨Tryz.f30,_,_,Tryz.func30,yaM (by kernel_rfl)⟩,⟨Tryz.f73,_,_,Tryz.func73,yaM (by kernel_rfl)⟩,⟨Tryz.f76,_,_,Tryz.func76,yaM (by kernel_rfl)⟩,⟨Tryz.f112,_,_,Tryz.func112,yaM (by kernel_rfl)⟩,⟨Tryz.f111,_,_,Tryz.func111,yaM (by kernel_rfl)⟩,⟨Tryz.f70,_,_,Tryz.func70,yaM (by kernel_rfl)⟩,⟨Tryz.f113,_,_,Tryz.func113,yaM (by kernel_rfl)⟩,⟨Tryz.f71,_,_,Tryz.func71,yaM (by kernel_rfl)⟩,⟨Tryz.f72,_,_,Tryz.func72,yaM (by kernel_rfl)⟩,⟨Tryz.f114,_,_,Tryz.func114,yaM (by kernel_rfl)⟩,⟨Tryz.f75,_,_,Tryz.func75,yaM (by kernel_rfl)⟩,⟨Tryz.f74,_,_,Tryz.func74,yaM (by kernel_rfl)⟩,⟨Tryz.f40,_,_,Tryz.func40,yaM (by kernel_rfl)⟩,⟨Tryz.f41,_,_,Tryz.func41,yaM (by kernel_rfl)⟩,⟨Tryz.f77,_,_,Tryz.func77,yaM (by kernel_rfl)⟩,⟨Tryz.f42,_,_,Tryz.func42,yaM (by kernel_rfl)⟩,⟨Tryz.f58,_,_,Tryz.func58,yaM (by kernel_rfl)⟩,⟨Tryz.f93,_,_,Tryz.func93,yaM (by kernel_rfl)⟩,⟨Tryz.f78,_,_,Tryz.func78,yaM (by kernel_rfl)⟩,⟨Tryz.f130,_,_,Tryz.func130,yaM (by kernel_rfl)⟩,⟨Tryz.f129,_,_,Tryz.func129,yaM (by kernel_rfl)⟩,⟨Tryz.f128,_,_,Tryz.func128,yaM (by kernel_rfl)⟩,⟨Tryz.f65,_,_,Tryz.func65,yaM (by kernel_rfl)⟩,⟨Tryz.f168,_,_,Tryz.func168,yaM (by kernel_rfl)⟩,⟨Tryz.f157,_,_,Tryz.func157,yaM (by kernel_rfl)⟩,⟨Tryz.f156,_,_,Tryz.func156,yaM (by kernel_rfl)⟩,⟨Tryz.f132,_,_,Tryz.func132,yaM (by kernel_rfl)⟩,⟨Tryz.f131,_,_,Tryz.func131,yaM (by kernel_rfl)⟩,⟨Tryz.f80,_,_,Tryz.func80,yaM (by kernel_rfl)⟩,⟨Tryz.f90,_,_,Tryz.func90,yaM (by kernel_rfl)⟩,⟨Tryz.f56,_,_,Tryz.func56,yaM (by kernel_rfl)⟩,⟨Tryz.f115,_,_,Tryz.func115,yaM (by kernel_rfl)⟩,⟨Tryz.f79,_,_,Tryz.func79,yaM (by kernel_rfl)⟩,⟨Tryz.f94,_,_,Tryz.func94,yaM (by kernel_rfl)⟩,⟨Tryz.f134,_,_,Tryz.func134,yaM (by kernel_rfl)⟩,⟨Tryz.f133,_,_,Tryz.func133,yaM (by kernel_rfl)⟩,⟨Tryz.f91,_,_,Tryz.func91,yaM (by kernel_rfl)⟩,⟨Tryz.f57,_,_,Tryz.func57,yaM (by kernel_rfl)⟩,⟨Tryz.f81,_,_,Tryz.func81,yaM (by kernel_rfl)⟩,⟨Tryz.f43,_,_,Tryz.func43,yaM (by kernel_rfl)⟩,⟨Tryz.f116,_,_,Tryz.func116,yaM (by kernel_rfl)⟩,⟨Tryz.f82,_,_,Tryz.func82,yhB⟩,⟨Tryz.f44,_,_,Tryz.func44,yaM (by kernel_rfl)⟩,⟨Tryz.f45,_,_,Tryz.func45,yaM (by kernel_rfl)⟩,⟨Tryz.f64,_,_,Tryz.func64,yaM (by kernel_rfl)⟩,⟨Tryz.f28,_,_,Tryz.func28,yaM (by kernel_rfl)⟩,⟨Tryz.f153,_,_,Tryz.func153,yaM (by kernel_rfl)⟩,⟨Tryz.f124,_,_,Tryz.func124,yaM (by kernel_rfl)⟩,⟨Tryz.f118,_,_,Tryz.func118,yaM (by kernel_rfl)⟩,⟨Tryz.f83,_,_,Tryz.func83,ykd⟩,⟨Tryz.f46,_,_,Tryz.func46,yaM (by kernel_rfl)⟩,⟨Tryz.f17,_,_,Tryz.func17,yaM (by kernel_rfl)⟩,⟨Tryz.f9,_,_,Tryz.func9,yaM (by kernel_rfl)⟩,⟨Tryz.f7,_,_,Tryz.func7,yaM (by kernel_rfl)⟩,⟨Tryz.f37,_,_,Tryz.func37,yaM (by kernel_rfl)⟩,⟨Tryz.f33,_,_,Tryz.func33,yaM (by kernel_rfl)⟩,⟨Tryz.f11,_,_,Tryz.func11,yaM (by kernel_rfl)⟩,⟨Tryz.f38,_,_,Tryz.func38,yaM (by kernel_rfl)⟩,⟨Tryz.f16,_,_,Tryz.func16,yaM (by kernel_rfl)⟩,⟨Tryz.f24,_,_,Tryz.func24,yaM (by kernel_rfl)⟩,⟨Tryz.f179,_,_,Tryz.func179,yaM (by kernel_rfl)⟩,⟨Tryz.f169,_,_,Tryz.func169,yaM (by kernel_rfl)⟩,⟨Tryz.f159,_,_,Tryz.func159,yaM (by kernel_rfl)⟩,⟨Tryz.f158,_,_,Tryz.func158,yaM (by kernel_rfl)⟩,⟨Tryz.f95,_,_,Tryz.func95,yaM (by kernel_rfl)⟩,⟨Tryz.f101,_,_,Tryz.func101,yaM (by kernel_rfl)⟩,⟨Tryz.f135,_,_,Tryz.func135,yaM (by kernel_rfl)⟩,⟨Tryz.f161,_,_,Tryz.func161,yaM (by kernel_rfl)⟩,⟨Tryz.f160,_,_,Tryz.func160,yaM (by kernel_rfl)⟩,⟨Tryz.f136,_,_,Tryz.func136,yaM (by kernel_rfl)⟩,⟨Tryz.f92,_,_,Tryz.func92,yaM (by kernel_rfl)⟩,⟨Tryz.f59,_,_,Tryz.func59,yaM (by kernel_rfl)⟩,⟨Tryz.f60,_,_,Tryz.func60,yaM (by kernel_rfl)⟩,⟨Tryz.f139,_,_,Tryz.func139,yaM (by kernel_rfl)⟩,⟨Tryz.f162,_,_,Tryz.func162,yaM (by kernel_rfl)⟩,⟨Tryz.f137,_,_,Tryz.func137,yaM (by kernel_rfl)⟩,⟨Tryz.f138,_,_,Tryz.func138,yaM (by kernel_rfl)⟩,⟨Tryz.f98,_,_,Tryz.func98,yaM (by kernel_rfl)⟩,⟨Tryz.f97,_,_,Tryz.func97,yaM (by kernel_rfl)⟩,⟨Tryz.f96,_,_,Tryz.func96,yaM (by kernel_rfl)⟩,⟨Tryz.f163,_,_,Tryz.func163,yaM (by kernel_rfl)⟩,⟨Tryz.f140,_,_,Tryz.func140,yaM (by kernel_rfl)⟩,⟨Tryz.f170,_,_,Tryz.func170,yaM (by kernel_rfl)⟩,⟨Tryz.f164,_,_,Tryz.func164,yaM (by kernel_rfl)⟩,⟨Tryz.f141,_,_,Tryz.func141,yaM (by kernel_rfl)⟩,⟨Tryz.f142,_,_,Tryz.func142,yaM (by kernel_rfl)⟩,⟨Tryz.f99,_,_,Tryz.func99,yaM (by kernel_rfl)⟩,⟨Tryz.f100,_,_,Tryz.func100,yaM (by kernel_rfl)⟩,⟨Tryz.f102,_,_,Tryz.func102,yaM (by kernel_rfl)⟩,⟨Tryz.f103,_,_,Tryz.func103,yaM (by kernel_rfl)⟩,⟨Tryz.f104,_,_,Tryz.func104,yaM (by kernel_rfl)⟩,⟨Tryz.f61,_,_,Tryz.func61,yaM (by kernel_rfl)⟩,⟨Tryz.f25,_,_,Tryz.func25,yaM (by kernel_rfl)⟩,⟨Tryz.f62,_,_,Tryz.func62,yaM (by kernel_rfl)⟩,⟨Tryz.f63,_,_,Tryz.func63,yaM (by kernel_rfl)⟩,⟨Tryz.f26,_,_,Tryz.func26,yaM (by kernel_rfl)⟩,⟨Tryz.f5,_,_,Tryz.func5,yaM (by kernel_rfl)⟩,trivial⟩
theorem hm:Tryz.prog.follows .mixedOrders=true:=by kernel_rfl
theorem yOO:IsExtern Tryz.prog yiu add64Entry:=⟨_,Tryz.func154,by kernel_rfl,by kernel_rfl,by kernel_rfl,by kernel_rfl⟩
theorem yOP:IsExtern Tryz.prog yiv yAi:=⟨_,Tryz.func155,by kernel_rfl,by kernel_rfl,by kernel_rfl,by kernel_rfl⟩
theorem dnE:dnL quiL=[]:=by kernel_rfl
theorem k0C:EO Tryz.prog E0C:=by
 refine yKX hm yOO yOP yON (fun n hn=>by rw [dnE] at hn;cases hn) ?_
 intro n e b h
 simp only [cloL,qAt,Prod.mk.injEq,List.not_mem_nil,or_false] at h
 rcases h with ⟨rfl,rfl,rfl⟩
 exact ⟨(.int .i64 (0)),by kernel_rfl⟩
theorem kN:EO Tryz.prog (E []):=yF7 k0C fun e h=>by cases h
theorem yq0:SortsAt Tryz.prog ypg.s ypg.cf ypg.srt where
 size:=fun d=>(pdq_sorts _ (yH3 _ _) d 0 d.size (Go.Lib.bitLen d.size) true true (qBj _) (qAk _) (Or.inl rfl)).1.1
 pos:=by decide
 enters:=enters_of Tryz.func142 (by kernel_rfl) rfl
 entersN:=enters_of Tryz.func141 (by kernel_rfl) rfl
 law:=fun blk off cap d w hc hH hb hs=>AnyQ.slices_SortFunc_eq Tryz.sortSp 4 Tryz.isAgg78 Tryz.sizeOf78 ypg.s.enc (fun x=>Srt.enc_len x) (fun x=>Srt.enc_one x) ypg.cf (yH3 _ _) 142 #[] blk off cap d w (enters_of Tryz.func142 (by kernel_rfl) rfl) hc hH hb hs
theorem kS:EO Tryz.prog (E ef0):=by
 refine yF7 k0C ?_
 intro e h
 simp only [ef0,qAt,List.not_mem_nil,or_false] at h
 rcases h with rfl
 exact fun y0=>yKk ypg.s yq0 (fun x y=>by
  have h:=yLJ [] ybq x.2 y.2
  exact yIz kN hm (yaB (by kernel_rfl) _) (by kernel_rfl) (Ans.solo h)) (ywK (k0C.ats (y:=y0) (qBj _)) hm 60) (fun H=>by kernel_rfl) (fun H=>by kernel_rfl)
end Go.Proofs.YtfclgjlabhkndaaGreat.Hf
