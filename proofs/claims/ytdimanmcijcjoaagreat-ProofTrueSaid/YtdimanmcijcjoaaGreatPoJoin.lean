/- Part 7. -/
import Derived.Test.YtdimanmcijcjoaaGreatRows

import Derived.Test.YtdimanmcijcjoaaGreatPoW6
import Derived.WalkKit
import Derived.ProofKit
import Derived.OpenShut
import Derived.ReadAgain
import Derived.ChangeBears




import Derived.Shelf.SlSortCmp.WholeK
import Derived.Test.YtdimanmcijcjoaaGreatShelf
namespace Go.Proofs.YtdimanmcijcjoaaGreat.Po
open Go Go.Pf Go.Pf.Vc Go.ChangeShapes Go.WideShapes Go.ChangeAt Go.RowKit Go.Shelf Go.Sort Go.Lib Go.Proofs
set_option maxRecDepth 100000
theorem yNA:Aw Tryz.prog tab:=by unfold tab;simp only [Aw];exact ⟨⟨Tryz.f25,_,_,Tryz.func25,bC (by kernel_rfl)⟩,⟨Tryz.f45,_,_,Tryz.func45,bC (by kernel_rfl)⟩,⟨Tryz.f26,_,_,Tryz.func26,bC (by kernel_rfl)⟩,⟨Tryz.f10,_,_,Tryz.func10,bC (by kernel_rfl)⟩,⟨Tryz.f46,_,_,Tryz.func46,bC (by kernel_rfl)⟩,⟨Tryz.f27,_,_,Tryz.func27,bC (by kernel_rfl)⟩,⟨Tryz.f71,_,_,Tryz.func71,bC (by kernel_rfl)⟩,⟨Tryz.f92,_,_,Tryz.func92,bC (by kernel_rfl)⟩,⟨Tryz.f73,_,_,Tryz.func73,bC (by kernel_rfl)⟩,⟨Tryz.f69,_,_,Tryz.func69,bC (by kernel_rfl)⟩,⟨Tryz.f70,_,_,Tryz.func70,bC (by kernel_rfl)⟩,⟨Tryz.f72,_,_,Tryz.func72,bC (by kernel_rfl)⟩,⟨Tryz.f48,_,_,Tryz.func48,bC (by kernel_rfl)⟩,⟨Tryz.f47,_,_,Tryz.func47,bC (by kernel_rfl)⟩,⟨Tryz.f28,_,_,Tryz.func28,bC (by kernel_rfl)⟩,⟨Tryz.f16,_,_,Tryz.func16,bC (by kernel_rfl)⟩,⟨Tryz.f49,_,_,Tryz.func49,bC (by kernel_rfl)⟩,⟨Tryz.f29,_,_,Tryz.func29,bC (by kernel_rfl)⟩,⟨Tryz.f11,_,_,Tryz.func11,bC (by kernel_rfl)⟩,⟨Tryz.f4,_,_,Tryz.func4,bC (by kernel_rfl)⟩,⟨Tryz.f13,_,_,Tryz.func13,bC (by kernel_rfl)⟩,⟨Tryz.f12,_,_,Tryz.func12,bC (by kernel_rfl)⟩,⟨Tryz.f15,_,_,Tryz.func15,bC (by kernel_rfl)⟩,⟨Tryz.f75,_,_,Tryz.func75,bC (by kernel_rfl)⟩,⟨Tryz.f76,_,_,Tryz.func76,bC (by kernel_rfl)⟩,⟨Tryz.f52,_,_,Tryz.func52,bC (by kernel_rfl)⟩,⟨Tryz.f50,_,_,Tryz.func50,bC (by kernel_rfl)⟩,⟨Tryz.f66,_,_,Tryz.func66,bC (by kernel_rfl)⟩,⟨Tryz.f67,_,_,Tryz.func67,bC (by kernel_rfl)⟩,⟨Tryz.f83,_,_,Tryz.func83,bC (by kernel_rfl)⟩,⟨Tryz.f82,_,_,Tryz.func82,bC (by kernel_rfl)⟩,⟨Tryz.f57,_,_,Tryz.func57,bC (by kernel_rfl)⟩,⟨Tryz.f108,_,_,Tryz.func108,bC (by kernel_rfl)⟩,⟨Tryz.f89,_,_,Tryz.func89,bC (by kernel_rfl)⟩,⟨Tryz.f84,_,_,Tryz.func84,bC (by kernel_rfl)⟩,⟨Tryz.f109,_,_,Tryz.func109,bC (by kernel_rfl)⟩,⟨Tryz.f91,_,_,Tryz.func91,bC (by kernel_rfl)⟩,⟨Tryz.f90,_,_,Tryz.func90,bC (by kernel_rfl)⟩,⟨Tryz.f65,_,_,Tryz.func65,bC (by kernel_rfl)⟩,⟨Tryz.f93,_,_,Tryz.func93,bC (by kernel_rfl)⟩,⟨Tryz.f74,_,_,Tryz.func74,bC (by kernel_rfl)⟩,⟨Tryz.f53,_,_,Tryz.func53,bC (by kernel_rfl)⟩,⟨Tryz.f51,_,_,Tryz.func51,bC (by kernel_rfl)⟩,⟨Tryz.f34,_,_,Tryz.func34,bC (by kernel_rfl)⟩,⟨Tryz.f41,_,_,Tryz.func41,bC (by kernel_rfl)⟩,⟨Tryz.f30,_,_,Tryz.func30,bC (by kernel_rfl)⟩,⟨Tryz.f80,_,_,Tryz.func80,bC (by kernel_rfl)⟩,⟨Tryz.f79,_,_,Tryz.func79,bC (by kernel_rfl)⟩,⟨Tryz.f78,_,_,Tryz.func78,bC (by kernel_rfl)⟩,⟨Tryz.f107,_,_,Tryz.func107,bC (by kernel_rfl)⟩,⟨Tryz.f110,_,_,Tryz.func110,bC (by kernel_rfl)⟩,⟨Tryz.f97,_,_,Tryz.func97,bC (by kernel_rfl)⟩,⟨Tryz.f96,_,_,Tryz.func96,bC (by kernel_rfl)⟩,⟨Tryz.f68,_,_,Tryz.func68,bC (by kernel_rfl)⟩,⟨Tryz.f77,_,_,Tryz.func77,bC (by kernel_rfl)⟩,⟨Tryz.f81,_,_,Tryz.func81,bC (by kernel_rfl)⟩,⟨Tryz.f58,_,_,Tryz.func58,bC (by kernel_rfl)⟩,⟨Tryz.f56,_,_,Tryz.func56,bC (by kernel_rfl)⟩,⟨Tryz.f55,_,_,Tryz.func55,bC (by kernel_rfl)⟩,⟨Tryz.f54,_,_,Tryz.func54,bC (by kernel_rfl)⟩,⟨Tryz.f31,_,_,Tryz.func31,bC (by kernel_rfl)⟩,⟨Tryz.f14,_,_,Tryz.func14,bC (by kernel_rfl)⟩,⟨Tryz.f19,_,_,Tryz.func19,bC (by kernel_rfl)⟩,⟨Tryz.f32,_,_,Tryz.func32,bC (by kernel_rfl)⟩,⟨Tryz.f33,_,_,Tryz.func33,bC (by kernel_rfl)⟩,⟨Tryz.f20,_,_,Tryz.func20,bC (by kernel_rfl)⟩,⟨Tryz.f61,_,_,Tryz.func61,bC (by kernel_rfl)⟩,⟨Tryz.f85,_,_,Tryz.func85,bC (by kernel_rfl)⟩,⟨Tryz.f59,_,_,Tryz.func59,bC (by kernel_rfl)⟩,⟨Tryz.f60,_,_,Tryz.func60,bC (by kernel_rfl)⟩,⟨Tryz.f37,_,_,Tryz.func37,bC (by kernel_rfl)⟩,⟨Tryz.f36,_,_,Tryz.func36,bC (by kernel_rfl)⟩,⟨Tryz.f35,_,_,Tryz.func35,bC (by kernel_rfl)⟩,⟨Tryz.f86,_,_,Tryz.func86,bC (by kernel_rfl)⟩,⟨Tryz.f62,_,_,Tryz.func62,bC (by kernel_rfl)⟩,⟨Tryz.f106,_,_,Tryz.func106,bC (by kernel_rfl)⟩,⟨Tryz.f88,_,_,Tryz.func88,bC (by kernel_rfl)⟩,⟨Tryz.f98,_,_,Tryz.func98,bC (by kernel_rfl)⟩,⟨Tryz.f87,_,_,Tryz.func87,bC (by kernel_rfl)⟩,⟨Tryz.f63,_,_,Tryz.func63,bC (by kernel_rfl)⟩,⟨Tryz.f64,_,_,Tryz.func64,bC (by kernel_rfl)⟩,⟨Tryz.f38,_,_,Tryz.func38,bC (by kernel_rfl)⟩,⟨Tryz.f40,_,_,Tryz.func40,bC (by kernel_rfl)⟩,⟨Tryz.f39,_,_,Tryz.func39,bC (by kernel_rfl)⟩,⟨Tryz.f42,_,_,Tryz.func42,bC (by kernel_rfl)⟩,⟨Tryz.f43,_,_,Tryz.func43,bC (by kernel_rfl)⟩,⟨Tryz.f44,_,_,Tryz.func44,bC (by kernel_rfl)⟩,⟨Tryz.f21,_,_,Tryz.func21,bC (by kernel_rfl)⟩,⟨Tryz.f6,_,_,Tryz.func6,bC (by kernel_rfl)⟩,⟨Tryz.f17,_,_,Tryz.func17,bC (by kernel_rfl)⟩,⟨Tryz.f24,_,_,Tryz.func24,bC (by kernel_rfl)⟩,⟨Tryz.f9,_,_,Tryz.func9,bC (by kernel_rfl)⟩,⟨Tryz.f8,_,_,Tryz.func8,bC (by kernel_rfl)⟩,⟨Tryz.f18,_,_,Tryz.func18,bC (by kernel_rfl)⟩,⟨Tryz.f5,_,_,Tryz.func5,bC (by kernel_rfl)⟩,⟨Tryz.f22,_,_,Tryz.func22,bC (by kernel_rfl)⟩,⟨Tryz.f23,_,_,Tryz.func23,bC (by kernel_rfl)⟩,⟨Tryz.f7,_,_,Tryz.func7,bC (by kernel_rfl)⟩,⟨Tryz.f3,_,_,Tryz.func3,bC (by kernel_rfl)⟩,trivial⟩
theorem hm:Tryz.prog.follows .mixedOrders=true:=by kernel_rfl
theorem yNB:IsExtern Tryz.prog xX add64Entry:=⟨_,Tryz.func94,by kernel_rfl,by kernel_rfl,by kernel_rfl,by kernel_rfl⟩
theorem yNC:IsExtern Tryz.prog xY Ff:=⟨_,Tryz.func95,by kernel_rfl,by kernel_rfl,by kernel_rfl,by kernel_rfl⟩
theorem dnE:Ax AN=[]:=by kernel_rfl
theorem Sj:EO Tryz.prog df:=by
 refine bj hm yNB yNC yNA (fun n hn=>by rw [dnE] at hn;cases hn) ?_;intro n e b h
 cases h
theorem kN:EO Tryz.prog (E []):=UT Sj fun e h=>by cases h
theorem ypp:SortsAt Tryz.prog lF.s lF.cf lF.srt where
 size:=fun d=>(pdq_sorts _ (Rr _ _) d 0 d.size (Go.Lib.bitLen d.size) true true (iB _) (bW _) (Or.inl rfl)).1.1
 pos:=by decide
 enters:=enters_of Tryz.func64 (by kernel_rfl) rfl
 entersN:=enters_of Tryz.func63 (by kernel_rfl) rfl
 law:=fun blk off cap d w hc hH hb hs=>AnyQ.slices_SortFunc_eq Tryz.sortSp 4 Tryz.isAgg46 Tryz.sizeOf46 lF.s.enc (fun x=>Srt.enc_len x) (fun x=>Srt.enc_one x) lF.cf (Rr _ _) 64 #[] blk off cap d w (enters_of Tryz.func64 (by kernel_rfl) rfl) hc hH hb hs
theorem kS:EO Tryz.prog (E aT):=by
 refine UT Sj ?_;intro e h;simp only [aT,qAq,List.not_mem_nil,or_false] at h;rcases h with rfl;exact fun y0=>yHE lF.s ypp (fun x y=>by
  have h:=yJa [] fI x.2 y.2;exact Ie kN hm (dW (by kernel_rfl) _) (by kernel_rfl) (Ans.solo h)) (LK (Sj.ats (y:=y0) (iB _)) hm 60) (fun H=>by kernel_rfl) (fun H=>by kernel_rfl)
end Go.Proofs.YtdimanmcijcjoaaGreat.Po
