/- Part 7. -/
import Derived.Test.YtobbapakhillmaaGreatRows

import Derived.Test.YtobbapakhillmaaGreatThW6
import Derived.WalkKit
import Derived.ProofKit
import Derived.OpenShut
import Derived.ReadAgain
import Derived.ChangeBears




import Derived.Shelf.SlSortCmp.WholeK
import Derived.Test.YtobbapakhillmaaGreatShelf
namespace Go.Proofs.YtobbapakhillmaaGreat.Th
open Go Go.Pf Go.Pf.Vc Go.ChangeShapes Go.WideShapes Go.ChangeAt Go.RowKit Go.Shelf Go.Sort Go.Lib Go.Proofs
set_option maxRecDepth 100000
theorem yMn:yxp Tryz.prog tab:=by
 unfold tab
 simp only [yxp]
 exact ⟨⟨Tryz.f45,_,_,Tryz.func45,yaL (by kernel_rfl)⟩,⟨Tryz.f15,_,_,Tryz.func15,yaL (by kernel_rfl)⟩,⟨Tryz.f62,_,_,Tryz.func62,yaL (by kernel_rfl)⟩,⟨Tryz.f53,_,_,Tryz.func53,yaL (by kernel_rfl)⟩,⟨Tryz.f20,_,_,Tryz.func20,yaL (by kernel_rfl)⟩,⟨Tryz.f54,_,_,Tryz.func54,yaL (by kernel_rfl)⟩,⟨Tryz.f162,_,_,Tryz.func162,yaL (by kernel_rfl)⟩,⟨Tryz.f163,_,_,Tryz.func163,yaL (by kernel_rfl)⟩,⟨Tryz.f129,_,_,Tryz.func129,yaL (by kernel_rfl)⟩,⟨Tryz.f81,_,_,Tryz.func81,yaL (by kernel_rfl)⟩,⟨Tryz.f38,_,_,Tryz.func38,yaL (by kernel_rfl)⟩,⟨Tryz.f40,_,_,Tryz.func40,yaL (by kernel_rfl)⟩,⟨Tryz.f85,_,_,Tryz.func85,yaL (by kernel_rfl)⟩,⟨Tryz.f84,_,_,Tryz.func84,yaL (by kernel_rfl)⟩,⟨Tryz.f116,_,_,Tryz.func116,yaL (by kernel_rfl)⟩,⟨Tryz.f134,_,_,Tryz.func134,yaL (by kernel_rfl)⟩,⟨Tryz.f133,_,_,Tryz.func133,yaL (by kernel_rfl)⟩,⟨Tryz.f87,_,_,Tryz.func87,yaL (by kernel_rfl)⟩,⟨Tryz.f159,_,_,Tryz.func159,yaL (by kernel_rfl)⟩,⟨Tryz.f160,_,_,Tryz.func160,yaL (by kernel_rfl)⟩,⟨Tryz.f167,_,_,Tryz.func167,yaL (by kernel_rfl)⟩,⟨Tryz.f172,_,_,Tryz.func172,yaL (by kernel_rfl)⟩,⟨Tryz.f136,_,_,Tryz.func136,yaL (by kernel_rfl)⟩,⟨Tryz.f170,_,_,Tryz.func170,yaL (by kernel_rfl)⟩,⟨Tryz.f161,_,_,Tryz.func161,yaL (by kernel_rfl)⟩,⟨Tryz.f132,_,_,Tryz.func132,yaL (by kernel_rfl)⟩,⟨Tryz.f89,_,_,Tryz.func89,yaL (by kernel_rfl)⟩,⟨Tryz.f166,_,_,Tryz.func166,yaL (by kernel_rfl)⟩,⟨Tryz.f188,_,_,Tryz.func188,yaL (by kernel_rfl)⟩,⟨Tryz.f177,_,_,Tryz.func177,yaL (by kernel_rfl)⟩,⟨Tryz.f189,_,_,Tryz.func189,yaL (by kernel_rfl)⟩,⟨Tryz.f179,_,_,Tryz.func179,yaL (by kernel_rfl)⟩,⟨Tryz.f178,_,_,Tryz.func178,yaL (by kernel_rfl)⟩,⟨Tryz.f138,_,_,Tryz.func138,yaL (by kernel_rfl)⟩,⟨Tryz.f165,_,_,Tryz.func165,yaL (by kernel_rfl)⟩,⟨Tryz.f164,_,_,Tryz.func164,yaL (by kernel_rfl)⟩,⟨Tryz.f201,_,_,Tryz.func201,yaL (by kernel_rfl)⟩,⟨Tryz.f187,_,_,Tryz.func187,yaL (by kernel_rfl)⟩,⟨Tryz.f176,_,_,Tryz.func176,yaL (by kernel_rfl)⟩,⟨Tryz.f175,_,_,Tryz.func175,yaL (by kernel_rfl)⟩,⟨Tryz.f137,_,_,Tryz.func137,yaL (by kernel_rfl)⟩,⟨Tryz.f90,_,_,Tryz.func90,yaL (by kernel_rfl)⟩,⟨Tryz.f117,_,_,Tryz.func117,yaL (by kernel_rfl)⟩,⟨Tryz.f169,_,_,Tryz.func169,yaL (by kernel_rfl)⟩,⟨Tryz.f168,_,_,Tryz.func168,yaL (by kernel_rfl)⟩,⟨Tryz.f131,_,_,Tryz.func131,yaL (by kernel_rfl)⟩,⟨Tryz.f83,_,_,Tryz.func83,yaL (by kernel_rfl)⟩,⟨Tryz.f202,_,_,Tryz.func202,yaL (by kernel_rfl)⟩,⟨Tryz.f186,_,_,Tryz.func186,yaL (by kernel_rfl)⟩,⟨Tryz.f171,_,_,Tryz.func171,yaL (by kernel_rfl)⟩,⟨Tryz.f140,_,_,Tryz.func140,yaL (by kernel_rfl)⟩,⟨Tryz.f93,_,_,Tryz.func93,yaL (by kernel_rfl)⟩,⟨Tryz.f86,_,_,Tryz.func86,yaL (by kernel_rfl)⟩,⟨Tryz.f130,_,_,Tryz.func130,yaL (by kernel_rfl)⟩,⟨Tryz.f82,_,_,Tryz.func82,yaL (by kernel_rfl)⟩,⟨Tryz.f135,_,_,Tryz.func135,yaL (by kernel_rfl)⟩,⟨Tryz.f88,_,_,Tryz.func88,yaL (by kernel_rfl)⟩,⟨Tryz.f91,_,_,Tryz.func91,yaL (by kernel_rfl)⟩,⟨Tryz.f139,_,_,Tryz.func139,yaL (by kernel_rfl)⟩,⟨Tryz.f92,_,_,Tryz.func92,yaL (by kernel_rfl)⟩,⟨Tryz.f41,_,_,Tryz.func41,yaL (by kernel_rfl)⟩,⟨Tryz.f47,_,_,Tryz.func47,yaL (by kernel_rfl)⟩,⟨Tryz.f143,_,_,Tryz.func143,yaL (by kernel_rfl)⟩,⟨Tryz.f100,_,_,Tryz.func100,yaL (by kernel_rfl)⟩,⟨Tryz.f144,_,_,Tryz.func144,yaL (by kernel_rfl)⟩,⟨Tryz.f200,_,_,Tryz.func200,yaL (by kernel_rfl)⟩,⟨Tryz.f182,_,_,Tryz.func182,yaL (by kernel_rfl)⟩,⟨Tryz.f192,_,_,Tryz.func192,yaL (by kernel_rfl)⟩,⟨Tryz.f181,_,_,Tryz.func181,yaL (by kernel_rfl)⟩,⟨Tryz.f145,_,_,Tryz.func145,yaL (by kernel_rfl)⟩,⟨Tryz.f147,_,_,Tryz.func147,yaL (by kernel_rfl)⟩,⟨Tryz.f146,_,_,Tryz.func146,yaL (by kernel_rfl)⟩,⟨Tryz.f101,_,_,Tryz.func101,yaL (by kernel_rfl)⟩,⟨Tryz.f49,_,_,Tryz.func49,yaL (by kernel_rfl)⟩,⟨Tryz.f48,_,_,Tryz.func48,yaL (by kernel_rfl)⟩,⟨Tryz.f46,_,_,Tryz.func46,yaL (by kernel_rfl)⟩,⟨Tryz.f16,_,_,Tryz.func16,yaL (by kernel_rfl)⟩,⟨Tryz.f55,_,_,Tryz.func55,yaL (by kernel_rfl)⟩,⟨Tryz.f22,_,_,Tryz.func22,yaL (by kernel_rfl)⟩,⟨Tryz.f52,_,_,Tryz.func52,yaL (by kernel_rfl)⟩,⟨Tryz.f18,_,_,Tryz.func18,yaL (by kernel_rfl)⟩,⟨Tryz.f21,_,_,Tryz.func21,yaL (by kernel_rfl)⟩,⟨Tryz.f39,_,_,Tryz.func39,yaL (by kernel_rfl)⟩,⟨Tryz.f11,_,_,Tryz.func11,yaL (by kernel_rfl)⟩,⟨Tryz.f58,_,_,Tryz.func58,yaL (by kernel_rfl)⟩,⟨Tryz.f57,_,_,Tryz.func57,yaL (by kernel_rfl)⟩,⟨Tryz.f24,_,_,Tryz.func24,yaL (by kernel_rfl)⟩,⟨Tryz.f56,_,_,Tryz.func56,yaL (by kernel_rfl)⟩,⟨Tryz.f59,_,_,Tryz.func59,yaL (by kernel_rfl)⟩,⟨Tryz.f60,_,_,Tryz.func60,yaL (by kernel_rfl)⟩,⟨Tryz.f25,_,_,Tryz.func25,yaL (by kernel_rfl)⟩,⟨Tryz.f23,_,_,Tryz.func23,yaL (by kernel_rfl)⟩,⟨Tryz.f27,_,_,Tryz.func27,yaL (by kernel_rfl)⟩,⟨Tryz.f61,_,_,Tryz.func61,yaL (by kernel_rfl)⟩,⟨Tryz.f26,_,_,Tryz.func26,yaL (by kernel_rfl)⟩,⟨Tryz.f63,_,_,Tryz.func63,yaL (by kernel_rfl)⟩,⟨Tryz.f103,_,_,Tryz.func103,yaL (by kernel_rfl)⟩,⟨Tryz.f104,_,_,Tryz.func104,yaL (by kernel_rfl)⟩,⟨Tryz.f150,_,_,Tryz.func150,yaL (by kernel_rfl)⟩,⟨Tryz.f107,_,_,Tryz.func107,yaL (by kernel_rfl)⟩,⟨Tryz.f108,_,_,Tryz.func108,yaL (by kernel_rfl)⟩,⟨Tryz.f109,_,_,Tryz.func109,yaL (by kernel_rfl)⟩,⟨Tryz.f65,_,_,Tryz.func65,yaL (by kernel_rfl)⟩,⟨Tryz.f105,_,_,Tryz.func105,yaL (by kernel_rfl)⟩,⟨Tryz.f106,_,_,Tryz.func106,yaL (by kernel_rfl)⟩,⟨Tryz.f64,_,_,Tryz.func64,yaL (by kernel_rfl)⟩,⟨Tryz.f28,_,_,Tryz.func28,yaL (by kernel_rfl)⟩,⟨Tryz.f5,_,_,Tryz.func5,yaL (by kernel_rfl)⟩,trivial⟩
theorem hm:Tryz.prog.follows .mixedOrders=true:=by kernel_rfl
theorem yMo:IsExtern Tryz.prog yhF add64Entry:=⟨_,Tryz.func173,by kernel_rfl,by kernel_rfl,by kernel_rfl,by kernel_rfl⟩
theorem yMp:IsExtern Tryz.prog yhG yxr:=⟨_,Tryz.func174,by kernel_rfl,by kernel_rfl,by kernel_rfl,by kernel_rfl⟩
theorem dnE:dnL quiL=[yiq]:=by kernel_rfl
theorem k0C:EO Tryz.prog E0C:=by
 refine yIH hm yMo yMp yMn (fun n hn=>by rw [dnE] at hn;rw [qB1.1 hn];exact yAX Tryz.func40 (by decide) rfl rfl rfl rfl rfl rfl rfl rfl rfl rfl rfl rfl rfl rfl rfl (by decide) (by decide) (by decide) (by decide) (fun w=>by kernel_rfl)) ?_
 intro n e b h
 simp only [cloL,qAq,Prod.mk.injEq,List.not_mem_nil,or_false] at h
 rcases h with ⟨rfl,rfl,rfl⟩
 exact ⟨(.int .i64 (0)),by kernel_rfl⟩
theorem kN:EO Tryz.prog (E []):=yDk k0C fun e h=>by cases h
theorem yt3:SortsAt Tryz.prog yrQ.s yrQ.cf yrQ.srt where
 size:=fun d=>(pdq_sorts _ (yFH _ _) d 0 d.size (Go.Lib.bitLen d.size) true true (qBd _) (qAi _) (Or.inl rfl)).1.1
 pos:=by decide
 enters:=enters_of Tryz.func146 (by kernel_rfl) rfl
 entersN:=enters_of Tryz.func145 (by kernel_rfl) rfl
 law:=fun blk off cap d w hc hH hb hs=>AnyQ.slices_SortFunc_eq Tryz.sortSp 4 Tryz.isAgg31 Tryz.sizeOf31 yrQ.s.enc (fun x=>Srt.enc_len x) (fun x=>Srt.enc_one x) yrQ.cf (yFH _ _) 146 #[] blk off cap d w (enters_of Tryz.func146 (by kernel_rfl) rfl) hc hH hb hs
theorem atsJ {P:Program} {E:Env} {y:Nat} (hE:EO P E) (hy:E.yn≤y):EO P (E.ats y) where
 sum:=hE.sum
 fns:=hE.fns
 eff:=fun y' hy'=>hE.eff y' (Nat.le_trans hy hy')
 dn:=hE.dn
 top:=fun k hk=>hE.top k (Nat.le_trans hy hk)
 yl:=fun y' k zs H o H' h hy' nt g F tmps w vs l hr hL hl hv=>by
  obtain ⟨fn,t1,as1,bd,h1,h2⟩:=hE.yl y' k zs H o H' h (Nat.le_trans hy hy') nt g F tmps w vs l (Rel.env (E:=E.ats y) (E':=E) rfl hr) hL hl hv
  exact ⟨fn,t1,as1,bd,h1,fun ro=>(h2 ro).mono fun e w' he=>yAM.env (E:=E) (E':=E.ats y) rfl he⟩
theorem kS:EO Tryz.prog (E ef0):=by
 refine yDk k0C ?_
 intro e h
 simp only [ef0,qAq,List.not_mem_nil,or_false] at h
 rcases h with rfl | rfl
 ·exact fun y0=>yH4 yrQ.s yt3 (fun x y=>by
  have h:=yEh [] ybm x.2 y.2
  exact yGc kN hm (ycp (by kernel_rfl) _) (by kernel_rfl) (Ans.solo h)) (ypH (atsJ (y:=y0) k0C (qBd _)) hm 60) (fun H=>by kernel_rfl) (fun H=>by kernel_rfl)
 ·exact fun y0=>yHl (z:=(.agg [(.int .i64 (0)),(.int .i64 (0)),(.int .i64 (0)),(.int .i64 (0))])) (by kernel_rfl) (fun _ _=>rfl) (ypH (atsJ (y:=y0) k0C (qBd _)) hm 12)
end Go.Proofs.YtobbapakhillmaaGreat.Th
