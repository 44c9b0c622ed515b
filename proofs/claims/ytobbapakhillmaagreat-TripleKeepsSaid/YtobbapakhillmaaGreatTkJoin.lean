/- Part 7. -/
import Derived.Test.YtobbapakhillmaaGreatRows

import Derived.Test.YtobbapakhillmaaGreatTkW6
import Derived.WalkKit
import Derived.ProofKit
import Derived.OpenShut
import Derived.ReadAgain
import Derived.ChangeBears




import Derived.Shelf.SlSortCmp.WholeK
import Derived.Test.YtobbapakhillmaaGreatShelf
namespace Go.Proofs.YtobbapakhillmaaGreat.Tk
open Go Go.Pf Go.Pf.Vc Go.ChangeShapes Go.WideShapes Go.ChangeAt Go.RowKit Go.Shelf Go.Sort Go.Lib Go.Proofs
set_option maxRecDepth 100000
theorem yMo:yxJ Tryz.prog tab:=by
 unfold tab
 simp only [yxJ]
 exact ⟨⟨Tryz.f45,_,_,Tryz.func45,yaJ (by kernel_rfl)⟩,⟨Tryz.f15,_,_,Tryz.func15,yaJ (by kernel_rfl)⟩,⟨Tryz.f62,_,_,Tryz.func62,yaJ (by kernel_rfl)⟩,⟨Tryz.f53,_,_,Tryz.func53,yaJ (by kernel_rfl)⟩,⟨Tryz.f20,_,_,Tryz.func20,yaJ (by kernel_rfl)⟩,⟨Tryz.f54,_,_,Tryz.func54,yaJ (by kernel_rfl)⟩,⟨Tryz.f162,_,_,Tryz.func162,yaJ (by kernel_rfl)⟩,⟨Tryz.f163,_,_,Tryz.func163,yaJ (by kernel_rfl)⟩,⟨Tryz.f129,_,_,Tryz.func129,yaJ (by kernel_rfl)⟩,⟨Tryz.f81,_,_,Tryz.func81,yaJ (by kernel_rfl)⟩,⟨Tryz.f38,_,_,Tryz.func38,yaJ (by kernel_rfl)⟩,⟨Tryz.f40,_,_,Tryz.func40,yaJ (by kernel_rfl)⟩,⟨Tryz.f85,_,_,Tryz.func85,yaJ (by kernel_rfl)⟩,⟨Tryz.f84,_,_,Tryz.func84,yaJ (by kernel_rfl)⟩,⟨Tryz.f116,_,_,Tryz.func116,yaJ (by kernel_rfl)⟩,⟨Tryz.f134,_,_,Tryz.func134,yaJ (by kernel_rfl)⟩,⟨Tryz.f133,_,_,Tryz.func133,yaJ (by kernel_rfl)⟩,⟨Tryz.f87,_,_,Tryz.func87,yaJ (by kernel_rfl)⟩,⟨Tryz.f159,_,_,Tryz.func159,yaJ (by kernel_rfl)⟩,⟨Tryz.f160,_,_,Tryz.func160,yaJ (by kernel_rfl)⟩,⟨Tryz.f167,_,_,Tryz.func167,yaJ (by kernel_rfl)⟩,⟨Tryz.f172,_,_,Tryz.func172,yaJ (by kernel_rfl)⟩,⟨Tryz.f136,_,_,Tryz.func136,yaJ (by kernel_rfl)⟩,⟨Tryz.f170,_,_,Tryz.func170,yaJ (by kernel_rfl)⟩,⟨Tryz.f161,_,_,Tryz.func161,yaJ (by kernel_rfl)⟩,⟨Tryz.f132,_,_,Tryz.func132,yaJ (by kernel_rfl)⟩,⟨Tryz.f89,_,_,Tryz.func89,yaJ (by kernel_rfl)⟩,⟨Tryz.f166,_,_,Tryz.func166,yaJ (by kernel_rfl)⟩,⟨Tryz.f188,_,_,Tryz.func188,yaJ (by kernel_rfl)⟩,⟨Tryz.f177,_,_,Tryz.func177,yaJ (by kernel_rfl)⟩,⟨Tryz.f189,_,_,Tryz.func189,yaJ (by kernel_rfl)⟩,⟨Tryz.f179,_,_,Tryz.func179,yaJ (by kernel_rfl)⟩,⟨Tryz.f178,_,_,Tryz.func178,yaJ (by kernel_rfl)⟩,⟨Tryz.f138,_,_,Tryz.func138,yaJ (by kernel_rfl)⟩,⟨Tryz.f165,_,_,Tryz.func165,yaJ (by kernel_rfl)⟩,⟨Tryz.f164,_,_,Tryz.func164,yaJ (by kernel_rfl)⟩,⟨Tryz.f201,_,_,Tryz.func201,yaJ (by kernel_rfl)⟩,⟨Tryz.f187,_,_,Tryz.func187,yaJ (by kernel_rfl)⟩,⟨Tryz.f176,_,_,Tryz.func176,yaJ (by kernel_rfl)⟩,⟨Tryz.f175,_,_,Tryz.func175,yaJ (by kernel_rfl)⟩,⟨Tryz.f137,_,_,Tryz.func137,yaJ (by kernel_rfl)⟩,⟨Tryz.f90,_,_,Tryz.func90,yaJ (by kernel_rfl)⟩,⟨Tryz.f117,_,_,Tryz.func117,yaJ (by kernel_rfl)⟩,⟨Tryz.f169,_,_,Tryz.func169,yaJ (by kernel_rfl)⟩,⟨Tryz.f168,_,_,Tryz.func168,yaJ (by kernel_rfl)⟩,⟨Tryz.f131,_,_,Tryz.func131,yaJ (by kernel_rfl)⟩,⟨Tryz.f83,_,_,Tryz.func83,yaJ (by kernel_rfl)⟩,⟨Tryz.f202,_,_,Tryz.func202,yaJ (by kernel_rfl)⟩,⟨Tryz.f186,_,_,Tryz.func186,yaJ (by kernel_rfl)⟩,⟨Tryz.f171,_,_,Tryz.func171,yaJ (by kernel_rfl)⟩,⟨Tryz.f140,_,_,Tryz.func140,yaJ (by kernel_rfl)⟩,⟨Tryz.f93,_,_,Tryz.func93,yaJ (by kernel_rfl)⟩,⟨Tryz.f86,_,_,Tryz.func86,yaJ (by kernel_rfl)⟩,⟨Tryz.f130,_,_,Tryz.func130,yaJ (by kernel_rfl)⟩,⟨Tryz.f82,_,_,Tryz.func82,yaJ (by kernel_rfl)⟩,⟨Tryz.f135,_,_,Tryz.func135,yaJ (by kernel_rfl)⟩,⟨Tryz.f88,_,_,Tryz.func88,yaJ (by kernel_rfl)⟩,⟨Tryz.f91,_,_,Tryz.func91,yaJ (by kernel_rfl)⟩,⟨Tryz.f139,_,_,Tryz.func139,yaJ (by kernel_rfl)⟩,⟨Tryz.f92,_,_,Tryz.func92,yaJ (by kernel_rfl)⟩,⟨Tryz.f41,_,_,Tryz.func41,yaJ (by kernel_rfl)⟩,⟨Tryz.f47,_,_,Tryz.func47,yaJ (by kernel_rfl)⟩,⟨Tryz.f143,_,_,Tryz.func143,yaJ (by kernel_rfl)⟩,⟨Tryz.f100,_,_,Tryz.func100,yaJ (by kernel_rfl)⟩,⟨Tryz.f144,_,_,Tryz.func144,yaJ (by kernel_rfl)⟩,⟨Tryz.f200,_,_,Tryz.func200,yaJ (by kernel_rfl)⟩,⟨Tryz.f182,_,_,Tryz.func182,yaJ (by kernel_rfl)⟩,⟨Tryz.f192,_,_,Tryz.func192,yaJ (by kernel_rfl)⟩,⟨Tryz.f181,_,_,Tryz.func181,yaJ (by kernel_rfl)⟩,⟨Tryz.f145,_,_,Tryz.func145,yaJ (by kernel_rfl)⟩,⟨Tryz.f147,_,_,Tryz.func147,yaJ (by kernel_rfl)⟩,⟨Tryz.f146,_,_,Tryz.func146,yaJ (by kernel_rfl)⟩,⟨Tryz.f101,_,_,Tryz.func101,yaJ (by kernel_rfl)⟩,⟨Tryz.f49,_,_,Tryz.func49,yaJ (by kernel_rfl)⟩,⟨Tryz.f48,_,_,Tryz.func48,yaJ (by kernel_rfl)⟩,⟨Tryz.f46,_,_,Tryz.func46,yaJ (by kernel_rfl)⟩,⟨Tryz.f16,_,_,Tryz.func16,yaJ (by kernel_rfl)⟩,⟨Tryz.f55,_,_,Tryz.func55,yaJ (by kernel_rfl)⟩,⟨Tryz.f22,_,_,Tryz.func22,yaJ (by kernel_rfl)⟩,⟨Tryz.f52,_,_,Tryz.func52,yaJ (by kernel_rfl)⟩,⟨Tryz.f18,_,_,Tryz.func18,yaJ (by kernel_rfl)⟩,⟨Tryz.f21,_,_,Tryz.func21,yaJ (by kernel_rfl)⟩,⟨Tryz.f39,_,_,Tryz.func39,yaJ (by kernel_rfl)⟩,⟨Tryz.f11,_,_,Tryz.func11,yaJ (by kernel_rfl)⟩,⟨Tryz.f19,_,_,Tryz.func19,yaJ (by kernel_rfl)⟩,⟨Tryz.f58,_,_,Tryz.func58,yaJ (by kernel_rfl)⟩,⟨Tryz.f57,_,_,Tryz.func57,yaJ (by kernel_rfl)⟩,⟨Tryz.f24,_,_,Tryz.func24,yaJ (by kernel_rfl)⟩,⟨Tryz.f56,_,_,Tryz.func56,yaJ (by kernel_rfl)⟩,⟨Tryz.f59,_,_,Tryz.func59,yaJ (by kernel_rfl)⟩,⟨Tryz.f60,_,_,Tryz.func60,yaJ (by kernel_rfl)⟩,⟨Tryz.f25,_,_,Tryz.func25,yaJ (by kernel_rfl)⟩,⟨Tryz.f23,_,_,Tryz.func23,yaJ (by kernel_rfl)⟩,⟨Tryz.f112,_,_,Tryz.func112,yaJ (by kernel_rfl)⟩,⟨Tryz.f110,_,_,Tryz.func110,yaJ (by kernel_rfl)⟩,⟨Tryz.f183,_,_,Tryz.func183,yaJ (by kernel_rfl)⟩,⟨Tryz.f148,_,_,Tryz.func148,yaJ (by kernel_rfl)⟩,⟨Tryz.f149,_,_,Tryz.func149,yaJ (by kernel_rfl)⟩,⟨Tryz.f102,_,_,Tryz.func102,yaJ (by kernel_rfl)⟩,⟨Tryz.f66,_,_,Tryz.func66,yaJ (by kernel_rfl)⟩,⟨Tryz.f29,_,_,Tryz.func29,yaJ (by kernel_rfl)⟩,⟨Tryz.f6,_,_,Tryz.func6,yaJ (by kernel_rfl)⟩,trivial⟩
theorem hm:Tryz.prog.follows .mixedOrders=true:=by kernel_rfl
theorem yMp:IsExtern Tryz.prog yhz add64Entry:=⟨_,Tryz.func173,by kernel_rfl,by kernel_rfl,by kernel_rfl,by kernel_rfl⟩
theorem yMq:IsExtern Tryz.prog yhA yxL:=⟨_,Tryz.func174,by kernel_rfl,by kernel_rfl,by kernel_rfl,by kernel_rfl⟩
theorem dnE:dnL quiL=[yim]:=by kernel_rfl
theorem k0C:EO Tryz.prog E0C:=by
 refine yIV hm yMp yMq yMo (fun n hn=>by rw [dnE] at hn;rw [qBb.1 hn];exact yBr Tryz.func40 (by decide) rfl rfl rfl rfl rfl rfl rfl rfl rfl rfl rfl rfl rfl rfl rfl (by decide) (by decide) (by decide) (by decide) (fun w=>by kernel_rfl)) ?_
 intro n e b h
 simp only [cloL,qAn,Prod.mk.injEq,List.not_mem_nil,or_false] at h
 rcases h with ⟨rfl,rfl,rfl⟩
 exact ⟨(.int .i64 (0)),by kernel_rfl⟩
theorem kN:EO Tryz.prog (E []):=yDw k0C fun e h=>by cases h
theorem yt9:SortsAt Tryz.prog yrL.s yrL.cf yrL.srt where
 size:=fun d=>(pdq_sorts _ (yFN _ _) d 0 d.size (Go.Lib.bitLen d.size) true true (qBd _) (qAl _) (Or.inl rfl)).1.1
 pos:=by decide
 enters:=enters_of Tryz.func146 (by kernel_rfl) rfl
 entersN:=enters_of Tryz.func145 (by kernel_rfl) rfl
 law:=fun blk off cap d w hc hH hb hs=>AnyQ.slices_SortFunc_eq Tryz.sortSp 4 Tryz.isAgg31 Tryz.sizeOf31 yrL.s.enc (fun x=>Srt.enc_len x) (fun x=>Srt.enc_one x) yrL.cf (yFN _ _) 146 #[] blk off cap d w (enters_of Tryz.func146 (by kernel_rfl) rfl) hc hH hb hs
theorem atsJ {P:Program} {E:Env} {y:Nat} (hE:EO P E) (hy:E.yn≤y):EO P (E.ats y) where
 sum:=hE.sum
 fns:=hE.fns
 eff:=fun y' hy'=>hE.eff y' (Nat.le_trans hy hy')
 dn:=hE.dn
 top:=fun k hk=>hE.top k (Nat.le_trans hy hk)
 yl:=fun y' k zs H o H' h hy' nt g F tmps w vs l hr hL hl hv=>by
  obtain ⟨fn,t1,as1,bd,h1,h2⟩:=hE.yl y' k zs H o H' h (Nat.le_trans hy hy') nt g F tmps w vs l (Rel.env (E:=E.ats y) (E':=E) rfl hr) hL hl hv
  exact ⟨fn,t1,as1,bd,h1,fun ro=>(h2 ro).mono fun e w' he=>yBg.env (E:=E) (E':=E.ats y) rfl he⟩
theorem kS:EO Tryz.prog (E ef0):=by
 refine yDw k0C ?_
 intro e h
 simp only [ef0,qAn,List.not_mem_nil,or_false] at h
 rcases h with rfl | rfl
 ·exact fun y0=>yIi yrL.s yt9 (fun x y=>by
  have h:=yEt [] ya8 x.2 y.2
  exact yGj kN hm (ybR (by kernel_rfl) _) (by kernel_rfl) (Ans.solo h)) (yps (atsJ (y:=y0) k0C (qBd _)) hm 60) (fun H=>by kernel_rfl) (fun H=>by kernel_rfl)
 ·exact fun y0=>yHz (z:=(.agg [(.int .i64 (0)),(.int .i64 (0)),(.int .i64 (0)),(.int .i64 (0))])) (by kernel_rfl) (fun _ _=>rfl) (yps (atsJ (y:=y0) k0C (qBd _)) hm 12)
end Go.Proofs.YtobbapakhillmaaGreat.Tk
