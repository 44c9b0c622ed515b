/- Part 8. -/
import Derived.Test.YtobbapakhillmaaGreatRows

import Derived.Test.YtobbapakhillmaaGreatTpW7
import Derived.WalkKit
import Derived.ProofKit
import Derived.OpenShut
import Derived.ReadAgain
import Derived.ChangeBears




import Derived.Shelf.SlSortCmp.WholeK
import Derived.Test.YtobbapakhillmaaGreatShelf
namespace Go.Proofs.YtobbapakhillmaaGreat.Tp
open Go Go.Pf Go.Pf.Vc Go.ChangeShapes Go.WideShapes Go.ChangeAt Go.RowKit Go.Shelf Go.Sort Go.Lib Go.Proofs
set_option maxRecDepth 100000
theorem yQS:yBq Tryz.prog tab:=by
 unfold tab
 simp only [yBq]
 exact ⟨⟨Tryz.f45,_,_,Tryz.func45,yaS (by kernel_rfl)⟩,⟨Tryz.f15,_,_,Tryz.func15,yaS (by kernel_rfl)⟩,⟨Tryz.f62,_,_,Tryz.func62,yaS (by kernel_rfl)⟩,⟨Tryz.f53,_,_,Tryz.func53,yaS (by kernel_rfl)⟩,⟨Tryz.f20,_,_,Tryz.func20,yaS (by kernel_rfl)⟩,⟨Tryz.f54,_,_,Tryz.func54,yaS (by kernel_rfl)⟩,⟨Tryz.f162,_,_,Tryz.func162,yaS (by kernel_rfl)⟩,⟨Tryz.f163,_,_,Tryz.func163,yaS (by kernel_rfl)⟩,⟨Tryz.f129,_,_,Tryz.func129,yaS (by kernel_rfl)⟩,⟨Tryz.f81,_,_,Tryz.func81,yaS (by kernel_rfl)⟩,⟨Tryz.f38,_,_,Tryz.func38,yaS (by kernel_rfl)⟩,⟨Tryz.f40,_,_,Tryz.func40,yaS (by kernel_rfl)⟩,⟨Tryz.f85,_,_,Tryz.func85,yaS (by kernel_rfl)⟩,⟨Tryz.f84,_,_,Tryz.func84,yaS (by kernel_rfl)⟩,⟨Tryz.f116,_,_,Tryz.func116,yaS (by kernel_rfl)⟩,⟨Tryz.f134,_,_,Tryz.func134,yaS (by kernel_rfl)⟩,⟨Tryz.f133,_,_,Tryz.func133,yaS (by kernel_rfl)⟩,⟨Tryz.f87,_,_,Tryz.func87,yaS (by kernel_rfl)⟩,⟨Tryz.f159,_,_,Tryz.func159,yaS (by kernel_rfl)⟩,⟨Tryz.f160,_,_,Tryz.func160,yaS (by kernel_rfl)⟩,⟨Tryz.f167,_,_,Tryz.func167,yaS (by kernel_rfl)⟩,⟨Tryz.f172,_,_,Tryz.func172,yaS (by kernel_rfl)⟩,⟨Tryz.f136,_,_,Tryz.func136,yaS (by kernel_rfl)⟩,⟨Tryz.f170,_,_,Tryz.func170,yaS (by kernel_rfl)⟩,⟨Tryz.f161,_,_,Tryz.func161,yaS (by kernel_rfl)⟩,⟨Tryz.f132,_,_,Tryz.func132,yaS (by kernel_rfl)⟩,⟨Tryz.f89,_,_,Tryz.func89,yaS (by kernel_rfl)⟩,⟨Tryz.f166,_,_,Tryz.func166,yaS (by kernel_rfl)⟩,⟨Tryz.f188,_,_,Tryz.func188,yaS (by kernel_rfl)⟩,⟨Tryz.f177,_,_,Tryz.func177,yaS (by kernel_rfl)⟩,⟨Tryz.f189,_,_,Tryz.func189,yaS (by kernel_rfl)⟩,⟨Tryz.f179,_,_,Tryz.func179,yaS (by kernel_rfl)⟩,⟨Tryz.f178,_,_,Tryz.func178,yaS (by kernel_rfl)⟩,⟨Tryz.f138,_,_,Tryz.func138,yaS (by kernel_rfl)⟩,⟨Tryz.f165,_,_,Tryz.func165,yaS (by kernel_rfl)⟩,⟨Tryz.f164,_,_,Tryz.func164,yaS (by kernel_rfl)⟩,⟨Tryz.f201,_,_,Tryz.func201,yaS (by kernel_rfl)⟩,⟨Tryz.f187,_,_,Tryz.func187,yaS (by kernel_rfl)⟩,⟨Tryz.f176,_,_,Tryz.func176,yaS (by kernel_rfl)⟩,⟨Tryz.f175,_,_,Tryz.func175,yaS (by kernel_rfl)⟩,⟨Tryz.f137,_,_,Tryz.func137,yaS (by kernel_rfl)⟩,⟨Tryz.f90,_,_,Tryz.func90,yaS (by kernel_rfl)⟩,⟨Tryz.f117,_,_,Tryz.func117,yaS (by kernel_rfl)⟩,⟨Tryz.f169,_,_,Tryz.func169,yaS (by kernel_rfl)⟩,⟨Tryz.f168,_,_,Tryz.func168,yaS (by kernel_rfl)⟩,⟨Tryz.f131,_,_,Tryz.func131,yaS (by kernel_rfl)⟩,⟨Tryz.f83,_,_,Tryz.func83,yaS (by kernel_rfl)⟩,⟨Tryz.f202,_,_,Tryz.func202,yaS (by kernel_rfl)⟩,⟨Tryz.f186,_,_,Tryz.func186,yaS (by kernel_rfl)⟩,⟨Tryz.f171,_,_,Tryz.func171,yaS (by kernel_rfl)⟩,⟨Tryz.f140,_,_,Tryz.func140,yaS (by kernel_rfl)⟩,⟨Tryz.f93,_,_,Tryz.func93,yaS (by kernel_rfl)⟩,⟨Tryz.f86,_,_,Tryz.func86,yaS (by kernel_rfl)⟩,⟨Tryz.f130,_,_,Tryz.func130,yaS (by kernel_rfl)⟩,⟨Tryz.f82,_,_,Tryz.func82,yaS (by kernel_rfl)⟩,⟨Tryz.f135,_,_,Tryz.func135,yaS (by kernel_rfl)⟩,⟨Tryz.f88,_,_,Tryz.func88,yaS (by kernel_rfl)⟩,⟨Tryz.f91,_,_,Tryz.func91,yaS (by kernel_rfl)⟩,⟨Tryz.f139,_,_,Tryz.func139,yaS (by kernel_rfl)⟩,⟨Tryz.f92,_,_,Tryz.func92,yaS (by kernel_rfl)⟩,⟨Tryz.f41,_,_,Tryz.func41,yaS (by kernel_rfl)⟩,⟨Tryz.f47,_,_,Tryz.func47,yaS (by kernel_rfl)⟩,⟨Tryz.f143,_,_,Tryz.func143,yaS (by kernel_rfl)⟩,⟨Tryz.f100,_,_,Tryz.func100,yaS (by kernel_rfl)⟩,⟨Tryz.f144,_,_,Tryz.func144,yaS (by kernel_rfl)⟩,⟨Tryz.f200,_,_,Tryz.func200,yaS (by kernel_rfl)⟩,⟨Tryz.f182,_,_,Tryz.func182,yaS (by kernel_rfl)⟩,⟨Tryz.f192,_,_,Tryz.func192,yaS (by kernel_rfl)⟩,⟨Tryz.f181,_,_,Tryz.func181,yaS (by kernel_rfl)⟩,⟨Tryz.f145,_,_,Tryz.func145,yaS (by kernel_rfl)⟩,⟨Tryz.f147,_,_,Tryz.func147,yaS (by kernel_rfl)⟩,⟨Tryz.f146,_,_,Tryz.func146,yaS (by kernel_rfl)⟩,⟨Tryz.f101,_,_,Tryz.func101,yaS (by kernel_rfl)⟩,⟨Tryz.f49,_,_,Tryz.func49,yaS (by kernel_rfl)⟩,⟨Tryz.f48,_,_,Tryz.func48,yaS (by kernel_rfl)⟩,⟨Tryz.f46,_,_,Tryz.func46,yaS (by kernel_rfl)⟩,⟨Tryz.f16,_,_,Tryz.func16,yaS (by kernel_rfl)⟩,⟨Tryz.f55,_,_,Tryz.func55,yaS (by kernel_rfl)⟩,⟨Tryz.f22,_,_,Tryz.func22,yaS (by kernel_rfl)⟩,⟨Tryz.f52,_,_,Tryz.func52,yaS (by kernel_rfl)⟩,⟨Tryz.f18,_,_,Tryz.func18,yaS (by kernel_rfl)⟩,⟨Tryz.f21,_,_,Tryz.func21,yaS (by kernel_rfl)⟩,⟨Tryz.f36,_,_,Tryz.func36,yaS (by kernel_rfl)⟩,⟨Tryz.f151,_,_,Tryz.func151,yaS (by kernel_rfl)⟩,⟨Tryz.f118,_,_,Tryz.func118,yaS (by kernel_rfl)⟩,⟨Tryz.f125,_,_,Tryz.func125,yaS (by kernel_rfl)⟩,⟨Tryz.f114,_,_,Tryz.func114,yaS (by kernel_rfl)⟩,⟨Tryz.f153,_,_,Tryz.func153,yaS (by kernel_rfl)⟩,⟨Tryz.f152,_,_,Tryz.func152,yaS (by kernel_rfl)⟩,⟨Tryz.f115,_,_,Tryz.func115,yaS (by kernel_rfl)⟩,⟨Tryz.f71,_,_,Tryz.func71,yaS (by kernel_rfl)⟩,⟨Tryz.f75,_,_,Tryz.func75,yaS (by kernel_rfl)⟩,⟨Tryz.f76,_,_,Tryz.func76,yaS (by kernel_rfl)⟩,⟨Tryz.f156,_,_,Tryz.func156,yaS (by kernel_rfl)⟩,⟨Tryz.f184,_,_,Tryz.func184,yaS (by kernel_rfl)⟩,⟨Tryz.f154,_,_,Tryz.func154,yaS (by kernel_rfl)⟩,⟨Tryz.f155,_,_,Tryz.func155,yaS (by kernel_rfl)⟩,⟨Tryz.f121,_,_,Tryz.func121,yaS (by kernel_rfl)⟩,⟨Tryz.f120,_,_,Tryz.func120,yaS (by kernel_rfl)⟩,⟨Tryz.f119,_,_,Tryz.func119,yaS (by kernel_rfl)⟩,⟨Tryz.f185,_,_,Tryz.func185,yaS (by kernel_rfl)⟩,⟨Tryz.f157,_,_,Tryz.func157,yaS (by kernel_rfl)⟩,⟨Tryz.f158,_,_,Tryz.func158,yaS (by kernel_rfl)⟩,⟨Tryz.f122,_,_,Tryz.func122,yaS (by kernel_rfl)⟩,⟨Tryz.f124,_,_,Tryz.func124,yaS (by kernel_rfl)⟩,⟨Tryz.f123,_,_,Tryz.func123,yaS (by kernel_rfl)⟩,⟨Tryz.f126,_,_,Tryz.func126,yaS (by kernel_rfl)⟩,⟨Tryz.f127,_,_,Tryz.func127,yaS (by kernel_rfl)⟩,⟨Tryz.f128,_,_,Tryz.func128,yaS (by kernel_rfl)⟩,⟨Tryz.f77,_,_,Tryz.func77,yaS (by kernel_rfl)⟩,⟨Tryz.f32,_,_,Tryz.func32,yaS (by kernel_rfl)⟩,⟨Tryz.f13,_,_,Tryz.func13,yaS (by kernel_rfl)⟩,⟨Tryz.f78,_,_,Tryz.func78,yaS (by kernel_rfl)⟩,⟨Tryz.f79,_,_,Tryz.func79,yaS (by kernel_rfl)⟩,⟨Tryz.f33,_,_,Tryz.func33,yaS (by kernel_rfl)⟩,⟨Tryz.f8,_,_,Tryz.func8,yaS (by kernel_rfl)⟩,trivial⟩
theorem hm:Tryz.prog.follows .mixedOrders=true:=by kernel_rfl
theorem yQT:IsExtern Tryz.prog yjF add64Entry:=⟨_,Tryz.func173,by kernel_rfl,by kernel_rfl,by kernel_rfl,by kernel_rfl⟩
theorem yQU:IsExtern Tryz.prog yjG yBs:=⟨_,Tryz.func174,by kernel_rfl,by kernel_rfl,by kernel_rfl,by kernel_rfl⟩
theorem dnE:dnL quiL=[ykG]:=by kernel_rfl
theorem k0C:EO Tryz.prog E0C:=by
 refine yMp hm yQT yQU yQS (fun n hn=>by rw [dnE] at hn;rw [qAv.1 hn];exact yFB Tryz.func40 (by decide) rfl rfl rfl rfl rfl rfl rfl rfl rfl rfl rfl rfl rfl rfl rfl (by decide) (by decide) (by decide) (by decide) (fun w=>by kernel_rfl)) ?_
 intro n e b h
 simp only [cloL,qAk,Prod.mk.injEq,qCb,or_false] at h
 rcases h with ⟨rfl,rfl,rfl⟩
 exact ⟨(.int .i64 (0)),by kernel_rfl⟩
theorem kN:EO Tryz.prog (E []):=yHw k0C fun e h=>by cases h
theorem yxI:SortsAt Tryz.prog yuZ.s yuZ.cf yuZ.srt where
 size:=fun d=>(pdq_sorts _ (yCO _ _) d 0 d.size (Go.Lib.bitLen d.size) true true (qBf _) (qAm _) (Or.inl rfl)).1.1
 pos:=by decide
 enters:=enters_of Tryz.func146 (by kernel_rfl) rfl
 entersN:=enters_of Tryz.func145 (by kernel_rfl) rfl
 law:=fun blk off cap d w hc hH hb hs=>AnyQ.slices_SortFunc_eq Tryz.sortSp 4 Tryz.isAgg31 Tryz.sizeOf31 yuZ.s.enc (fun x=>Srt.enc_len x) (fun x=>Srt.enc_one x) yuZ.cf (yCO _ _) 146 #[] blk off cap d w (enters_of Tryz.func146 (by kernel_rfl) rfl) hc hH hb hs
theorem ysw:SortsAt Tryz.prog yqF.s yqF.cf yqF.srt where
 size:=fun d=>(pdq_sorts _ (yCO _ _) d 0 d.size (Go.Lib.bitLen d.size) true true (qBf _) (qAm _) (Or.inl rfl)).1.1
 pos:=by decide
 enters:=enters_of Tryz.func158 (by kernel_rfl) rfl
 entersN:=enters_of Tryz.func145 (by kernel_rfl) rfl
 law:=fun blk off cap d w hc hH hb hs=>AnyQ.slices_SortFunc_eq Tryz.sortSp 4 Tryz.isAgg31 Tryz.sizeOf31 yqF.s.enc (fun x=>Srt.enc_len x) (fun x=>Srt.enc_one x) yqF.cf (yCO _ _) 158 #[] blk off cap d w (enters_of Tryz.func158 (by kernel_rfl) rfl) hc hH hb hs
theorem atsJ {P:Program} {E:Env} {y:Nat} (hE:EO P E) (hy:E.yn≤y):EO P (E.ats y) where
 sum:=hE.sum
 fns:=hE.fns
 eff:=fun y' hy'=>hE.eff y' (Nat.le_trans hy hy')
 dn:=hE.dn
 top:=fun k hk=>hE.top k (Nat.le_trans hy hk)
 yl:=fun y' k zs H o H' h hy' nt g F tmps w vs l hr hL hl hv=>by
  obtain ⟨fn,t1,as1,bd,h1,h2⟩:=hE.yl y' k zs H o H' h (Nat.le_trans hy hy') nt g F tmps w vs l (Rel.env (E:=E.ats y) (E':=E) rfl hr) hL hl hv
  exact ⟨fn,t1,as1,bd,h1,fun ro=>(h2 ro).mono fun e w' he=>yFq.env (E:=E) (E':=E.ats y) rfl he⟩
theorem kS:EO Tryz.prog (E ef0):=by
 refine yHw k0C ?_
 intro e h
 simp only [ef0,qAk,qCb,or_false] at h
 rcases h with rfl | rfl | rfl
 ·exact fun y0=>yFd yuZ.s yxI (fun x y=>by
  have h:=yH2 [] ybB x.2 y.2
  exact yFK kN hm (yaN (by kernel_rfl) _) (by kernel_rfl) (Ans.solo h)) (yol (atsJ (y:=y0) k0C (qBf _)) hm 60) (fun H=>by kernel_rfl) (fun H=>by kernel_rfl)
 ·exact fun y0=>yK6 (z:=(.agg [(.int .i64 (0)),(.int .i64 (0)),(.int .i64 (0)),(.int .i64 (0))])) (by kernel_rfl) (fun _ _=>rfl) (yol (atsJ (y:=y0) k0C (qBf _)) hm 12)
 ·exact fun y0=>yFd yqF.s ysw (fun x y=>by
  have h:=yNi [] ybB x.2 y.2
  exact yFK kN hm (yaN (by kernel_rfl) _) (by kernel_rfl) (Ans.solo h)) (yol (atsJ (y:=y0) k0C (qBf _)) hm 60) (fun H=>by kernel_rfl) (fun H=>by kernel_rfl)
end Go.Proofs.YtobbapakhillmaaGreat.Tp
