/- Part 3 of what the statement rests on: a verified evaluator over pure values, the conditions of the program's functions, and their plain laws. -/
import Derived.Test.YtegkpannhahmcaaGreatPiW2
namespace Go.Pf.Vc
open Go Go.Pf
set_option maxRecDepth 100000
theorem yBT (e:List (Nat×EffF)) (_:EG e):LpOk (E e) (yfP ya7) yke:=(yag (by kernel_rfl))
theorem yAk (e:List (Nat×EffF)) (he:EG e):∀ F H Q,yfP ya7 60530101 F H Q→LoopT (E e) yke F H Q:=by
 intro F H Q h
 have go:=LoopT.intro (yaC (yrP e he) 5) (yBT e he) (ylB ya7 Q) (by
   intro F H h
   unfold ylB yiD at h
   split at h
   · exact h
   · exact h
   · exact h) (by
   intro n F H h
   unfold ylB yiD at h
   split at h
   · exact (yxw ..).mpr h
   · exact (yxx ..).mpr h
   · exact h.elim)
 have h:yiD F H _ _:=h
 unfold yiD at h
 split at h
 · obtain ⟨n,h⟩:=h;exact go n _ _ h
 · obtain ⟨n,h⟩:=h;exact go n _ _ h
 · exact h.elim
theorem yIq (e:List (Nat×EffF)) (a0 p0 p1 p2 K):WP (ykn e a0) 6 yKh [(.int .u64 p0),(.int .u64 p1),(.int .u64 p2)] K=yuL a0 p0 p1 p2 (fun r0 r1=>K (.tup [(.int .u64 r0),(.int .u64 r1)])):=by kernel_rfl
theorem yAl (e:List (Nat×EffF)) (he:EG e):OkF (E e) yAi ykb:=by
 intro as K h
 unfold yAi ypW at h
 split at h
 · exact WP_ok (yrP e he) (ya8 (l:=[(60530100,ykd),(60530101,yke)]) ⟨yAj e he,yAk e he,trivial⟩ (by kernel_rfl)) (by kernel_rfl) (by kernel_rfl) (fun _=>yab (by kernel_rfl) _) (he.num _ (by kernel_rfl)) ((yIq ..).mpr h)
 · exact h.elim
abbrev ys0:Type:=Int→Int→Int→(Int→Prop)→Prop
def yuM (a0:ykm) (p0 p1 p2:Int) (K:Int→Prop):Prop :=
 (asr (!(decide (p2=(0:Int))))
 (a0 (Int.tmod p0 p2) p1 p2 (fun _ yi1 =>
 (K yi1))))
def yiE (p0 p1 p2:Int) (K:Int→Prop):Prop:=yuM ygj p0 p1 p2 K
def yuN (w:ys0) (as:List PV) (K:PV→Prop):Prop :=
 match as with
 | [(.int .u64 p0),(.int .u64 p1),(.int .u64 p2)]=>w p0 p1 p2 (fun r0=>K (.int .u64 r0))
 | _=>False
def yAm (as:List PV) (K:PV→Prop):Prop:=yuN yiE as K
def yIr (_:ykm):LP:=fun _ _ _ _ =>
 False
def yAn (e:List (Nat×EffF)) (a0:ykm):SE:=⟨(E e),lookS [(ykb,ypW a0)],lookI [],yIr a0⟩
theorem yGo (e:List (Nat×EffF)) (he:EG e):SEOk (yAn e ygj):=yam ⟨(yAl e he),trivial⟩ trivial he.ok
theorem yIs (e:List (Nat×EffF)) (a0 p0 p1 p2 K):WP (yAn e a0) 6 yKi [(.int .u64 p0),(.int .u64 p1),(.int .u64 p2)] K=yuM a0 p0 p1 p2 (fun r0=>K (.int .u64 r0)):=by kernel_rfl
theorem yIt (e:List (Nat×EffF)) (he:EG e):OkF (E e) yAm ypg:=by
 intro as K h
 unfold yAm yuN at h
 split at h
 · exact WP_ok (yGo e he) (yag (by kernel_rfl)) (by kernel_rfl) (by kernel_rfl) (fun _=>yab (by kernel_rfl) _) (he.num _ (by kernel_rfl)) ((yIs ..).mpr h)
 · exact h.elim
abbrev ycr:Type:=Bool→Int→Int→(Int→Int→Int→Prop)→Prop
def ylO (p0:Bool) (p1 p2:Int) (K:Int→Int→Int→Prop):Prop :=
 (cbr (decide ((if p2>p1 then p2 else p1)>(1000000000000000000:Int)))
 (K (0:Int) (0:Int) (16:Int))
 (cbr p0
 (K (IntKind.i64.wrap ((0:Int)-(IntKind.i64.wrap p1))) (IntKind.i64.wrap p2) (0:Int))
 (K (IntKind.i64.wrap p1) (IntKind.i64.wrap p2) (0:Int))))
def ybD (p0:Bool) (p1 p2:Int) (K:Int→Int→Int→Prop):Prop:=ylO p0 p1 p2 K
def yf7 (w:ycr) (as:List PV) (K:PV→Prop):Prop :=
 match as with
 | [(.bool p0),(.int .u64 p1),(.int .u64 p2)]=>w p0 p1 p2 (fun r0 r1 r2=>K (.tup [(.agg [(.int .i64 r0),(.int .i64 r1)]),(.int .i64 r2)]))
 | _=>False
def yrc (as:List PV) (K:PV→Prop):Prop:=yf7 ybD as K
def yyU:LP:=fun _ _ _ _ =>
 False
def yrd (e:List (Nat×EffF)):SE:=⟨(E e),lookS [],lookI [],yyU⟩
theorem yxy (e:List (Nat×EffF)) (he:EG e):SEOk (yrd e):=yam trivial trivial he.ok
theorem yyV (e:List (Nat×EffF)) ( p0 p1 p2 K):WP (yrd e) 6 yz8 [(.bool p0),(.int .u64 p1),(.int .u64 p2)] K=ylO p0 p1 p2 (fun r0 r1 r2=>K (.tup [(.agg [(.int .i64 r0),(.int .i64 r1)]),(.int .i64 r2)])):=by kernel_rfl
theorem ylP (e:List (Nat×EffF)) (he:EG e):OkF (E e) yrc ycP:=by
 intro as K h
 unfold yrc yf7 at h
 split at h
 · exact WP_ok (yxy e he) (yag (by kernel_rfl)) (by kernel_rfl) (by kernel_rfl) (fun _=>yab (by kernel_rfl) _) (he.num _ (by kernel_rfl)) ((yyV ..).mpr h)
 · exact h.elim
abbrev ybW:Type:=Int→Int→Int→Int→(Int→Int→Int→Prop)→Prop
def ypX (a0:ybj) (a1:ycB) (a2:ybv) (a3:ygh) (a4:yxq) (a5:ys0) (a6:ykm) (a7:ycr) (a8:yxr) (p0 p1 p2 p3:Int) (K:Int→Int→Int→Prop):Prop :=
 (a0 p0 p1 p2 p3 (fun yi0 =>
 (cbr (yi0 !=(0:Int))
 (K (0:Int) (0:Int) yi0)
 (a1 (IntKind.u64.wrap p1) (IntKind.u64.wrap p3) (fun yi1 =>
 (a2 p0 (fun yi2 =>
 (asr (!(decide (yi1=(0:Int))))
 (a3 yi2 (IntKind.u64.wrap (Int.tdiv (IntKind.u64.wrap p3) yi1)) (fun yi3 yi4 =>
 (a2 p2 (fun yi5 =>
 (asr (!(decide (yi1=(0:Int))))
 (a3 yi5 (IntKind.u64.wrap (Int.tdiv (IntKind.u64.wrap p1) yi1)) (fun yi6 yi7 =>
 (cbr ((decide (p0<(0:Int))) ==(decide (p2<(0:Int))))
 (a4 yi4 yi7 (0:Int) (fun yi8 yi9 =>
 (a4 yi3 yi6 yi9 (fun yi10 _ =>
 (cbr (yi10 ==(0:Int))
 (cbr (yi8 ==(0:Int))
 (K (0:Int) (1:Int) (0:Int))
 (a5 yi10 yi8 yi1 (fun yi12 =>
 (a1 yi12 yi1 (fun yi13 =>
 (cbr (decide (yi10≥yi13))
 (K (0:Int) (0:Int) (16:Int))
 (a6 yi10 yi8 yi13 (fun yi14 _ =>
 (asr (!(decide (yi1=(0:Int))))
 (asr (!(decide (yi13=(0:Int))))
 (a3 (IntKind.u64.wrap (Int.tdiv (IntKind.u64.wrap p1) yi1)) (IntKind.u64.wrap (Int.tdiv (IntKind.u64.wrap p3) yi13)) (fun yi16 yi17 =>
 (cbr (decide (yi16>(0:Int)))
 (K (0:Int) (0:Int) (16:Int))
 (a7 (decide (p0<(0:Int))) yi14 yi17 (fun yi18 yi19 yi20 =>
 (K yi18 yi19 yi20))))))))))))))))
 (a5 yi10 yi8 yi1 (fun yi21 =>
 (a1 yi21 yi1 (fun yi22 =>
 (cbr (decide (yi10≥yi22))
 (K (0:Int) (0:Int) (16:Int))
 (a6 yi10 yi8 yi22 (fun yi23 _ =>
 (asr (!(decide (yi1=(0:Int))))
 (asr (!(decide (yi22=(0:Int))))
 (a3 (IntKind.u64.wrap (Int.tdiv (IntKind.u64.wrap p1) yi1)) (IntKind.u64.wrap (Int.tdiv (IntKind.u64.wrap p3) yi22)) (fun yi25 yi26 =>
 (cbr (decide (yi25>(0:Int)))
 (K (0:Int) (0:Int) (16:Int))
 (a7 (decide (p0<(0:Int))) yi23 yi26 (fun yi27 yi28 yi29 =>
 (K yi27 yi28 yi29))))))))))))))))))))
 (cbr (decide (yi3<yi6))
 (a8 yi7 yi4 (0:Int) (fun yi30 yi31 =>
 (a8 yi6 yi3 yi31 (fun yi32 _ =>
 (cbr (yi32 ==(0:Int))
 (cbr (yi30 ==(0:Int))
 (K (0:Int) (1:Int) (0:Int))
 (a5 yi32 yi30 yi1 (fun yi34 =>
 (a1 yi34 yi1 (fun yi35 =>
 (cbr (decide (yi32≥yi35))
 (K (0:Int) (0:Int) (16:Int))
 (a6 yi32 yi30 yi35 (fun yi36 _ =>
 (asr (!(decide (yi1=(0:Int))))
 (asr (!(decide (yi35=(0:Int))))
 (a3 (IntKind.u64.wrap (Int.tdiv (IntKind.u64.wrap p1) yi1)) (IntKind.u64.wrap (Int.tdiv (IntKind.u64.wrap p3) yi35)) (fun yi38 yi39 =>
 (cbr (decide (yi38>(0:Int)))
 (K (0:Int) (0:Int) (16:Int))
 (a7 (!(decide (p0<(0:Int)))) yi36 yi39 (fun yi40 yi41 yi42 =>
 (K yi40 yi41 yi42))))))))))))))))
 (a5 yi32 yi30 yi1 (fun yi43 =>
 (a1 yi43 yi1 (fun yi44 =>
 (cbr (decide (yi32≥yi44))
 (K (0:Int) (0:Int) (16:Int))
 (a6 yi32 yi30 yi44 (fun yi45 _ =>
 (asr (!(decide (yi1=(0:Int))))
 (asr (!(decide (yi44=(0:Int))))
 (a3 (IntKind.u64.wrap (Int.tdiv (IntKind.u64.wrap p1) yi1)) (IntKind.u64.wrap (Int.tdiv (IntKind.u64.wrap p3) yi44)) (fun yi47 yi48 =>
 (cbr (decide (yi47>(0:Int)))
 (K (0:Int) (0:Int) (16:Int))
 (a7 (!(decide (p0<(0:Int)))) yi45 yi48 (fun yi49 yi50 yi51 =>
 (K yi49 yi50 yi51))))))))))))))))))))
 (cbr (yi3 == yi6)
 (cbr (decide (yi4<yi7))
 (a8 yi7 yi4 (0:Int) (fun yi52 yi53 =>
 (a8 yi6 yi3 yi53 (fun yi54 _ =>
 (cbr (yi54 ==(0:Int))
 (cbr (yi52 ==(0:Int))
 (K (0:Int) (1:Int) (0:Int))
 (a5 yi54 yi52 yi1 (fun yi56 =>
 (a1 yi56 yi1 (fun yi57 =>
 (cbr (decide (yi54≥yi57))
 (K (0:Int) (0:Int) (16:Int))
 (a6 yi54 yi52 yi57 (fun yi58 _ =>
 (asr (!(decide (yi1=(0:Int))))
 (asr (!(decide (yi57=(0:Int))))
 (a3 (IntKind.u64.wrap (Int.tdiv (IntKind.u64.wrap p1) yi1)) (IntKind.u64.wrap (Int.tdiv (IntKind.u64.wrap p3) yi57)) (fun yi60 yi61 =>
 (cbr (decide (yi60>(0:Int)))
 (K (0:Int) (0:Int) (16:Int))
 (a7 (!(decide (p0<(0:Int)))) yi58 yi61 (fun yi62 yi63 yi64 =>
 (K yi62 yi63 yi64))))))))))))))))
 (a5 yi54 yi52 yi1 (fun yi65 =>
 (a1 yi65 yi1 (fun yi66 =>
 (cbr (decide (yi54≥yi66))
 (K (0:Int) (0:Int) (16:Int))
 (a6 yi54 yi52 yi66 (fun yi67 _ =>
 (asr (!(decide (yi1=(0:Int))))
 (asr (!(decide (yi66=(0:Int))))
 (a3 (IntKind.u64.wrap (Int.tdiv (IntKind.u64.wrap p1) yi1)) (IntKind.u64.wrap (Int.tdiv (IntKind.u64.wrap p3) yi66)) (fun yi69 yi70 =>
 (cbr (decide (yi69>(0:Int)))
 (K (0:Int) (0:Int) (16:Int))
 (a7 (!(decide (p0<(0:Int)))) yi67 yi70 (fun yi71 yi72 yi73 =>
 (K yi71 yi72 yi73))))))))))))))))))))
 (a8 yi4 yi7 (0:Int) (fun yi74 yi75 =>
 (a8 yi3 yi6 yi75 (fun yi76 _ =>
 (cbr (yi76 ==(0:Int))
 (cbr (yi74 ==(0:Int))
 (K (0:Int) (1:Int) (0:Int))
 (a5 yi76 yi74 yi1 (fun yi78 =>
 (a1 yi78 yi1 (fun yi79 =>
 (cbr (decide (yi76≥yi79))
 (K (0:Int) (0:Int) (16:Int))
 (a6 yi76 yi74 yi79 (fun yi80 _ =>
 (asr (!(decide (yi1=(0:Int))))
 (asr (!(decide (yi79=(0:Int))))
 (a3 (IntKind.u64.wrap (Int.tdiv (IntKind.u64.wrap p1) yi1)) (IntKind.u64.wrap (Int.tdiv (IntKind.u64.wrap p3) yi79)) (fun yi82 yi83 =>
 (cbr (decide (yi82>(0:Int)))
 (K (0:Int) (0:Int) (16:Int))
 (a7 (decide (p0<(0:Int))) yi80 yi83 (fun yi84 yi85 yi86 =>
 (K yi84 yi85 yi86))))))))))))))))
 (a5 yi76 yi74 yi1 (fun yi87 =>
 (a1 yi87 yi1 (fun yi88 =>
 (cbr (decide (yi76≥yi88))
 (K (0:Int) (0:Int) (16:Int))
 (a6 yi76 yi74 yi88 (fun yi89 _ =>
 (asr (!(decide (yi1=(0:Int))))
 (asr (!(decide (yi88=(0:Int))))
 (a3 (IntKind.u64.wrap (Int.tdiv (IntKind.u64.wrap p1) yi1)) (IntKind.u64.wrap (Int.tdiv (IntKind.u64.wrap p3) yi88)) (fun yi91 yi92 =>
 (cbr (decide (yi91>(0:Int)))
 (K (0:Int) (0:Int) (16:Int))
 (a7 (decide (p0<(0:Int))) yi89 yi92 (fun yi93 yi94 yi95 =>
 (K yi93 yi94 yi95)))))))))))))))))))))
 (a8 yi4 yi7 (0:Int) (fun yi96 yi97 =>
 (a8 yi3 yi6 yi97 (fun yi98 _ =>
 (cbr (yi98 ==(0:Int))
 (cbr (yi96 ==(0:Int))
 (K (0:Int) (1:Int) (0:Int))
 (a5 yi98 yi96 yi1 (fun yi100 =>
 (a1 yi100 yi1 (fun yi101 =>
 (cbr (decide (yi98≥yi101))
 (K (0:Int) (0:Int) (16:Int))
 (a6 yi98 yi96 yi101 (fun yi102 _ =>
 (asr (!(decide (yi1=(0:Int))))
 (asr (!(decide (yi101=(0:Int))))
 (a3 (IntKind.u64.wrap (Int.tdiv (IntKind.u64.wrap p1) yi1)) (IntKind.u64.wrap (Int.tdiv (IntKind.u64.wrap p3) yi101)) (fun yi104 yi105 =>
 (cbr (decide (yi104>(0:Int)))
 (K (0:Int) (0:Int) (16:Int))
 (a7 (decide (p0<(0:Int))) yi102 yi105 (fun yi106 yi107 yi108 =>
 (K yi106 yi107 yi108))))))))))))))))
 (a5 yi98 yi96 yi1 (fun yi109 =>
 (a1 yi109 yi1 (fun yi110 =>
 (cbr (decide (yi98≥yi110))
 (K (0:Int) (0:Int) (16:Int))
 (a6 yi98 yi96 yi110 (fun yi111 _ =>
 (asr (!(decide (yi1=(0:Int))))
 (asr (!(decide (yi110=(0:Int))))
 (a3 (IntKind.u64.wrap (Int.tdiv (IntKind.u64.wrap p1) yi1)) (IntKind.u64.wrap (Int.tdiv (IntKind.u64.wrap p3) yi110)) (fun yi113 yi114 =>
 (cbr (decide (yi113>(0:Int)))
 (K (0:Int) (0:Int) (16:Int))
 (a7 (decide (p0<(0:Int))) yi111 yi114 (fun yi115 yi116 yi117 =>
 (K yi115 yi116 yi117))))))))))))))))))))))))))))))))))))))
def yaE (p0 p1 p2 p3:Int) (K:Int→Int→Int→Prop):Prop:=ypX ybG ybI ycc yeu yj8 yiE ygj ybD yka p0 p1 p2 p3 K
def yht (w:ybW) (as:List PV) (K:PV→Prop):Prop :=
 match as with
 | [(.agg [(.int .i64 p0),(.int .i64 p1)]),(.agg [(.int .i64 p2),(.int .i64 p3)])]=>w p0 p1 p2 p3 (fun r0 r1 r2=>K (.tup [(.agg [(.int .i64 r0),(.int .i64 r1)]),(.int .i64 r2)]))
 | _=>False
def yvP (as:List PV) (K:PV→Prop):Prop:=yht yaE as K
def yEg (_:ybj) (_:ycB) (_:ybv) (_:ygh) (_:yxq) (_:ys0) (_:ykm) (_:ycr) (_:yxr):LP:=fun _ _ _ _ =>
 False
def yvQ (e:List (Nat×EffF)) (a0:ybj) (a1:ycB) (a2:ybv) (a3:ygh) (a4:yxq) (a5:ys0) (a6:ykm) (a7:ycr) (a8:yxr):SE:=⟨(E e),lookS [(ybF,yem a0),(ycy,yhr a1),(ybh,yeV a2),(yec,ynC a3),(yiy,yuv a4),(ypg,yuN a5),(ykb,ypW a6),(ycP,yf7 a7),(yiz,yux a8)],lookI [],yEg a0 a1 a2 a3 a4 a5 a6 a7 a8⟩
theorem yBU (e:List (Nat×EffF)) (he:EG e):SEOk (yvQ e ybG ybI ycc yeu yj8 yiE ygj ybD yka):=yam ⟨(yg4 e he),(ymv e he),(yhY e he),(yuI e he),(yIj e he),(yIt e he),(yAl e he),(ylP e he),(yIk e he),trivial⟩ trivial he.ok
theorem yEh (e:List (Nat×EffF)) (a0 a1 a2 a3 a4 a5 a6 a7 a8 p0 p1 p2 p3 K):WP (yvQ e a0 a1 a2 a3 a4 a5 a6 a7 a8) 6 yGe [(.agg [(.int .i64 p0),(.int .i64 p1)]),(.agg [(.int .i64 p2),(.int .i64 p3)])] K=ypX a0 a1 a2 a3 a4 a5 a6 a7 a8 p0 p1 p2 p3 (fun r0 r1 r2=>K (.tup [(.agg [(.int .i64 r0),(.int .i64 r1)]),(.int .i64 r2)])):=by kernel_rfl
theorem yji (e:List (Nat×EffF)) (he:EG e):OkF (E e) yvP yd3:=by
 intro as K h
 unfold yvP yht at h
 split at h
 · exact WP_ok (yBU e he) (yag (by kernel_rfl)) (by kernel_rfl) (by kernel_rfl) (fun _=>yab (by kernel_rfl) _) (he.num _ (by kernel_rfl)) ((yEh ..).mpr h)
 · exact h.elim
abbrev yiF:Type:=Int→Int→Int→Int→(Int→Int→Int→Prop)→Prop
def ypY (a0:ybj) (a1:ybW) (p0 p1 p2 p3:Int) (K:Int→Int→Int→Prop):Prop :=
 (a0 p0 p1 p2 p3 (fun yi0 =>
 (cbr (yi0 !=(0:Int))
 (K (0:Int) (0:Int) yi0)
 (a1 p0 p1 (IntKind.i64.wrap ((0:Int)-p2)) p3 (fun yi1 yi2 yi3 =>
 (K yi1 yi2 yi3))))))
def yc0 (p0 p1 p2 p3:Int) (K:Int→Int→Int→Prop):Prop:=ypY ybG yaE p0 p1 p2 p3 K
def ypZ (w:yiF) (as:List PV) (K:PV→Prop):Prop :=
 match as with
 | [(.agg [(.int .i64 p0),(.int .i64 p1)]),(.agg [(.int .i64 p2),(.int .i64 p3)])]=>w p0 p1 p2 p3 (fun r0 r1 r2=>K (.tup [(.agg [(.int .i64 r0),(.int .i64 r1)]),(.int .i64 r2)]))
 | _=>False
def yvR (as:List PV) (K:PV→Prop):Prop:=ypZ yc0 as K
def yEi (_:ybj) (_:ybW):LP:=fun _ _ _ _ =>
 False
def yvS (e:List (Nat×EffF)) (a0:ybj) (a1:ybW):SE:=⟨(E e),lookS [(ybF,yem a0),(yd3,yht a1)],lookI [],yEi a0 a1⟩
theorem yBV (e:List (Nat×EffF)) (he:EG e):SEOk (yvS e ybG yaE):=yam ⟨(yg4 e he),(yji e he),trivial⟩ trivial he.ok
theorem yEj (e:List (Nat×EffF)) (a0 a1 p0 p1 p2 p3 K):WP (yvS e a0 a1) 6 yGf [(.agg [(.int .i64 p0),(.int .i64 p1)]),(.agg [(.int .i64 p2),(.int .i64 p3)])] K=ypY a0 a1 p0 p1 p2 p3 (fun r0 r1 r2=>K (.tup [(.agg [(.int .i64 r0),(.int .i64 r1)]),(.int .i64 r2)])):=by kernel_rfl
theorem yvT (e:List (Nat×EffF)) (he:EG e):OkF (E e) yvR ylw:=by
 intro as K h
 unfold yvR ypZ at h
 split at h
 · exact WP_ok (yBV e he) (yag (by kernel_rfl)) (by kernel_rfl) (by kernel_rfl) (fun _=>yab (by kernel_rfl) _) (he.num _ (by kernel_rfl)) ((yEj ..).mpr h)
 · exact h.elim
abbrev yeJ:Type:=Int→Int→Int→Int→(Int→Int→Int→Prop)→Prop
def yp0 (a0:ybj) (a1:ybv) (a2:ycB) (a3:ygh) (a4:ycr) (p0 p1 p2 p3:Int) (K:Int→Int→Int→Prop):Prop :=
 (a0 p0 p1 p2 p3 (fun yi0 =>
 (cbr (yi0 !=(0:Int))
 (K (0:Int) (0:Int) yi0)
 (a1 p0 (fun yi1 =>
 (a1 p2 (fun yi2 =>
 (a2 yi1 (IntKind.u64.wrap p3) (fun yi3 =>
 (a2 yi2 (IntKind.u64.wrap p1) (fun yi4 =>
 (asr (!(decide (yi3=(0:Int))))
 (asr (!(decide (yi4=(0:Int))))
 (a3 (IntKind.u64.wrap (Int.tdiv yi1 yi3)) (IntKind.u64.wrap (Int.tdiv yi2 yi4)) (fun yi5 yi6 =>
 (asr (!(decide (yi4=(0:Int))))
 (asr (!(decide (yi3=(0:Int))))
 (a3 (IntKind.u64.wrap (Int.tdiv (IntKind.u64.wrap p1) yi4)) (IntKind.u64.wrap (Int.tdiv (IntKind.u64.wrap p3) yi3)) (fun yi7 yi8 =>
 (cbr (decide ((IntKind.u64.wrap (yi5+yi7))>(0:Int)))
 (K (0:Int) (0:Int) (16:Int))
 (cbr (decide (yi6>(0:Int)))
 (a4 ((decide (p0<(0:Int))) !=(decide (p2<(0:Int)))) yi6 yi8 (fun yi9 yi10 yi11 =>
 (K yi9 yi10 yi11)))
 (a4 false yi6 yi8 (fun yi12 yi13 yi14 =>
 (K yi12 yi13 yi14))))))))))))))))))))))))
def yci (p0 p1 p2 p3:Int) (K:Int→Int→Int→Prop):Prop:=yp0 ybG ycc ybI yeu ybD p0 p1 p2 p3 K
def ymx (w:yeJ) (as:List PV) (K:PV→Prop):Prop :=
 match as with
 | [(.agg [(.int .i64 p0),(.int .i64 p1)]),(.agg [(.int .i64 p2),(.int .i64 p3)])]=>w p0 p1 p2 p3 (fun r0 r1 r2=>K (.tup [(.agg [(.int .i64 r0),(.int .i64 r1)]),(.int .i64 r2)]))
 | _=>False
def yvU (as:List PV) (K:PV→Prop):Prop:=ymx yci as K
def yEk (_:ybj) (_:ybv) (_:ycB) (_:ygh) (_:ycr):LP:=fun _ _ _ _ =>
 False
def yvV (e:List (Nat×EffF)) (a0:ybj) (a1:ybv) (a2:ycB) (a3:ygh) (a4:ycr):SE:=⟨(E e),lookS [(ybF,yem a0),(ybh,yeV a1),(ycy,yhr a2),(yec,ynC a3),(ycP,yf7 a4)],lookI [],yEk a0 a1 a2 a3 a4⟩
theorem yBW (e:List (Nat×EffF)) (he:EG e):SEOk (yvV e ybG ycc ybI yeu ybD):=yam ⟨(yg4 e he),(yhY e he),(ymv e he),(yuI e he),(ylP e he),trivial⟩ trivial he.ok
theorem yEl (e:List (Nat×EffF)) (a0 a1 a2 a3 a4 p0 p1 p2 p3 K):WP (yvV e a0 a1 a2 a3 a4) 6 yGg [(.agg [(.int .i64 p0),(.int .i64 p1)]),(.agg [(.int .i64 p2),(.int .i64 p3)])] K=yp0 a0 a1 a2 a3 a4 p0 p1 p2 p3 (fun r0 r1 r2=>K (.tup [(.agg [(.int .i64 r0),(.int .i64 r1)]),(.int .i64 r2)])):=by kernel_rfl
theorem yp1 (e:List (Nat×EffF)) (he:EG e):OkF (E e) yvU yfz:=by
 intro as K h
 unfold yvU ymx at h
 split at h
 · exact WP_ok (yBW e he) (yag (by kernel_rfl)) (by kernel_rfl) (by kernel_rfl) (fun _=>yab (by kernel_rfl) _) (he.num _ (by kernel_rfl)) ((yEl ..).mpr h)
 · exact h.elim
abbrev ybr:Type:=Int→Int→Int→Int→(Int→Int→Int→Prop)→Prop
def yp2 (a0:ybj) (a1:yeJ) (p0 p1 p2 p3:Int) (K:Int→Int→Int→Prop):Prop :=
 (a0 p0 p1 p2 p3 (fun yi0 =>
 (cbr (yi0 !=(0:Int))
 (K (0:Int) (0:Int) yi0)
 (cbr (p2 ==(0:Int))
 (K (0:Int) (0:Int) (18:Int))
 (cbr (decide (p2<(0:Int)))
 (a1 p0 p1 (IntKind.i64.wrap ((0:Int)-p3)) (IntKind.i64.wrap ((0:Int)-p2)) (fun yi1 yi2 yi3 =>
 (K yi1 yi2 yi3)))
 (a1 p0 p1 p3 p2 (fun yi4 yi5 yi6 =>
 (K yi4 yi5 yi6))))))))
def yaS (p0 p1 p2 p3:Int) (K:Int→Int→Int→Prop):Prop:=yp2 ybG yci p0 p1 p2 p3 K
def yhu (w:ybr) (as:List PV) (K:PV→Prop):Prop :=
 match as with
 | [(.agg [(.int .i64 p0),(.int .i64 p1)]),(.agg [(.int .i64 p2),(.int .i64 p3)])]=>w p0 p1 p2 p3 (fun r0 r1 r2=>K (.tup [(.agg [(.int .i64 r0),(.int .i64 r1)]),(.int .i64 r2)]))
 | _=>False
def yvW (as:List PV) (K:PV→Prop):Prop:=yhu yaS as K
def yEm (_:ybj) (_:yeJ):LP:=fun _ _ _ _ =>
 False
def yvX (e:List (Nat×EffF)) (a0:ybj) (a1:yeJ):SE:=⟨(E e),lookS [(ybF,yem a0),(yfz,ymx a1)],lookI [],yEm a0 a1⟩
theorem yBX (e:List (Nat×EffF)) (he:EG e):SEOk (yvX e ybG yci):=yam ⟨(yg4 e he),(yp1 e he),trivial⟩ trivial he.ok
theorem yEn (e:List (Nat×EffF)) (a0 a1 p0 p1 p2 p3 K):WP (yvX e a0 a1) 6 yGi [(.agg [(.int .i64 p0),(.int .i64 p1)]),(.agg [(.int .i64 p2),(.int .i64 p3)])] K=yp2 a0 a1 p0 p1 p2 p3 (fun r0 r1 r2=>K (.tup [(.agg [(.int .i64 r0),(.int .i64 r1)]),(.int .i64 r2)])):=by kernel_rfl
theorem yjj (e:List (Nat×EffF)) (he:EG e):OkF (E e) yvW yfA:=by
 intro as K h
 unfold yvW yhu at h
 split at h
 · exact WP_ok (yBX e he) (yag (by kernel_rfl)) (by kernel_rfl) (by kernel_rfl) (fun _=>yab (by kernel_rfl) _) (he.num _ (by kernel_rfl)) ((yEn ..).mpr h)
 · exact h.elim
abbrev ybn:Type:=Int→Int→(Int→Int→Int→Prop)→Prop
def yoE (a0:ybv) (a1:ycB) (a2:ycr) (p0 p1:Int) (K:Int→Int→Int→Prop):Prop :=
 (cbr (p1 ==(0:Int))
 (K (0:Int) (0:Int) (18:Int))
 (a0 p0 (fun yi0 =>
 (a0 p1 (fun yi1 =>
 (a1 yi0 yi1 (fun yi2 =>
 (asr (!(decide (yi2=(0:Int))))
 (asr (!(decide (yi2=(0:Int))))
 (a2 ((decide (p0<(0:Int))) !=(decide (p1<(0:Int)))) (IntKind.u64.wrap (Int.tdiv yi0 yi2)) (IntKind.u64.wrap (Int.tdiv yi1 yi2)) (fun yi3 yi4 yi5 =>
 (K yi3 yi4 yi5))))))))))))
def yaj (p0 p1:Int) (K:Int→Int→Int→Prop):Prop:=yoE ycc ybI ybD p0 p1 K
def ykY (w:ybn) (as:List PV) (K:PV→Prop):Prop :=
 match as with
 | [(.int .i64 p0),(.int .i64 p1)]=>w p0 p1 (fun r0 r1 r2=>K (.tup [(.agg [(.int .i64 r0),(.int .i64 r1)]),(.int .i64 r2)]))
 | _=>False
def ytX (as:List PV) (K:PV→Prop):Prop:=ykY yaj as K
def yBY (_:ybv) (_:ycB) (_:ycr):LP:=fun _ _ _ _ =>
 False
def ytY (e:List (Nat×EffF)) (a0:ybv) (a1:ycB) (a2:ycr):SE:=⟨(E e),lookS [(ybh,yeV a0),(ycy,yhr a1),(ycP,yf7 a2)],lookI [],yBY a0 a1 a2⟩
theorem yAo (e:List (Nat×EffF)) (he:EG e):SEOk (ytY e ycc ybI ybD):=yam ⟨(yhY e he),(ymv e he),(ylP e he),trivial⟩ trivial he.ok
theorem yBZ (e:List (Nat×EffF)) (a0 a1 a2 p0 p1 K):WP (ytY e a0 a1 a2) 6 yEb [(.int .i64 p0),(.int .i64 p1)] K=yoE a0 a1 a2 p0 p1 (fun r0 r1 r2=>K (.tup [(.agg [(.int .i64 r0),(.int .i64 r1)]),(.int .i64 r2)])):=by kernel_rfl
theorem yoF (e:List (Nat×EffF)) (he:EG e):OkF (E e) ytX yhp:=by
 intro as K h
 unfold ytX ykY at h
 split at h
 · exact WP_ok (yAo e he) (yag (by kernel_rfl)) (by kernel_rfl) (by kernel_rfl) (fun _=>yab (by kernel_rfl) _) (he.num _ (by kernel_rfl)) ((yBZ ..).mpr h)
 · exact h.elim
end Go.Pf.Vc
namespace Go.Pf.Vc
open Go Go.Pf
set_option linter.unusedVariables false
theorem yyW (p0:Int) (p1:Int) (r0:Int) (h:∀ K:Int→Prop,K r0→ycL p0 p1 K) (K:Int→Prop):ycL p0 p1 K=K r0 :=
 propext ⟨fun k=>detC (yny [] ybg) (as:=[(.agg [(.int .i64 p0),(.int .i64 p1)])]) (x:=(.int .i64 r0)) (fun K' k'=>h (fun r0=>K' (.int .i64 r0)) k') (K:=fun x=>match x with | (.int .i64 r0)=>K r0 | _=>False) k,h K⟩
theorem yB0 (p0:Int) (p1:Int) (p2:Int) (p3:Int) (r0:Int) (r1:Int) (h:∀ K:Int→Int→Prop,K r0 r1→ybK p0 p1 p2 p3 K) (K:Int→Int→Prop):ybK p0 p1 p2 p3 K=K r0 r1 :=
 propext ⟨fun k=>detC (yhs [] ybg) (as:=[(.agg [(.int .i64 p0),(.int .i64 p1)]),(.agg [(.int .i64 p2),(.int .i64 p3)])]) (x:=(.tup [(.int .i64 r0),(.int .i64 r1)])) (fun K' k'=>h (fun r0 r1=>K' (.tup [(.int .i64 r0),(.int .i64 r1)])) k') (K:=fun x=>match x with | (.tup [(.int .i64 r0),(.int .i64 r1)])=>K r0 r1 | _=>False) k,h K⟩
theorem yB1 (p0:Int) (p1:Int) (p2:Int) (p3:Int) (r0:Int) (r1:Int) (r2:Int) (h:∀ K:Int→Int→Int→Prop,K r0 r1 r2→yaE p0 p1 p2 p3 K) (K:Int→Int→Int→Prop):yaE p0 p1 p2 p3 K=K r0 r1 r2 :=
 propext ⟨fun k=>detC (yji [] ybg) (as:=[(.agg [(.int .i64 p0),(.int .i64 p1)]),(.agg [(.int .i64 p2),(.int .i64 p3)])]) (x:=(.tup [(.agg [(.int .i64 r0),(.int .i64 r1)]),(.int .i64 r2)])) (fun K' k'=>h (fun r0 r1 r2=>K' (.tup [(.agg [(.int .i64 r0),(.int .i64 r1)]),(.int .i64 r2)])) k') (K:=fun x=>match x with | (.tup [(.agg [(.int .i64 r0),(.int .i64 r1)]),(.int .i64 r2)])=>K r0 r1 r2 | _=>False) k,h K⟩
theorem yB2 (p0:Int) (p1:Int) (p2:Int) (p3:Int) (r0:Int) (r1:Int) (r2:Int) (h:∀ K:Int→Int→Int→Prop,K r0 r1 r2→yc0 p0 p1 p2 p3 K) (K:Int→Int→Int→Prop):yc0 p0 p1 p2 p3 K=K r0 r1 r2 :=
 propext ⟨fun k=>detC (yvT [] ybg) (as:=[(.agg [(.int .i64 p0),(.int .i64 p1)]),(.agg [(.int .i64 p2),(.int .i64 p3)])]) (x:=(.tup [(.agg [(.int .i64 r0),(.int .i64 r1)]),(.int .i64 r2)])) (fun K' k'=>h (fun r0 r1 r2=>K' (.tup [(.agg [(.int .i64 r0),(.int .i64 r1)]),(.int .i64 r2)])) k') (K:=fun x=>match x with | (.tup [(.agg [(.int .i64 r0),(.int .i64 r1)]),(.int .i64 r2)])=>K r0 r1 r2 | _=>False) k,h K⟩
theorem yB3 (p0:Int) (p1:Int) (p2:Int) (p3:Int) (r0:Int) (r1:Int) (r2:Int) (h:∀ K:Int→Int→Int→Prop,K r0 r1 r2→yci p0 p1 p2 p3 K) (K:Int→Int→Int→Prop):yci p0 p1 p2 p3 K=K r0 r1 r2 :=
 propext ⟨fun k=>detC (yp1 [] ybg) (as:=[(.agg [(.int .i64 p0),(.int .i64 p1)]),(.agg [(.int .i64 p2),(.int .i64 p3)])]) (x:=(.tup [(.agg [(.int .i64 r0),(.int .i64 r1)]),(.int .i64 r2)])) (fun K' k'=>h (fun r0 r1 r2=>K' (.tup [(.agg [(.int .i64 r0),(.int .i64 r1)]),(.int .i64 r2)])) k') (K:=fun x=>match x with | (.tup [(.agg [(.int .i64 r0),(.int .i64 r1)]),(.int .i64 r2)])=>K r0 r1 r2 | _=>False) k,h K⟩
theorem yB4 (p0:Int) (p1:Int) (p2:Int) (p3:Int) (r0:Int) (r1:Int) (r2:Int) (h:∀ K:Int→Int→Int→Prop,K r0 r1 r2→yaS p0 p1 p2 p3 K) (K:Int→Int→Int→Prop):yaS p0 p1 p2 p3 K=K r0 r1 r2 :=
 propext ⟨fun k=>detC (yjj [] ybg) (as:=[(.agg [(.int .i64 p0),(.int .i64 p1)]),(.agg [(.int .i64 p2),(.int .i64 p3)])]) (x:=(.tup [(.agg [(.int .i64 r0),(.int .i64 r1)]),(.int .i64 r2)])) (fun K' k'=>h (fun r0 r1 r2=>K' (.tup [(.agg [(.int .i64 r0),(.int .i64 r1)]),(.int .i64 r2)])) k') (K:=fun x=>match x with | (.tup [(.agg [(.int .i64 r0),(.int .i64 r1)]),(.int .i64 r2)])=>K r0 r1 r2 | _=>False) k,h K⟩
theorem yAp (p0:Int) (p1:Int) (r0:Int) (r1:Int) (r2:Int) (h:∀ K:Int→Int→Int→Prop,K r0 r1 r2→yaj p0 p1 K) (K:Int→Int→Int→Prop):yaj p0 p1 K=K r0 r1 r2 :=
 propext ⟨fun k=>detC (yoF [] ybg) (as:=[(.int .i64 p0),(.int .i64 p1)]) (x:=(.tup [(.agg [(.int .i64 r0),(.int .i64 r1)]),(.int .i64 r2)])) (fun K' k'=>h (fun r0 r1 r2=>K' (.tup [(.agg [(.int .i64 r0),(.int .i64 r1)]),(.int .i64 r2)])) k') (K:=fun x=>match x with | (.tup [(.agg [(.int .i64 r0),(.int .i64 r1)]),(.int .i64 r2)])=>K r0 r1 r2 | _=>False) k,h K⟩
end Go.Pf.Vc
namespace Go.Pf.Vc
open Go Go.Pf
set_option maxRecDepth 100000
abbrev yev:Type:=List PV→(Int→Prop)→Prop
def ybL (x0:List PV→Int→Int→Bool→Prop):Nat→List PV→Int→Int→Prop
 | 0,_,_,_=>False
 | n+1,l0,i1,i2 =>
 (cbr (decide (i2<(((List.length l0):Nat):Int)))
 (asr (decide ((0:Int)≤i2))
 (asr (decide (i2<(((List.length l0):Nat):Int)))
 (asr (conf (.one (.i .i64)) (List.getD l0 (i2.toNat) .nils))
 (ybL x0 n l0 (if (intOfV (List.getD l0 (i2.toNat) .nils))<i1 then (intOfV (List.getD l0 (i2.toNat) .nils)) else i1) (IntKind.i64.wrap (i2+(1:Int)))))))
 (x0 l0 i1 i2 false))
def yko (p0:List PV) (K:Int→Prop):Prop :=
 (cbr (decide ((((List.length p0):Nat):Int)<(1:Int)))
 False
 (asr (decide ((0:Int)<(((List.length p0):Nat):Int)))
 (asr (conf (.one (.i .i64)) (List.getD p0 0 .nils))
 (∃ n:Nat,ybL
 (fun _ yi1 _ _=>(K yi1))
 n p0 (intOfV (List.getD p0 0 .nils)) (1:Int)))))
def yc1 (p0:List PV) (K:Int→Prop):Prop:=yko p0 K
def ykp (w:yev) (as:List PV) (K:PV→Prop):Prop :=
 match as with
 | [(.data p0)]=>w p0 (fun r0=>K (.int .i64 r0))
 | _=>False
def ypq (as:List PV) (K:PV→Prop):Prop:=ykp yc1 as K
def ydy (F:Frm) (H:Hp) (A0:List PV→Int→Int→Prop):Prop :=
 match F,H with
 | [(0,.v (.data l0)),(3,.v (.int .i64 i1)),(4,.v (.int .i64 i2))],[]=>(A0 l0 i1 i2)
 | _,_=>False
def yhJ (Q:Ex→Frm→Hp→Prop):List PV→Int→Int→Bool→Prop:=(fun l0 i1 i2 b3=>Q (.exit 0) [(0,.v (.data l0)),(3,.v (.int .i64 i1)),(4,.v (.int .i64 i2)),(15,.v (.bool b3))] [])
def ygR (Q:Ex→Frm→Hp→Prop) (n:Nat) (F:Frm) (H:Hp):Prop:=ydy F H (fun l0 i1 i2=>ybL (yhJ Q) n l0 i1 i2)
def yhv:LP:=fun id F H Q =>
 bif Nat.beq id 10434000 then ydy F H (fun l0 i1 i2=>∃ n:Nat,ybL (yhJ Q) n l0 i1 i2) else
 False
def ykq (e:List (Nat×EffF)):SE:=⟨(E e),lookS [],lookI [],yhv⟩
theorem yof (e:List (Nat×EffF)) (he:EG e):SEOk (ykq e):=yam trivial trivial he.ok
theorem yp3 (e:List (Nat×EffF)) ( Q n l0 i1 i2):WC (E e) (callW (ykq e) 5) (yhv) ynd [(0,.v (.data l0)),(3,.v (.int .i64 i1)),(4,.v (.int .i64 i2))] [] (fun x F' H'=>match x with | .norm=>ygR Q n F' H' | .exit i=>Q (.exit i) F' H' | .ret=>Q .ret F' H')=ybL (yhJ Q) (n+1) l0 i1 i2:=by kernel_rfl
theorem ytn (e:List (Nat×EffF)) (_:EG e):LpOk (E e) (yhv) ynd:=(yag (by kernel_rfl))
theorem yrQ (e:List (Nat×EffF)) (he:EG e):∀ F H Q,yhv 10434000 F H Q→LoopT (E e) ynd F H Q:=by
 intro F H Q h
 have go:=LoopT.intro (yaC (yof e he) 5) (ytn e he) (ygR Q) (by
   intro F H h
   unfold ygR ydy at h
   split at h
   · exact h
   · exact h) (by
   intro n F H h
   unfold ygR ydy at h
   split at h
   · exact (yp3 ..).mpr h
   · exact h.elim)
 have h:ydy F H _:=h
 unfold ydy at h
 split at h
 · obtain ⟨n,h⟩:=h;exact go n _ _ h
 · exact h.elim
theorem yxz (e:List (Nat×EffF)) ( p0 K):WP (ykq e) 6 yyM [(.data p0)] K=yko p0 (fun r0=>K (.int .i64 r0)):=by kernel_rfl
theorem yxA (e:List (Nat×EffF)) (he:EG e):OkF (E e) ypq yf4:=by
 intro as K h
 unfold ypq ykp at h
 split at h
 · exact WP_ok (yof e he) (ya8 (l:=[(10434000,ynd)]) ⟨yrQ e he,trivial⟩ (by kernel_rfl)) (by kernel_rfl) (by kernel_rfl) (fun _=>yab (by kernel_rfl) _) (he.num _ (by kernel_rfl)) ((yxz ..).mpr h)
 · exact h.elim
abbrev yew:Type:=List PV→(Int→Prop)→Prop
def ybM (x0:List PV→Int→Int→Bool→Prop):Nat→List PV→Int→Int→Prop
 | 0,_,_,_=>False
 | n+1,l0,i1,i2 =>
 (cbr (decide (i2<(((List.length l0):Nat):Int)))
 (asr (decide ((0:Int)≤i2))
 (asr (decide (i2<(((List.length l0):Nat):Int)))
 (asr (conf (.one (.i .i64)) (List.getD l0 (i2.toNat) .nils))
 (ybM x0 n l0 (if (intOfV (List.getD l0 (i2.toNat) .nils))>i1 then (intOfV (List.getD l0 (i2.toNat) .nils)) else i1) (IntKind.i64.wrap (i2+(1:Int)))))))
 (x0 l0 i1 i2 false))
def ykr (p0:List PV) (K:Int→Prop):Prop :=
 (cbr (decide ((((List.length p0):Nat):Int)<(1:Int)))
 False
 (asr (decide ((0:Int)<(((List.length p0):Nat):Int)))
 (asr (conf (.one (.i .i64)) (List.getD p0 0 .nils))
 (∃ n:Nat,ybM
 (fun _ yi1 _ _=>(K yi1))
 n p0 (intOfV (List.getD p0 0 .nils)) (1:Int)))))
def yc2 (p0:List PV) (K:Int→Prop):Prop:=ykr p0 K
def yks (w:yew) (as:List PV) (K:PV→Prop):Prop :=
 match as with
 | [(.data p0)]=>w p0 (fun r0=>K (.int .i64 r0))
 | _=>False
def ypr (as:List PV) (K:PV→Prop):Prop:=yks yc2 as K
def ydz (F:Frm) (H:Hp) (A0:List PV→Int→Int→Prop):Prop :=
 match F,H with
 | [(0,.v (.data l0)),(3,.v (.int .i64 i1)),(4,.v (.int .i64 i2))],[]=>(A0 l0 i1 i2)
 | _,_=>False
def yhK (Q:Ex→Frm→Hp→Prop):List PV→Int→Int→Bool→Prop:=(fun l0 i1 i2 b3=>Q (.exit 0) [(0,.v (.data l0)),(3,.v (.int .i64 i1)),(4,.v (.int .i64 i2)),(15,.v (.bool b3))] [])
def ygS (Q:Ex→Frm→Hp→Prop) (n:Nat) (F:Frm) (H:Hp):Prop:=ydz F H (fun l0 i1 i2=>ybM (yhK Q) n l0 i1 i2)
def yhw:LP:=fun id F H Q =>
 bif Nat.beq id 64079100 then ydz F H (fun l0 i1 i2=>∃ n:Nat,ybM (yhK Q) n l0 i1 i2) else
 False
def ykt (e:List (Nat×EffF)):SE:=⟨(E e),lookS [],lookI [],yhw⟩
theorem yog (e:List (Nat×EffF)) (he:EG e):SEOk (ykt e):=yam trivial trivial he.ok
theorem yp4 (e:List (Nat×EffF)) ( Q n l0 i1 i2):WC (E e) (callW (ykt e) 5) (yhw) yne [(0,.v (.data l0)),(3,.v (.int .i64 i1)),(4,.v (.int .i64 i2))] [] (fun x F' H'=>match x with | .norm=>ygS Q n F' H' | .exit i=>Q (.exit i) F' H' | .ret=>Q .ret F' H')=ybM (yhK Q) (n+1) l0 i1 i2:=by kernel_rfl
theorem yto (e:List (Nat×EffF)) (_:EG e):LpOk (E e) (yhw) yne:=(yag (by kernel_rfl))
theorem yrR (e:List (Nat×EffF)) (he:EG e):∀ F H Q,yhw 64079100 F H Q→LoopT (E e) yne F H Q:=by
 intro F H Q h
 have go:=LoopT.intro (yaC (yog e he) 5) (yto e he) (ygS Q) (by
   intro F H h
   unfold ygS ydz at h
   split at h
   · exact h
   · exact h) (by
   intro n F H h
   unfold ygS ydz at h
   split at h
   · exact (yp4 ..).mpr h
   · exact h.elim)
 have h:ydz F H _:=h
 unfold ydz at h
 split at h
 · obtain ⟨n,h⟩:=h;exact go n _ _ h
 · exact h.elim
theorem yxB (e:List (Nat×EffF)) ( p0 K):WP (ykt e) 6 yyN [(.data p0)] K=ykr p0 (fun r0=>K (.int .i64 r0)):=by kernel_rfl
theorem yxC (e:List (Nat×EffF)) (he:EG e):OkF (E e) ypr yet:=by
 intro as K h
 unfold ypr yks at h
 split at h
 · exact WP_ok (yog e he) (ya8 (l:=[(64079100,yne)]) ⟨yrR e he,trivial⟩ (by kernel_rfl)) (by kernel_rfl) (by kernel_rfl) (fun _=>yab (by kernel_rfl) _) (he.num _ (by kernel_rfl)) ((yxB ..).mpr h)
 · exact h.elim
abbrev yaV:Type:=Int→List PV→List PV→(Int→Prop)→Prop
def ycE (a0:yev) (a1:yew) (x0:Int→Prop) (x1:Int→List PV→List PV→Int→Int→Bool→Prop):Nat→Int→List PV→List PV→Int→Int→Prop
 | 0,_,_,_,_,_=>False
 | n+1,i0,l1,l2,i3,i4 =>
 (cbr (decide (i4<i3))
 (asr (decide ((0:Int)≤i4))
 (asr (decide (i4<(((List.length l1):Nat):Int)))
 (asr (conf (.one (.i .i64)) (List.getD l1 (i4.toNat) .nils))
 (asr (decide ((0:Int)≤(IntKind.i64.wrap (i4+(1:Int)))))
 (asr (decide ((IntKind.i64.wrap (i4+(1:Int)))<(((List.length l1):Nat):Int)))
 (asr (conf (.one (.i .i64)) (List.getD l1 ((IntKind.i64.wrap (i4+(1:Int))).toNat) .nils))
 (cbr (decide ((intOfV (List.getD l1 (i4.toNat) .nils))≥(intOfV (List.getD l1 ((IntKind.i64.wrap (i4+(1:Int))).toNat) .nils))))
 (x0 (8:Int))
 (ycE a0 a1 x0 x1 n i0 l1 l2 i3 (IntKind.i64.wrap (i4+(1:Int)))))))))))
 (x1 i0 l1 l2 i3 i4 false))
def yoG (a0:yev) (a1:yew) (p0:Int) (p1 p2:List PV) (K:Int→Prop):Prop :=
 (cbr (decide (p0>(1000:Int)))
 (K (4:Int))
 (cbr (decide ((((List.length p1):Nat):Int)>(40:Int)))
 (K (4:Int))
 (cbr (decide (p0<(1:Int)))
 (K (8:Int))
 (cbr (decide ((((List.length p1):Nat):Int)<(2:Int)))
 (K (8:Int))
 (cbr ((((List.length p2):Nat):Int) !=(IntKind.i64.wrap ((((List.length p1):Nat):Int)-(1:Int))))
 (K (8:Int))
 (asr (decide ((0:Int)<(((List.length p1):Nat):Int)))
 (asr (conf (.one (.i .i64)) (List.getD p1 0 .nils))
 (cbr ((intOfV (List.getD p1 0 .nils)) !=(0:Int))
 (K (8:Int))
 (asr (decide ((0:Int)≤(IntKind.i64.wrap ((((List.length p1):Nat):Int)-(1:Int)))))
 (asr (decide ((IntKind.i64.wrap ((((List.length p1):Nat):Int)-(1:Int)))<(((List.length p1):Nat):Int)))
 (asr (conf (.one (.i .i64)) (List.getD p1 ((IntKind.i64.wrap ((((List.length p1):Nat):Int)-(1:Int))).toNat) .nils))
 (cbr ((intOfV (List.getD p1 ((IntKind.i64.wrap ((((List.length p1):Nat):Int)-(1:Int))).toNat) .nils)) != p0)
 (K (8:Int))
 (∃ n:Nat,ycE a0 a1
 (fun yi0=>(K yi0))
 (fun _ _ yl3 _ _ _=>(a0 yl3 (fun yi7 =>
 (cbr (decide (yi7<(0:Int)))
 (K (8:Int))
 (a1 yl3 (fun yi8 =>
 (cbr (decide (yi8>(12:Int)))
 (K (8:Int))
 (a1 yl3 (fun yi9 =>
 (cbr (yi9 ==(0:Int))
 (K (8:Int))
 (K (0:Int))))))))))))
 n p0 p1 p2 (IntKind.i64.wrap ((((List.length p1):Nat):Int)-(1:Int))) (0:Int))))))))))))))
def yan (p0:Int) (p1 p2:List PV) (K:Int→Prop):Prop:=yoG yc1 yc2 p0 p1 p2 K
def yeX (w:yaV) (as:List PV) (K:PV→Prop):Prop :=
 match as with
 | [(.agg [(.int .i64 p0),(.data p1),(.data p2)])]=>w p0 p1 p2 (fun r0=>K (.int .i64 r0))
 | _=>False
def ytZ (as:List PV) (K:PV→Prop):Prop:=yeX yan as K
def yfl (F:Frm) (H:Hp) (A0:Int→List PV→List PV→Int→Int→Prop):Prop :=
 match F,H with
 | [(1,.box (.agg [(.int .i64 i0),(.data l1),(.data l2)])),(49,.v (.int .i64 i3)),(50,.v (.int .i64 i4))],[]=>(A0 i0 l1 l2 i3 i4)
 | _,_=>False
def yku (Q:Ex→Frm→Hp→Prop):Int→Prop:=(fun i0=>Q .ret [(2,.v (.int .i64 i0))] [])
def ykv (Q:Ex→Frm→Hp→Prop):Int→List PV→List PV→Int→Int→Bool→Prop:=(fun i0 l1 l2 i3 i4 b5=>Q (.exit 0) [(1,.box (.agg [(.int .i64 i0),(.data l1),(.data l2)])),(49,.v (.int .i64 i3)),(50,.v (.int .i64 i4)),(51,.v (.bool b5))] [])
def yjk (a0:yev) (a1:yew) (Q:Ex→Frm→Hp→Prop) (n:Nat) (F:Frm) (H:Hp):Prop:=yfl F H (fun i0 l1 l2 i3 i4=>ycE a0 a1 (yku Q) (ykv Q) n i0 l1 l2 i3 i4)
def ykZ (a0:yev) (a1:yew):LP:=fun id F H Q =>
 bif Nat.beq id 87419700 then yfl F H (fun i0 l1 l2 i3 i4=>∃ n:Nat,ycE a0 a1 (yku Q) (ykv Q) n i0 l1 l2 i3 i4) else
 False
def yoH (e:List (Nat×EffF)) (a0:yev) (a1:yew):SE:=⟨(E e),lookS [(yf4,ykp a0),(yet,yks a1)],lookI [],ykZ a0 a1⟩
theorem yrS (e:List (Nat×EffF)) (he:EG e):SEOk (yoH e yc1 yc2):=yam ⟨(yxA e he),(yxC e he),trivial⟩ trivial he.ok
theorem ytp (e:List (Nat×EffF)) (a0 a1 Q n i0 l1 l2 i3 i4):WC (E e) (callW (yoH e a0 a1) 5) (ykZ a0 a1) ynf [(1,.box (.agg [(.int .i64 i0),(.data l1),(.data l2)])),(49,.v (.int .i64 i3)),(50,.v (.int .i64 i4))] [] (fun x F' H'=>match x with | .norm=>yjk a0 a1 Q n F' H' | .exit i=>Q (.exit i) F' H' | .ret=>Q .ret F' H')=ycE a0 a1 (yku Q) (ykv Q) (n+1) i0 l1 l2 i3 i4:=by kernel_rfl
theorem yxD (e:List (Nat×EffF)) (_:EG e):LpOk (E e) (ykZ yc1 yc2) ynf:=(yag (by kernel_rfl))
theorem yvY (e:List (Nat×EffF)) (he:EG e):∀ F H Q,ykZ yc1 yc2 87419700 F H Q→LoopT (E e) ynf F H Q:=by
 intro F H Q h
 have go:=LoopT.intro (yaC (yrS e he) 5) (yxD e he) (yjk yc1 yc2 Q) (by
   intro F H h
   unfold yjk yfl at h
   split at h
   · exact h
   · exact h) (by
   intro n F H h
   unfold yjk yfl at h
   split at h
   · exact (ytp ..).mpr h
   · exact h.elim)
 have h:yfl F H _:=h
 unfold yfl at h
 split at h
 · obtain ⟨n,h⟩:=h;exact go n _ _ h
 · exact h.elim
theorem yB5 (e:List (Nat×EffF)) (a0 a1 p0 p1 p2 K):WP (yoH e a0 a1) 6 yD3 [(.agg [(.int .i64 p0),(.data p1),(.data p2)])] K=yoG a0 a1 p0 p1 p2 (fun r0=>K (.int .i64 r0)):=by kernel_rfl
theorem ygo (e:List (Nat×EffF)) (he:EG e):OkF (E e) ytZ yct:=by
 intro as K h
 unfold ytZ yeX at h
 split at h
 · exact WP_ok (yrS e he) (ya8 (l:=[(87419700,ynf)]) ⟨yvY e he,trivial⟩ (by kernel_rfl)) (by kernel_rfl) (by kernel_rfl) (fun _=>yab (by kernel_rfl) _) (he.num _ (by kernel_rfl)) ((yB5 ..).mpr h)
 · exact h.elim
abbrev ydV:Type:=Int→(Int→Int→Prop)→Prop
def yt0 (p0:Int) (K:Int→Int→Prop):Prop :=
 (K p0 (1:Int))
def ydm (p0:Int) (K:Int→Int→Prop):Prop:=yt0 p0 K
def yk0 (w:ydV) (as:List PV) (K:PV→Prop):Prop :=
 match as with
 | [(.int .i64 p0)]=>w p0 (fun r0 r1=>K (.agg [(.int .i64 r0),(.int .i64 r1)]))
 | _=>False
def yt1 (as:List PV) (K:PV→Prop):Prop:=yk0 ydm as K
def yB6:LP:=fun _ _ _ _ =>
 False
def yt2 (e:List (Nat×EffF)):SE:=⟨(E e),lookS [],lookI [],yB6⟩
theorem yAq (e:List (Nat×EffF)) (he:EG e):SEOk (yt2 e):=yam trivial trivial he.ok
theorem yB7 (e:List (Nat×EffF)) ( p0 K):WP (yt2 e) 6 yD7 [(.int .i64 p0)] K=yt0 p0 (fun r0 r1=>K (.agg [(.int .i64 r0),(.int .i64 r1)])):=by kernel_rfl
theorem yt3 (e:List (Nat×EffF)) (he:EG e):OkF (E e) yt1 ydU:=by
 intro as K h
 unfold yt1 yk0 at h
 split at h
 · exact WP_ok (yAq e he) (yag (by kernel_rfl)) (by kernel_rfl) (by kernel_rfl) (fun _=>yab (by kernel_rfl) _) (he.num _ (by kernel_rfl)) ((yB7 ..).mpr h)
 · exact h.elim
abbrev yeK:Type:=Int→Int→Int→Int→(Bool→Prop)→Prop
def yp5 (a0:ybJ) (p0 p1 p2 p3:Int) (K:Bool→Prop):Prop :=
 (a0 p0 p1 p2 p3 (fun yi0 _ =>
 (K (decide (yi0<(0:Int))))))
def ydr (p0 p1 p2 p3:Int) (K:Bool→Prop):Prop:=yp5 ybK p0 p1 p2 p3 K
def ymy (w:yeK) (as:List PV) (K:PV→Prop):Prop :=
 match as with
 | [(.agg [(.int .i64 p0),(.int .i64 p1)]),(.agg [(.int .i64 p2),(.int .i64 p3)])]=>w p0 p1 p2 p3 (fun r0=>K (.bool r0))
 | _=>False
def yvZ (as:List PV) (K:PV→Prop):Prop:=ymy ydr as K
def yEo (_:ybJ):LP:=fun _ _ _ _ =>
 False
def yv0 (e:List (Nat×EffF)) (a0:ybJ):SE:=⟨(E e),lookS [(ycA,yfO a0)],lookI [],yEo a0⟩
theorem yB8 (e:List (Nat×EffF)) (he:EG e):SEOk (yv0 e ybK):=yam ⟨(yhs e he),trivial⟩ trivial he.ok
theorem yEp (e:List (Nat×EffF)) (a0 p0 p1 p2 p3 K):WP (yv0 e a0) 6 yGd [(.agg [(.int .i64 p0),(.int .i64 p1)]),(.agg [(.int .i64 p2),(.int .i64 p3)])] K=yp5 a0 p0 p1 p2 p3 (fun r0=>K (.bool r0)):=by kernel_rfl
theorem yv1 (e:List (Nat×EffF)) (he:EG e):OkF (E e) yvZ yd2:=by
 intro as K h
 unfold yvZ ymy at h
 split at h
 · exact WP_ok (yB8 e he) (yag (by kernel_rfl)) (by kernel_rfl) (by kernel_rfl) (fun _=>yab (by kernel_rfl) _) (he.num _ (by kernel_rfl)) ((yEp ..).mpr h)
 · exact h.elim
abbrev yhx:Type:=Int→List PV→List PV→Int→Int→(Bool→Prop)→Prop
def yoI (a0:yeW) (a1:ydV) (a2:yeK) (p0:Int) (_ _:List PV) (p3 p4:Int) (K:Bool→Prop):Prop :=
 (a0 p3 p4 (fun yi0 =>
 (cbr (yi0 ==(0:Int))
 (cbr (decide (p3≥(0:Int)))
 (a1 p0 (fun yi1 yi2 =>
 (a2 yi1 yi2 p3 p4 (fun yb3 =>
 (K (!yb3))))))
 (K false))
 (K false))))
def ydW (p0:Int) (p1 p2:List PV) (p3 p4:Int) (K:Bool→Prop):Prop:=yoI ycL ydm ydr p0 p1 p2 p3 p4 K
def yoJ (w:yhx) (as:List PV) (K:PV→Prop):Prop :=
 match as with
 | [(.agg [(.int .i64 p0),(.data p1),(.data p2)]),(.agg [(.int .i64 p3),(.int .i64 p4)])]=>w p0 p1 p2 p3 p4 (fun r0=>K (.bool r0))
 | _=>False
def yt4 (as:List PV) (K:PV→Prop):Prop:=yoJ ydW as K
def yB9 (_:yeW) (_:ydV) (_:yeK):LP:=fun _ _ _ _ =>
 False
def yt5 (e:List (Nat×EffF)) (a0:yeW) (a1:ydV) (a2:yeK):SE:=⟨(E e),lookS [(ydZ,yjf a0),(ydU,yk0 a1),(yd2,ymy a2)],lookI [],yB9 a0 a1 a2⟩
theorem yAr (e:List (Nat×EffF)) (he:EG e):SEOk (yt5 e ycL ydm ydr):=yam ⟨(yny e he),(yt3 e he),(yv1 e he),trivial⟩ trivial he.ok
theorem yCa (e:List (Nat×EffF)) (a0 a1 a2 p0 p1 p2 p3 p4 K):WP (yt5 e a0 a1 a2) 6 yD8 [(.agg [(.int .i64 p0),(.data p1),(.data p2)]),(.agg [(.int .i64 p3),(.int .i64 p4)])] K=yoI a0 a1 a2 p0 p1 p2 p3 p4 (fun r0=>K (.bool r0)):=by kernel_rfl
theorem yCb (e:List (Nat×EffF)) (he:EG e):OkF (E e) yt4 yhn:=by
 intro as K h
 unfold yt4 yoJ at h
 split at h
 · exact WP_ok (yAr e he) (yag (by kernel_rfl)) (by kernel_rfl) (by kernel_rfl) (fun _=>yab (by kernel_rfl) _) (he.num _ (by kernel_rfl)) ((yCa ..).mpr h)
 · exact h.elim
abbrev yfQ:Type:=Int→List PV→List PV→Int→Int→Int→Int→(Int→Int→Int→Prop)→Prop
def yaU (a0:yaV) (a1:yhx) (a2:yeK) (a3:ydV) (a4:yiF) (a5:yeJ) (a6:ybW) (x0:Int→Int→Int→Prop) (x1:Int→List PV→List PV→Int→Int→Int→Int→Int→Int→Int→Int→List PV→Int→Int→Bool→Prop):Nat→Int→List PV→List PV→Int→Int→Int→Int→Int→Int→Int→Int→List PV→Int→Int→Prop
 | 0,_,_,_,_,_,_,_,_,_,_,_,_,_,_=>False
 | n+1,i0,l1,l2,i3,i4,i5,i6,i7,i8,i9,i10,l11,i12,i13 =>
 (cbr (decide (i13<i12))
 (asr (decide ((0:Int)≤i13))
 (asr (decide (i13<(((List.length l11):Nat):Int)))
 (asr (conf (.one (.i .i64)) (List.getD l11 (i13.toNat) .nils))
 (asr (decide ((0:Int)≤(IntKind.i64.wrap (i13+(1:Int)))))
 (asr (decide ((IntKind.i64.wrap (i13+(1:Int)))<(((List.length l1):Nat):Int)))
 (asr (conf (.one (.i .i64)) (List.getD l1 ((IntKind.i64.wrap (i13+(1:Int))).toNat) .nils))
 (a3 (intOfV (List.getD l1 ((IntKind.i64.wrap (i13+(1:Int))).toNat) .nils)) (fun yi6 yi7 =>
 (a2 i3 i4 yi6 yi7 (fun yb8 =>
 (cbr yb8
 (cbr ((intOfV (List.getD l11 (i13.toNat) .nils)) ==(0:Int))
 (a2 i9 i10 i3 i4 (fun yb9 =>
 (cbr yb9
 (yaU a0 a1 a2 a3 a4 a5 a6 x0 x1 n i0 l1 l2 i3 i4 i5 i6 i7 i8 i3 i4 l11 i12 (IntKind.i64.wrap (i13+(1:Int))))
 (yaU a0 a1 a2 a3 a4 a5 a6 x0 x1 n i0 l1 l2 i3 i4 i5 i6 i7 i8 i9 i10 l11 i12 (IntKind.i64.wrap (i13+(1:Int)))))))
 (a2 i9 i10 i3 i4 (fun yb10 =>
 (cbr (!yb10)
 (a2 i9 i10 i3 i4 (fun yb11 =>
 (cbr yb11
 (yaU a0 a1 a2 a3 a4 a5 a6 x0 x1 n i0 l1 l2 i3 i4 i5 i6 i7 i8 i3 i4 l11 i12 (IntKind.i64.wrap (i13+(1:Int))))
 (yaU a0 a1 a2 a3 a4 a5 a6 x0 x1 n i0 l1 l2 i3 i4 i5 i6 i7 i8 i9 i10 l11 i12 (IntKind.i64.wrap (i13+(1:Int)))))))
 (a4 i3 i4 i9 i10 (fun yi12 yi13 yi14 =>
 (cbr (yi14 !=(0:Int))
 (x0 (0:Int) (0:Int) yi14)
 (a3 (intOfV (List.getD l11 (i13.toNat) .nils)) (fun yi15 yi16 =>
 (a5 yi12 yi13 yi15 yi16 (fun yi17 yi18 yi19 =>
 (cbr (yi19 !=(0:Int))
 (x0 (0:Int) (0:Int) yi19)
 (a6 i7 i8 yi17 yi18 (fun yi20 yi21 yi22 =>
 (cbr (yi22 !=(0:Int))
 (x0 (0:Int) (0:Int) yi22)
 (yaU a0 a1 a2 a3 a4 a5 a6 x0 x1 n i0 l1 l2 i3 i4 i5 i6 yi20 yi21 i3 i4 l11 i12 (IntKind.i64.wrap (i13+(1:Int)))))))))))))))))))
 (cbr ((intOfV (List.getD l11 (i13.toNat) .nils)) ==(0:Int))
 (a2 i9 i10 yi6 yi7 (fun yb23 =>
 (cbr yb23
 (yaU a0 a1 a2 a3 a4 a5 a6 x0 x1 n i0 l1 l2 i3 i4 i5 i6 i7 i8 yi6 yi7 l11 i12 (IntKind.i64.wrap (i13+(1:Int))))
 (yaU a0 a1 a2 a3 a4 a5 a6 x0 x1 n i0 l1 l2 i3 i4 i5 i6 i7 i8 i9 i10 l11 i12 (IntKind.i64.wrap (i13+(1:Int)))))))
 (a2 i9 i10 yi6 yi7 (fun yb24 =>
 (cbr (!yb24)
 (a2 i9 i10 yi6 yi7 (fun yb25 =>
 (cbr yb25
 (yaU a0 a1 a2 a3 a4 a5 a6 x0 x1 n i0 l1 l2 i3 i4 i5 i6 i7 i8 yi6 yi7 l11 i12 (IntKind.i64.wrap (i13+(1:Int))))
 (yaU a0 a1 a2 a3 a4 a5 a6 x0 x1 n i0 l1 l2 i3 i4 i5 i6 i7 i8 i9 i10 l11 i12 (IntKind.i64.wrap (i13+(1:Int)))))))
 (a4 yi6 yi7 i9 i10 (fun yi26 yi27 yi28 =>
 (cbr (yi28 !=(0:Int))
 (x0 (0:Int) (0:Int) yi28)
 (a3 (intOfV (List.getD l11 (i13.toNat) .nils)) (fun yi29 yi30 =>
 (a5 yi26 yi27 yi29 yi30 (fun yi31 yi32 yi33 =>
 (cbr (yi33 !=(0:Int))
 (x0 (0:Int) (0:Int) yi33)
 (a6 i7 i8 yi31 yi32 (fun yi34 yi35 yi36 =>
 (cbr (yi36 !=(0:Int))
 (x0 (0:Int) (0:Int) yi36)
 (yaU a0 a1 a2 a3 a4 a5 a6 x0 x1 n i0 l1 l2 i3 i4 i5 i6 yi34 yi35 yi6 yi7 l11 i12 (IntKind.i64.wrap (i13+(1:Int))))))))))))))))))))))))))))))
 (x1 i0 l1 l2 i3 i4 i5 i6 i7 i8 i9 i10 l11 i12 i13 false))
def yoK (a0:yaV) (a1:yhx) (a2:yeK) (a3:ydV) (a4:yiF) (a5:yeJ) (a6:ybW) (p0:Int) (p1 p2:List PV) (p3 p4 p5 p6:Int) (K:Int→Int→Int→Prop):Prop :=
 (a0 p0 p1 p2 (fun yi0 =>
 (cbr (yi0 !=(0:Int))
 (K (0:Int) (0:Int) yi0)
 (a1 p0 p1 p2 p3 p4 (fun yb1 =>
 (cbr (!yb1)
 (K (0:Int) (0:Int) (2:Int))
 (a1 p0 p1 p2 p5 p6 (fun yb2 =>
 (cbr (!yb2)
 (K (0:Int) (0:Int) (2:Int))
 (a2 p5 p6 p3 p4 (fun yb3 =>
 (cbr yb3
 (K (0:Int) (0:Int) (2:Int))
 (a3 (0:Int) (fun yi4 yi5 =>
 (∃ n:Nat,yaU a0 a1 a2 a3 a4 a5 a6
 (fun yi37 yi38 yi39=>(K yi37 yi38 yi39))
 (fun _ _ _ _ _ _ _ yi47 yi48 _ _ _ _ _ _=>(K yi47 yi48 (0:Int)))
 n p0 p1 p2 p5 p6 (0:Int) (0:Int) yi4 yi5 p3 p4 p2 (((List.length p2):Nat):Int) (0:Int))))))))))))))))
def yaF (p0:Int) (p1 p2:List PV) (p3 p4 p5 p6:Int) (K:Int→Int→Int→Prop):Prop:=yoK yan ydW ydr ydm yc0 yci yaE p0 p1 p2 p3 p4 p5 p6 K
def yk1 (w:yfQ) (as:List PV) (K:PV→Prop):Prop :=
 match as with
 | [(.agg [(.int .i64 p0),(.data p1),(.data p2)]),(.agg [(.int .i64 p3),(.int .i64 p4)]),(.agg [(.int .i64 p5),(.int .i64 p6)])]=>w p0 p1 p2 p3 p4 p5 p6 (fun r0 r1 r2=>K (.tup [(.agg [(.int .i64 r0),(.int .i64 r1)]),(.int .i64 r2)]))
 | _=>False
def yt6 (as:List PV) (K:PV→Prop):Prop:=yk1 yaF as K
def yfm (F:Frm) (H:Hp) (A0:Int→List PV→List PV→Int→Int→Int→Int→Int→Int→Int→Int→List PV→Int→Int→Prop):Prop :=
 match F,H with
 | [(3,.box (.agg [(.int .i64 i0),(.data l1),(.data l2)])),(5,.box (.agg [(.int .i64 i3),(.int .i64 i4)])),(6,.box (.agg [(.int .i64 i5),(.int .i64 i6)])),(9,.box (.agg [(.int .i64 i7),(.int .i64 i8)])),(10,.box (.agg [(.int .i64 i9),(.int .i64 i10)])),(42,.v (.data l11)),(43,.v (.int .i64 i12)),(44,.v (.int .i64 i13))],[]=>(A0 i0 l1 l2 i3 i4 i5 i6 i7 i8 i9 i10 l11 i12 i13)
 | _,_=>False
def ykw (Q:Ex→Frm→Hp→Prop):Int→Int→Int→Prop:=(fun i0 i1 i2=>Q .ret [(6,.box (.agg [(.int .i64 i0),(.int .i64 i1)])),(7,.v (.int .i64 i2))] [])
def ykx (Q:Ex→Frm→Hp→Prop):Int→List PV→List PV→Int→Int→Int→Int→Int→Int→Int→Int→List PV→Int→Int→Bool→Prop:=(fun i0 l1 l2 i3 i4 i5 i6 i7 i8 i9 i10 l11 i12 i13 b14=>Q (.exit 0) [(3,.box (.agg [(.int .i64 i0),(.data l1),(.data l2)])),(5,.box (.agg [(.int .i64 i3),(.int .i64 i4)])),(6,.box (.agg [(.int .i64 i5),(.int .i64 i6)])),(9,.box (.agg [(.int .i64 i7),(.int .i64 i8)])),(10,.box (.agg [(.int .i64 i9),(.int .i64 i10)])),(42,.v (.data l11)),(43,.v (.int .i64 i12)),(44,.v (.int .i64 i13)),(45,.v (.bool b14))] [])
def yjl (a0:yaV) (a1:yhx) (a2:yeK) (a3:ydV) (a4:yiF) (a5:yeJ) (a6:ybW) (Q:Ex→Frm→Hp→Prop) (n:Nat) (F:Frm) (H:Hp):Prop:=yfm F H (fun i0 l1 l2 i3 i4 i5 i6 i7 i8 i9 i10 l11 i12 i13=>yaU a0 a1 a2 a3 a4 a5 a6 (ykw Q) (ykx Q) n i0 l1 l2 i3 i4 i5 i6 i7 i8 i9 i10 l11 i12 i13)
def yk2 (a0:yaV) (a1:yhx) (a2:yeK) (a3:ydV) (a4:yiF) (a5:yeJ) (a6:ybW):LP:=fun id F H Q =>
 bif Nat.beq id 85339800 then yfm F H (fun i0 l1 l2 i3 i4 i5 i6 i7 i8 i9 i10 l11 i12 i13=>∃ n:Nat,yaU a0 a1 a2 a3 a4 a5 a6 (ykw Q) (ykx Q) n i0 l1 l2 i3 i4 i5 i6 i7 i8 i9 i10 l11 i12 i13) else
 False
def yoL (e:List (Nat×EffF)) (a0:yaV) (a1:yhx) (a2:yeK) (a3:ydV) (a4:yiF) (a5:yeJ) (a6:ybW):SE:=⟨(E e),lookS [(yct,yeX a0),(yhn,yoJ a1),(yd2,ymy a2),(ydU,yk0 a3),(ylw,ypZ a4),(yfz,ymx a5),(yd3,yht a6)],lookI [],yk2 a0 a1 a2 a3 a4 a5 a6⟩
theorem yrT (e:List (Nat×EffF)) (he:EG e):SEOk (yoL e yan ydW ydr ydm yc0 yci yaE):=yam ⟨(ygo e he),(yCb e he),(yv1 e he),(yt3 e he),(yvT e he),(yp1 e he),(yji e he),trivial⟩ trivial he.ok
theorem ytq (e:List (Nat×EffF)) (a0 a1 a2 a3 a4 a5 a6 Q n i0 l1 l2 i3 i4 i5 i6 i7 i8 i9 i10 l11 i12 i13):WC (E e) (callW (yoL e a0 a1 a2 a3 a4 a5 a6) 5) (yk2 a0 a1 a2 a3 a4 a5 a6) ynn [(3,.box (.agg [(.int .i64 i0),(.data l1),(.data l2)])),(5,.box (.agg [(.int .i64 i3),(.int .i64 i4)])),(6,.box (.agg [(.int .i64 i5),(.int .i64 i6)])),(9,.box (.agg [(.int .i64 i7),(.int .i64 i8)])),(10,.box (.agg [(.int .i64 i9),(.int .i64 i10)])),(42,.v (.data l11)),(43,.v (.int .i64 i12)),(44,.v (.int .i64 i13))] [] (fun x F' H'=>match x with | .norm=>yjl a0 a1 a2 a3 a4 a5 a6 Q n F' H' | .exit i=>Q (.exit i) F' H' | .ret=>Q .ret F' H')=yaU a0 a1 a2 a3 a4 a5 a6 (ykw Q) (ykx Q) (n+1) i0 l1 l2 i3 i4 i5 i6 i7 i8 i9 i10 l11 i12 i13:=by kernel_rfl
theorem yxE (e:List (Nat×EffF)) (_:EG e):LpOk (E e) (yk2 yan ydW ydr ydm yc0 yci yaE) ynn:=(yag (by kernel_rfl))
theorem yv2 (e:List (Nat×EffF)) (he:EG e):∀ F H Q,yk2 yan ydW ydr ydm yc0 yci yaE 85339800 F H Q→LoopT (E e) ynn F H Q:=by
 intro F H Q h
 have go:=LoopT.intro (yaC (yrT e he) 5) (yxE e he) (yjl yan ydW ydr ydm yc0 yci yaE Q) (by
   intro F H h
   unfold yjl yfm at h
   split at h
   · exact h
   · exact h) (by
   intro n F H h
   unfold yjl yfm at h
   split at h
   · exact (ytq ..).mpr h
   · exact h.elim)
 have h:yfm F H _:=h
 unfold yfm at h
 split at h
 · obtain ⟨n,h⟩:=h;exact go n _ _ h
 · exact h.elim
theorem yCc (e:List (Nat×EffF)) (a0 a1 a2 a3 a4 a5 a6 p0 p1 p2 p3 p4 p5 p6 K):WP (yoL e a0 a1 a2 a3 a4 a5 a6) 6 yD9 [(.agg [(.int .i64 p0),(.data p1),(.data p2)]),(.agg [(.int .i64 p3),(.int .i64 p4)]),(.agg [(.int .i64 p5),(.int .i64 p6)])] K=yoK a0 a1 a2 a3 a4 a5 a6 p0 p1 p2 p3 p4 p5 p6 (fun r0 r1 r2=>K (.tup [(.agg [(.int .i64 r0),(.int .i64 r1)]),(.int .i64 r2)])):=by kernel_rfl
theorem yoM (e:List (Nat×EffF)) (he:EG e):OkF (E e) yt6 yho:=by
 intro as K h
 unfold yt6 yk1 at h
 split at h
 · exact WP_ok (yrT e he) (ya8 (l:=[(85339800,ynn)]) ⟨yv2 e he,trivial⟩ (by kernel_rfl)) (by kernel_rfl) (by kernel_rfl) (fun _=>yab (by kernel_rfl) _) (he.num _ (by kernel_rfl)) ((yCc ..).mpr h)
 · exact h.elim
abbrev yau:Type:=Int→List PV→List PV→(Int→Int→Prop)→Prop
def ycF (a0:yaV) (x0:Int→List PV→List PV→Int→List PV→Int→Int→Bool→Prop):Nat→Int→List PV→List PV→Int→List PV→Int→Int→Prop
 | 0,_,_,_,_,_,_,_=>False
 | n+1,i0,l1,l2,i3,l4,i5,i6 =>
 (cbr (decide (i6<i5))
 (asr (decide ((0:Int)≤i6))
 (asr (decide (i6<(((List.length l4):Nat):Int)))
 (asr (conf (.one (.i .i64)) (List.getD l4 (i6.toNat) .nils))
 (asr (decide ((0:Int)≤(IntKind.i64.wrap (i6+(1:Int)))))
 (asr (decide ((IntKind.i64.wrap (i6+(1:Int)))<(((List.length l1):Nat):Int)))
 (asr (conf (.one (.i .i64)) (List.getD l1 ((IntKind.i64.wrap (i6+(1:Int))).toNat) .nils))
 (asr (decide ((0:Int)≤i6))
 (asr (decide (i6<(((List.length l1):Nat):Int)))
 (asr (conf (.one (.i .i64)) (List.getD l1 (i6.toNat) .nils))
 (ycF a0 x0 n i0 l1 l2 (IntKind.i64.wrap (i3+(IntKind.i64.wrap ((intOfV (List.getD l4 (i6.toNat) .nils))*(IntKind.i64.wrap ((intOfV (List.getD l1 ((IntKind.i64.wrap (i6+(1:Int))).toNat) .nils))-(intOfV (List.getD l1 (i6.toNat) .nils)))))))) l4 i5 (IntKind.i64.wrap (i6+(1:Int)))))))))))))
 (x0 i0 l1 l2 i3 l4 i5 i6 false))
def yk3 (a0:yaV) (p0:Int) (p1 p2:List PV) (K:Int→Int→Prop):Prop :=
 (a0 p0 p1 p2 (fun yi0 =>
 (cbr (yi0 !=(0:Int))
 (K (0:Int) yi0)
 (∃ n:Nat,ycF a0
 (fun _ _ _ yi4 _ _ _ _=>(K yi4 (0:Int)))
 n p0 p1 p2 (0:Int) p2 (((List.length p2):Nat):Int) (0:Int)))))
def yae (p0:Int) (p1 p2:List PV) (K:Int→Int→Prop):Prop:=yk3 yan p0 p1 p2 K
def yd5 (w:yau) (as:List PV) (K:PV→Prop):Prop :=
 match as with
 | [(.agg [(.int .i64 p0),(.data p1),(.data p2)])]=>w p0 p1 p2 (fun r0 r1=>K (.tup [(.int .i64 r0),(.int .i64 r1)]))
 | _=>False
def yt7 (as:List PV) (K:PV→Prop):Prop:=yd5 yae as K
def yfn (F:Frm) (H:Hp) (A0:Int→List PV→List PV→Int→List PV→Int→Int→Prop):Prop :=
 match F,H with
 | [(1,.box (.agg [(.int .i64 i0),(.data l1),(.data l2)])),(5,.v (.int .i64 i3)),(14,.v (.data l4)),(15,.v (.int .i64 i5)),(16,.v (.int .i64 i6))],[]=>(A0 i0 l1 l2 i3 l4 i5 i6)
 | _,_=>False
def yky (Q:Ex→Frm→Hp→Prop):Int→List PV→List PV→Int→List PV→Int→Int→Bool→Prop:=(fun i0 l1 l2 i3 l4 i5 i6 b7=>Q (.exit 0) [(1,.box (.agg [(.int .i64 i0),(.data l1),(.data l2)])),(5,.v (.int .i64 i3)),(14,.v (.data l4)),(15,.v (.int .i64 i5)),(16,.v (.int .i64 i6)),(17,.v (.bool b7))] [])
def yjm (a0:yaV) (Q:Ex→Frm→Hp→Prop) (n:Nat) (F:Frm) (H:Hp):Prop:=yfn F H (fun i0 l1 l2 i3 l4 i5 i6=>ycF a0 (yky Q) n i0 l1 l2 i3 l4 i5 i6)
def yk4 (a0:yaV):LP:=fun id F H Q =>
 bif Nat.beq id 45203600 then yfn F H (fun i0 l1 l2 i3 l4 i5 i6=>∃ n:Nat,ycF a0 (yky Q) n i0 l1 l2 i3 l4 i5 i6) else
 False
def yoN (e:List (Nat×EffF)) (a0:yaV):SE:=⟨(E e),lookS [(yct,yeX a0)],lookI [],yk4 a0⟩
theorem yrU (e:List (Nat×EffF)) (he:EG e):SEOk (yoN e yan):=yam ⟨(ygo e he),trivial⟩ trivial he.ok
theorem ytr (e:List (Nat×EffF)) (a0 Q n i0 l1 l2 i3 l4 i5 i6):WC (E e) (callW (yoN e a0) 5) (yk4 a0) ynp [(1,.box (.agg [(.int .i64 i0),(.data l1),(.data l2)])),(5,.v (.int .i64 i3)),(14,.v (.data l4)),(15,.v (.int .i64 i5)),(16,.v (.int .i64 i6))] [] (fun x F' H'=>match x with | .norm=>yjm a0 Q n F' H' | .exit i=>Q (.exit i) F' H' | .ret=>Q .ret F' H')=ycF a0 (yky Q) (n+1) i0 l1 l2 i3 l4 i5 i6:=by kernel_rfl
theorem yxF (e:List (Nat×EffF)) (_:EG e):LpOk (E e) (yk4 yan) ynp:=(yag (by kernel_rfl))
theorem yv3 (e:List (Nat×EffF)) (he:EG e):∀ F H Q,yk4 yan 45203600 F H Q→LoopT (E e) ynp F H Q:=by
 intro F H Q h
 have go:=LoopT.intro (yaC (yrU e he) 5) (yxF e he) (yjm yan Q) (by
   intro F H h
   unfold yjm yfn at h
   split at h
   · exact h
   · exact h) (by
   intro n F H h
   unfold yjm yfn at h
   split at h
   · exact (ytr ..).mpr h
   · exact h.elim)
 have h:yfn F H _:=h
 unfold yfn at h
 split at h
 · obtain ⟨n,h⟩:=h;exact go n _ _ h
 · exact h.elim
theorem yCd (e:List (Nat×EffF)) (a0 p0 p1 p2 K):WP (yoN e a0) 6 yEa [(.agg [(.int .i64 p0),(.data p1),(.data p2)])] K=yk3 a0 p0 p1 p2 (fun r0 r1=>K (.tup [(.int .i64 r0),(.int .i64 r1)])):=by kernel_rfl
theorem yeY (e:List (Nat×EffF)) (he:EG e):OkF (E e) yt7 ycQ:=by
 intro as K h
 unfold yt7 yd5 at h
 split at h
 · exact WP_ok (yrU e he) (ya8 (l:=[(45203600,ynp)]) ⟨yv3 e he,trivial⟩ (by kernel_rfl)) (by kernel_rfl) (by kernel_rfl) (fun _=>yab (by kernel_rfl) _) (he.num _ (by kernel_rfl)) ((yCd ..).mpr h)
 · exact h.elim
end Go.Pf.Vc
namespace Go.Pf.Vc
open Go Go.Pf
set_option linter.unusedVariables false
theorem yAs (p0:Int) (p1:List PV) (p2:List PV) (r0:Int) (h:∀ K:Int→Prop,K r0→yan p0 p1 p2 K) (K:Int→Prop):yan p0 p1 p2 K=K r0 :=
 propext ⟨fun k=>detC (ygo [] ybg) (as:=[(.agg [(.int .i64 p0),(.data p1),(.data p2)])]) (x:=(.int .i64 r0)) (fun K' k'=>h (fun r0=>K' (.int .i64 r0)) k') (K:=fun x=>match x with | (.int .i64 r0)=>K r0 | _=>False) k,h K⟩
theorem yAt (p0:Int) (p1:List PV) (p2:List PV) (p3:Int) (p4:Int) (p5:Int) (p6:Int) (r0:Int) (r1:Int) (r2:Int) (h:∀ K:Int→Int→Int→Prop,K r0 r1 r2→yaF p0 p1 p2 p3 p4 p5 p6 K) (K:Int→Int→Int→Prop):yaF p0 p1 p2 p3 p4 p5 p6 K=K r0 r1 r2 :=
 propext ⟨fun k=>detC (yoM [] ybg) (as:=[(.agg [(.int .i64 p0),(.data p1),(.data p2)]),(.agg [(.int .i64 p3),(.int .i64 p4)]),(.agg [(.int .i64 p5),(.int .i64 p6)])]) (x:=(.tup [(.agg [(.int .i64 r0),(.int .i64 r1)]),(.int .i64 r2)])) (fun K' k'=>h (fun r0 r1 r2=>K' (.tup [(.agg [(.int .i64 r0),(.int .i64 r1)]),(.int .i64 r2)])) k') (K:=fun x=>match x with | (.tup [(.agg [(.int .i64 r0),(.int .i64 r1)]),(.int .i64 r2)])=>K r0 r1 r2 | _=>False) k,h K⟩
theorem yAu (p0:Int) (p1:List PV) (p2:List PV) (r0:Int) (r1:Int) (h:∀ K:Int→Int→Prop,K r0 r1→yae p0 p1 p2 K) (K:Int→Int→Prop):yae p0 p1 p2 K=K r0 r1 :=
 propext ⟨fun k=>detC (yeY [] ybg) (as:=[(.agg [(.int .i64 p0),(.data p1),(.data p2)])]) (x:=(.tup [(.int .i64 r0),(.int .i64 r1)])) (fun K' k'=>h (fun r0 r1=>K' (.tup [(.int .i64 r0),(.int .i64 r1)])) k') (K:=fun x=>match x with | (.tup [(.int .i64 r0),(.int .i64 r1)])=>K r0 r1 | _=>False) k,h K⟩
end Go.Pf.Vc
namespace Go.Pf.Vc
open Go Go.Pf
set_option maxRecDepth 100000
abbrev ygp:Type:=Int→Int→Int→Int→(Bool→Prop)→Prop
def ynD (a0:ybJ) (p0 p1 p2 p3:Int) (K:Bool→Prop):Prop :=
 (a0 p0 p1 p2 p3 (fun yi0 yi1 =>
 (cbr (yi1 ==(0:Int))
 (K (decide (yi0<(0:Int))))
 (K false))))
def yca (p0 p1 p2 p3:Int) (K:Bool→Prop):Prop:=ynD ybK p0 p1 p2 p3 K
def ynE (w:ygp) (as:List PV) (K:PV→Prop):Prop :=
 match as with
 | [(.agg [(.int .i64 p0),(.int .i64 p1),(.int .i64 p2),(.int .i64 p3)])]=>w p0 p1 p2 p3 (fun r0=>K (.bool r0))
 | _=>False
def yrV (as:List PV) (K:PV→Prop):Prop:=ynE yca as K
def yAv (_:ybJ):LP:=fun _ _ _ _ =>
 False
def yrW (e:List (Nat×EffF)) (a0:ybJ):SE:=⟨(E e),lookS [(ycA,yfO a0)],lookI [],yAv a0⟩
theorem yyX (e:List (Nat×EffF)) (he:EG e):SEOk (yrW e ybK):=yam ⟨(yhs e he),trivial⟩ trivial he.ok
theorem yAw (e:List (Nat×EffF)) (a0 p0 p1 p2 p3 K):WP (yrW e a0) 6 yBD [(.agg [(.int .i64 p0),(.int .i64 p1),(.int .i64 p2),(.int .i64 p3)])] K=ynD a0 p0 p1 p2 p3 (fun r0=>K (.bool r0)):=by kernel_rfl
theorem yrX (e:List (Nat×EffF)) (he:EG e):OkF (E e) yrV yhW:=by
 intro as K h
 unfold yrV ynE at h
 split at h
 · exact WP_ok (yyX e he) (yag (by kernel_rfl)) (by kernel_rfl) (by kernel_rfl) (fun _=>yab (by kernel_rfl) _) (he.num _ (by kernel_rfl)) ((yAw ..).mpr h)
 · exact h.elim
abbrev yiG:Type:=List PV→(Int→Prop)→Prop
def yc3 (a0:ygp) (x0:Int→Prop) (x1:List PV→Int→Int→Bool→Prop):Nat→List PV→Int→Int→Prop
 | 0,_,_,_=>False
 | n+1,l0,i1,i2 =>
 (cbr (decide (i2<i1))
 (asr (decide ((0:Int)≤i2))
 (asr (decide (i2<(((List.length l0):Nat):Int)))
 (asr (conf (.agg [.i .i64,.i .i64,.i .i64,.i .i64]) (List.getD l0 (i2.toNat) .nils))
 (a0 (intOfV (cellAt (List.getD l0 (i2.toNat) .nils) 0)) (intOfV (cellAt (List.getD l0 (i2.toNat) .nils) 1)) (intOfV (cellAt (List.getD l0 (i2.toNat) .nils) 2)) (intOfV (cellAt (List.getD l0 (i2.toNat) .nils) 3)) (fun yb0 =>
 (cbr (!yb0)
 (x0 (8:Int))
 (yc3 a0 x0 x1 n l0 i1 (IntKind.i64.wrap (i2+(1:Int))))))))))
 (x1 l0 i1 i2 false))
def yp6 (a0:ygp) (p0:List PV) (K:Int→Prop):Prop :=
 (cbr (decide ((((List.length p0):Nat):Int)>(60:Int)))
 (K (4:Int))
 (∃ n:Nat,yc3 a0
 (fun yi1=>(K yi1))
 (fun _ _ _ _=>(K (0:Int)))
 n p0 (((List.length p0):Nat):Int) (0:Int)))
def yds (p0:List PV) (K:Int→Prop):Prop:=yp6 yca p0 K
def yp7 (w:yiG) (as:List PV) (K:PV→Prop):Prop :=
 match as with
 | [(.data p0)]=>w p0 (fun r0=>K (.int .i64 r0))
 | _=>False
def yv4 (as:List PV) (K:PV→Prop):Prop:=yp7 yds as K
def ygq (F:Frm) (H:Hp) (A0:List PV→Int→Int→Prop):Prop :=
 match F,H with
 | [(8,.v (.data l0)),(9,.v (.int .i64 i1)),(10,.v (.int .i64 i2))],[]=>(A0 l0 i1 i2)
 | _,_=>False
def ylQ (Q:Ex→Frm→Hp→Prop):Int→Prop:=(fun i0=>Q .ret [(2,.v (.int .i64 i0))] [])
def ylR (Q:Ex→Frm→Hp→Prop):List PV→Int→Int→Bool→Prop:=(fun l0 i1 i2 b3=>Q (.exit 0) [(8,.v (.data l0)),(9,.v (.int .i64 i1)),(10,.v (.int .i64 i2)),(11,.v (.bool b3))] [])
def yk5 (a0:ygp) (Q:Ex→Frm→Hp→Prop) (n:Nat) (F:Frm) (H:Hp):Prop:=ygq F H (fun l0 i1 i2=>yc3 a0 (ylQ Q) (ylR Q) n l0 i1 i2)
def ymz (a0:ygp):LP:=fun id F H Q =>
 bif Nat.beq id 56157900 then ygq F H (fun l0 i1 i2=>∃ n:Nat,yc3 a0 (ylQ Q) (ylR Q) n l0 i1 i2) else
 False
def yp8 (e:List (Nat×EffF)) (a0:ygp):SE:=⟨(E e),lookS [(yhW,ynE a0)],lookI [],ymz a0⟩
theorem yt8 (e:List (Nat×EffF)) (he:EG e):SEOk (yp8 e yca):=yam ⟨(yrX e he),trivial⟩ trivial he.ok
theorem yuO (e:List (Nat×EffF)) (a0 Q n l0 i1 i2):WC (E e) (callW (yp8 e a0) 5) (ymz a0) ynl [(8,.v (.data l0)),(9,.v (.int .i64 i1)),(10,.v (.int .i64 i2))] [] (fun x F' H'=>match x with | .norm=>yk5 a0 Q n F' H' | .exit i=>Q (.exit i) F' H' | .ret=>Q .ret F' H')=yc3 a0 (ylQ Q) (ylR Q) (n+1) l0 i1 i2:=by kernel_rfl
theorem yyY (e:List (Nat×EffF)) (_:EG e):LpOk (E e) (ymz yca) ynl:=(yag (by kernel_rfl))
theorem yxG (e:List (Nat×EffF)) (he:EG e):∀ F H Q,ymz yca 56157900 F H Q→LoopT (E e) ynl F H Q:=by
 intro F H Q h
 have go:=LoopT.intro (yaC (yt8 e he) 5) (yyY e he) (yk5 yca Q) (by
   intro F H h
   unfold yk5 ygq at h
   split at h
   · exact h
   · exact h) (by
   intro n F H h
   unfold yk5 ygq at h
   split at h
   · exact (yuO ..).mpr h
   · exact h.elim)
 have h:ygq F H _:=h
 unfold ygq at h
 split at h
 · obtain ⟨n,h⟩:=h;exact go n _ _ h
 · exact h.elim
theorem yEq (e:List (Nat×EffF)) (a0 p0 K):WP (yp8 e a0) 6 yGc [(.data p0)] K=yp6 a0 p0 (fun r0=>K (.int .i64 r0)):=by kernel_rfl
theorem yv5 (e:List (Nat×EffF)) (he:EG e):OkF (E e) yv4 ylv:=by
 intro as K h
 unfold yv4 yp7 at h
 split at h
 · exact WP_ok (yt8 e he) (ya8 (l:=[(56157900,ynl)]) ⟨yxG e he,trivial⟩ (by kernel_rfl)) (by kernel_rfl) (by kernel_rfl) (fun _=>yab (by kernel_rfl) _) (he.num _ (by kernel_rfl)) ((yEq ..).mpr h)
 · exact h.elim
abbrev ycb:Type:=Int→Int→Int→Int→(Int→Prop)→Prop
def ynF (a0:ybJ) (p0 p1 p2 p3:Int) (K:Int→Prop):Prop :=
 (a0 p0 p1 p2 p3 (fun yi0 _ =>
 (K yi0)))
def yaB (p0 p1 p2 p3:Int) (K:Int→Prop):Prop:=ynF ybK p0 p1 p2 p3 K
def yg7 (w:ycb) (as:List PV) (K:PV→Prop):Prop :=
 match as with
 | [(.agg [(.int .i64 p0),(.int .i64 p1)]),(.agg [(.int .i64 p2),(.int .i64 p3)])]=>w p0 p1 p2 p3 (fun r0=>K (.int .i64 r0))
 | _=>False
def yrY (as:List PV) (K:PV→Prop):Prop:=yg7 yaB as K
def yAx (_:ybJ):LP:=fun _ _ _ _ =>
 False
def yrZ (e:List (Nat×EffF)) (a0:ybJ):SE:=⟨(E e),lookS [(ycA,yfO a0)],lookI [],yAx a0⟩
theorem yyZ (e:List (Nat×EffF)) (he:EG e):SEOk (yrZ e ybK):=yam ⟨(yhs e he),trivial⟩ trivial he.ok
theorem yAy (e:List (Nat×EffF)) (a0 p0 p1 p2 p3 K):WP (yrZ e a0) 6 yBE [(.agg [(.int .i64 p0),(.int .i64 p1)]),(.agg [(.int .i64 p2),(.int .i64 p3)])] K=ynF a0 p0 p1 p2 p3 (fun r0=>K (.int .i64 r0)):=by kernel_rfl
theorem ynG (e:List (Nat×EffF)) (he:EG e):OkF (E e) yrY yd0:=by
 intro as K h
 unfold yrY yg7 at h
 split at h
 · exact WP_ok (yyZ e he) (yag (by kernel_rfl)) (by kernel_rfl) (by kernel_rfl) (fun _=>yab (by kernel_rfl) _) (he.num _ (by kernel_rfl)) ((yAy ..).mpr h)
 · exact h.elim
abbrev ybz:Type:=List PV→(Int→Prop)→Prop
def ybR (a0:yiG) (a1:ycb) (x0:Int→Prop) (x1:List PV→Int→Bool→Prop):Nat→List PV→Int→Prop
 | 0,_,_=>False
 | n+1,l0,i1 =>
 (cbr (decide (i1<(((List.length l0):Nat):Int)))
 (asr (decide ((0:Int)≤(IntKind.i64.wrap (i1-(1:Int)))))
 (asr (decide ((IntKind.i64.wrap (i1-(1:Int)))<(((List.length l0):Nat):Int)))
 (asr (conf (.agg [.i .i64,.i .i64,.i .i64,.i .i64]) (List.getD l0 ((IntKind.i64.wrap (i1-(1:Int))).toNat) .nils))
 (asr (decide ((0:Int)≤i1))
 (asr (decide (i1<(((List.length l0):Nat):Int)))
 (asr (conf (.agg [.i .i64,.i .i64,.i .i64,.i .i64]) (List.getD l0 (i1.toNat) .nils))
 (a1 (intOfV (cellAt (List.getD l0 ((IntKind.i64.wrap (i1-(1:Int))).toNat) .nils) 2)) (intOfV (cellAt (List.getD l0 ((IntKind.i64.wrap (i1-(1:Int))).toNat) .nils) 3)) (intOfV (cellAt (List.getD l0 (i1.toNat) .nils) 0)) (intOfV (cellAt (List.getD l0 (i1.toNat) .nils) 1)) (fun yi1 =>
 (cbr (decide (yi1≥(0:Int)))
 (x0 (8:Int))
 (ybR a0 a1 x0 x1 n l0 (IntKind.i64.wrap (i1+(1:Int)))))))))))))
 (x1 l0 i1 false))
def ynH (a0:yiG) (a1:ycb) (p0:List PV) (K:Int→Prop):Prop :=
 (a0 p0 (fun yi0 =>
 (cbr (yi0 !=(0:Int))
 (K yi0)
 (∃ n:Nat,ybR a0 a1
 (fun yi2=>(K yi2))
 (fun _ _ _=>(K (0:Int)))
 n p0 (1:Int)))))
def yaw (p0:List PV) (K:Int→Prop):Prop:=ynH yds yaB p0 K
def yg8 (w:ybz) (as:List PV) (K:PV→Prop):Prop :=
 match as with
 | [(.data p0)]=>w p0 (fun r0=>K (.int .i64 r0))
 | _=>False
def yr0 (as:List PV) (K:PV→Prop):Prop:=yg8 yaw as K
def yex (F:Frm) (H:Hp) (A0:List PV→Int→Prop):Prop :=
 match F,H with
 | [(0,.v (.data l0)),(4,.v (.int .i64 i1))],[]=>(A0 l0 i1)
 | _,_=>False
def yjn (Q:Ex→Frm→Hp→Prop):Int→Prop:=(fun i0=>Q .ret [(2,.v (.int .i64 i0))] [])
def yjo (Q:Ex→Frm→Hp→Prop):List PV→Int→Bool→Prop:=(fun l0 i1 b2=>Q (.exit 0) [(0,.v (.data l0)),(4,.v (.int .i64 i1)),(13,.v (.bool b2))] [])
def yh8 (a0:yiG) (a1:ycb) (Q:Ex→Frm→Hp→Prop) (n:Nat) (F:Frm) (H:Hp):Prop:=yex F H (fun l0 i1=>ybR a0 a1 (yjn Q) (yjo Q) n l0 i1)
def yjp (a0:yiG) (a1:ycb):LP:=fun id F H Q =>
 bif Nat.beq id 17365500 then yex F H (fun l0 i1=>∃ n:Nat,ybR a0 a1 (yjn Q) (yjo Q) n l0 i1) else
 False
def ynI (e:List (Nat×EffF)) (a0:yiG) (a1:ycb):SE:=⟨(E e),lookS [(ylv,yp7 a0),(yd0,yg7 a1)],lookI [],yjp a0 a1⟩
theorem yre (e:List (Nat×EffF)) (he:EG e):SEOk (ynI e yds yaB):=yam ⟨(yv5 e he),(ynG e he),trivial⟩ trivial he.ok
theorem yr2 (e:List (Nat×EffF)) (a0 a1 Q n l0 i1):WC (E e) (callW (ynI e a0 a1) 5) (yjp a0 a1) ynm [(0,.v (.data l0)),(4,.v (.int .i64 i1))] [] (fun x F' H'=>match x with | .norm=>yh8 a0 a1 Q n F' H' | .exit i=>Q (.exit i) F' H' | .ret=>Q .ret F' H')=ybR a0 a1 (yjn Q) (yjo Q) (n+1) l0 i1:=by kernel_rfl
theorem yv6 (e:List (Nat×EffF)) (_:EG e):LpOk (E e) (yjp yds yaB) ynm:=(yag (by kernel_rfl))
theorem yuP (e:List (Nat×EffF)) (he:EG e):∀ F H Q,yjp yds yaB 17365500 F H Q→LoopT (E e) ynm F H Q:=by
 intro F H Q h
 have go:=LoopT.intro (yaC (yre e he) 5) (yv6 e he) (yh8 yds yaB Q) (by
   intro F H h
   unfold yh8 yex at h
   split at h
   · exact h
   · exact h) (by
   intro n F H h
   unfold yh8 yex at h
   split at h
   · exact (yr2 ..).mpr h
   · exact h.elim)
 have h:yex F H _:=h
 unfold yex at h
 split at h
 · obtain ⟨n,h⟩:=h;exact go n _ _ h
 · exact h.elim
theorem yAz (e:List (Nat×EffF)) (a0 a1 p0 K):WP (ynI e a0 a1) 6 yBF [(.data p0)] K=ynH a0 a1 p0 (fun r0=>K (.int .i64 r0)):=by kernel_rfl
theorem yjq (e:List (Nat×EffF)) (he:EG e):OkF (E e) yr0 yd1:=by
 intro as K h
 unfold yr0 yg8 at h
 split at h
 · exact WP_ok (yre e he) (ya8 (l:=[(17365500,ynm)]) ⟨yuP e he,trivial⟩ (by kernel_rfl)) (by kernel_rfl) (by kernel_rfl) (fun _=>yab (by kernel_rfl) _) (he.num _ (by kernel_rfl)) ((yAz ..).mpr h)
 · exact h.elim
abbrev ygr:Type:=Int→List PV→List PV→List PV→(Int→Int→Int→Prop)→Prop
def yax (a0:yaV) (a1:ybz) (a2:ycb) (a3:yfQ) (a4:ybW) (x0:Int→List PV→List PV→Int→Int→Int→Int→List PV→Int→Int→Bool→Prop) (x1:Int→List PV→List PV→Int→Int→Int→Prop):Nat→Int→List PV→List PV→Int→Int→Int→Int→List PV→Int→Int→Prop
 | 0,_,_,_,_,_,_,_,_,_,_=>False
 | n+1,i0,l1,l2,i3,i4,i5,i6,l7,i8,i9 =>
 (cbr (decide (i9<i8))
 (asr (decide ((0:Int)≤i9))
 (asr (decide (i9<(((List.length l7):Nat):Int)))
 (lt (List.getD l7 (i9.toNat) .nils) (fun yr57 =>
 (asr (conf (.agg [.i .i64,.i .i64,.i .i64,.i .i64]) yr57)
 (a3 i0 l1 l2 (intOfV (cellAt yr57 0)) (intOfV (cellAt yr57 1)) (intOfV (cellAt yr57 2)) (intOfV (cellAt yr57 3)) (fun yi79 yi80 yi81 =>
 (cbr (yi81 !=(0:Int))
 (x1 i0 l1 l2 (0:Int) (0:Int) yi81)
 (a4 i5 i6 yi79 yi80 (fun yi85 yi86 yi87 =>
 (cbr (yi87 !=(0:Int))
 (x1 i0 l1 l2 (0:Int) (0:Int) yi87)
 (lt (IntKind.i64.wrap (i9+(1:Int))) (fun yi88 =>
 (yax a0 a1 a2 a3 a4 x0 x1 n i0 l1 l2 i3 i4 yi85 yi86 l7 i8 yi88))))))))))))))
 (x0 i0 l1 l2 i3 i4 i5 i6 l7 i8 i9 false))
def yjr (a0:yaV) (a1:ybz) (a2:ycb) (a3:yfQ) (a4:ybW) (p0:Int) (p1 p2 p3:List PV) (K:Int→Int→Int→Prop):Prop :=
 (a0 p0 p1 p2 (fun yi3 =>
 (cbr (yi3 !=(0:Int))
 (K (0:Int) (0:Int) yi3)
 (a1 p3 (fun yi7 =>
 (cbr (yi7 !=(0:Int))
 (K (0:Int) (0:Int) yi7)
 (jn (fun (yj23:Bool→Prop) =>
 (cbr (decide ((((List.length p3):Nat):Int)>(0:Int)))
 (asr (decide ((0:Int)<(((List.length p3):Nat):Int)))
 (lt (List.getD p3 0 .nils) (fun yr239 =>
 (asr (conf (.agg [.i .i64,.i .i64,.i .i64,.i .i64]) yr239)
 (cbr (decide ((intOfV (cellAt yr239 0))<(0:Int)))
 (yj23 true)
 (lt (IntKind.i64.wrap ((((List.length p3):Nat):Int)-(1:Int))) (fun yi240 =>
 (asr (decide ((0:Int)≤yi240))
 (asr (decide (yi240<(((List.length p3):Nat):Int)))
 (lt (List.getD p3 (yi240.toNat) .nils) (fun yr241 =>
 (asr (conf (.agg [.i .i64,.i .i64,.i .i64,.i .i64]) yr241)
 (a2 (intOfV (cellAt yr241 2)) (intOfV (cellAt yr241 3)) p0 (1:Int) (fun yi242 =>
 (yj23 (decide (yi242>(0:Int))))))))))))))))))
 (yj23 false)))
 (fun yb22=>(cbr yb22
 (K (0:Int) (0:Int) (2:Int))
 (jn (fun (yj204:Int→List PV→List PV→Int→Int→Int→Prop) =>
 (∃ n:Nat,yax a0 a1 a2 a3 a4
 (fun yi222 yl223 yl224 _ _ yi227 yi228 _ _ _ _=>(yj204 yi222 yl223 yl224 yi227 yi228 (0:Int)))
 (fun yi233 yl234 yl235 yi236 yi237 yi238=>(yj204 yi233 yl234 yl235 yi236 yi237 yi238))
 n p0 p1 p2 (0:Int) (0:Int) (0:Int) (1:Int) p3 (((List.length p3):Nat):Int) (0:Int)))
 (fun _ _ _ yi201 yi202 yi203=>(K yi201 yi202 yi203))))))))))))
def yar (p0:Int) (p1 p2 p3:List PV) (K:Int→Int→Int→Prop):Prop:=yjr yan yaw yaB yaF yaE p0 p1 p2 p3 K
def yjs (w:ygr) (as:List PV) (K:PV→Prop):Prop :=
 match as with
 | [(.agg [(.int .i64 p0),(.data p1),(.data p2)]),(.data p3)]=>w p0 p1 p2 p3 (fun r0 r1 r2=>K (.tup [(.agg [(.int .i64 r0),(.int .i64 r1)]),(.int .i64 r2)]))
 | _=>False
def yjt (as:List PV) (K:PV→Prop):Prop:=yjs yar as K
def yey (F:Frm) (H:Hp) (A0:Int→List PV→List PV→Int→Int→Int→Int→List PV→Int→Int→Prop):Prop :=
 match F,H with
 | [(1,.v (.fn (.func q0) [] [(.ptr 0 1 0 0)])),(4,.box (.agg [(.int .i64 i3),(.int .i64 i4)])),(6,.box (.agg [(.int .i64 i5),(.int .i64 i6)])),(12,.v (.data l7)),(13,.v (.int .i64 i8)),(14,.v (.int .i64 i9))],[⟨false,true,3,[(.agg [(.int .i64 i0),(.data l1),(.data l2)])]⟩]=>asr (Nat.beq q0 ydI) (A0 i0 l1 l2 i3 i4 i5 i6 l7 i8 i9)
 | _,_=>False
def yju (Q:Ex→Frm→Hp→Prop):Int→List PV→List PV→Int→Int→Int→Int→List PV→Int→Int→Bool→Prop:=(fun i0 l1 l2 i3 i4 i5 i6 l7 i8 i9 b10=>Q (.exit 0) [(1,.v (.fn (.func ydI) [] [(.ptr 0 1 0 0)])),(4,.box (.agg [(.int .i64 i3),(.int .i64 i4)])),(6,.box (.agg [(.int .i64 i5),(.int .i64 i6)])),(12,.v (.data l7)),(13,.v (.int .i64 i8)),(14,.v (.int .i64 i9)),(15,.v (.bool b10))] [⟨false,true,3,([(.agg [(.int .i64 i0),(.data l1),(.data l2)])]:List PV)⟩])
def yjv (Q:Ex→Frm→Hp→Prop):Int→List PV→List PV→Int→Int→Int→Prop:=(fun i0 l1 l2 i3 i4 i5=>Q .ret [(4,.box (.agg [(.int .i64 i3),(.int .i64 i4)])),(5,.v (.int .i64 i5))] [⟨false,true,3,([(.agg [(.int .i64 i0),(.data l1),(.data l2)])]:List PV)⟩])
def yh9 (a0:yaV) (a1:ybz) (a2:ycb) (a3:yfQ) (a4:ybW) (Q:Ex→Frm→Hp→Prop) (n:Nat) (F:Frm) (H:Hp):Prop:=yey F H (fun i0 l1 l2 i3 i4 i5 i6 l7 i8 i9=>yax a0 a1 a2 a3 a4 (yju Q) (yjv Q) n i0 l1 l2 i3 i4 i5 i6 l7 i8 i9)
def yg9 (a0:yaV) (a1:ybz) (a2:ycb) (a3:yfQ) (a4:ybW):LP:=fun id F H Q =>
 bif Nat.beq id 87165700 then yey F H (fun i0 l1 l2 i3 i4 i5 i6 l7 i8 i9=>∃ n:Nat,yax a0 a1 a2 a3 a4 (yju Q) (yjv Q) n i0 l1 l2 i3 i4 i5 i6 l7 i8 i9) else
 False
def yr3 (e:List (Nat×EffF)) (a0:yaV) (a1:ybz) (a2:ycb) (a3:yfQ) (a4:ybW):SE:=⟨(E e),lookS [(yct,yeX a0),(yd1,yg8 a1),(yd0,yg7 a2),(yho,yk1 a3),(yd3,yht a4)],lookI [(ydI,yrb)],yg9 a0 a1 a2 a3 a4⟩
def yr7 (e:List (Nat×EffF)) (a0:yaV) (a1:ybz) (a2:ycb) (a3:yfQ) (a4:ybW):SE:=⟨(E e),lookS [(yct,yeX a0),(yd1,yg8 a1),(yd0,yg7 a2),(yho,yk1 a3),(yd3,yht a4)],lookI [(yrA,yGh),(ydI,yrb)],yg9 a0 a1 a2 a3 a4⟩
theorem yy0 (e:List (Nat×EffF)) (he:EG e):SEOk (yr3 e yan yaw yaB yaF yaE):=yam ⟨(ygo e he),(yjq e he),(ynG e he),(yoM e he),(yji e he),trivial⟩ ⟨⟨by kernel_rfl,by kernel_rfl,rfl,fun as=>yab (by kernel_rfl) as,he.num _ (by kernel_rfl),(yag (by kernel_rfl))⟩,trivial⟩ he.ok
theorem yr8 (e:List (Nat×EffF)) (a0 a1 a2 a3 a4 Q n i0 l1 l2 i3 i4 i5 i6 l7 i8 i9):WC (E e) (callW (yr3 e a0 a1 a2 a3 a4) 5) (yg9 a0 a1 a2 a3 a4) yno [(1,.v (.fn (.func ydI) [] [(.ptr 0 1 0 0)])),(4,.box (.agg [(.int .i64 i3),(.int .i64 i4)])),(6,.box (.agg [(.int .i64 i5),(.int .i64 i6)])),(12,.v (.data l7)),(13,.v (.int .i64 i8)),(14,.v (.int .i64 i9))] [⟨false,true,3,([(.agg [(.int .i64 i0),(.data l1),(.data l2)])]:List PV)⟩] (fun x F' H'=>match x with | .norm=>yh9 a0 a1 a2 a3 a4 Q n F' H' | .exit i=>Q (.exit i) F' H' | .ret=>Q .ret F' H')=yax a0 a1 a2 a3 a4 (yju Q) (yjv Q) (n+1) i0 l1 l2 i3 i4 i5 i6 l7 i8 i9:=by kernel_rfl
theorem yv7 (e:List (Nat×EffF)) (_:EG e):LpOk (E e) (yg9 yan yaw yaB yaF yaE) yno:=(yag (by kernel_rfl))
theorem yuQ (e:List (Nat×EffF)) (he:EG e):∀ F H Q,yg9 yan yaw yaB yaF yaE 87165700 F H Q→LoopT (E e) yno F H Q:=by
 intro F H Q h
 have go:=LoopT.intro (yaC (yy0 e he) 5) (yv7 e he) (yh9 yan yaw yaB yaF yaE Q) (by
   intro F H h
   unfold yh9 yey at h
   split at h
   · obtain ⟨hg,k⟩:=yai.1 h
     clear h
     have h:=k
     clear k
     try simp only [Bool.and_eq_true,decide_eq_true_eq] at hg
     have g0:=hg;have g0:=Nat.eq_of_beq_eq_true g0;subst g0;exact h
   · exact h) (by
   intro n F H h
   unfold yh9 yey at h
   split at h
   · obtain ⟨hg,k⟩:=yai.1 h
     clear h
     have h:=k
     clear k
     try simp only [Bool.and_eq_true,decide_eq_true_eq] at hg
     have g0:=hg;have g0:=Nat.eq_of_beq_eq_true g0;subst g0;exact (yr8 ..).mpr h
   · exact h.elim)
 have h:yey F H _:=h
 unfold yey at h
 split at h
 · obtain ⟨hg,n,h⟩:=yai.1 h;exact go n _ _ (yai.2 ⟨hg,h⟩)
 · exact h.elim
theorem yy1 (e:List (Nat×EffF)) (he:EG e):SEOk (yr7 e yan yaw yaB yaF yaE):=yam ⟨(ygo e he),(yjq e he),(ynG e he),(yoM e he),(yji e he),trivial⟩ ⟨⟨by kernel_rfl,by kernel_rfl,rfl,fun as=>yab (by kernel_rfl) as,he.num _ (by kernel_rfl),(ya8 (l:=[(87165700,yno)]) ⟨yuQ e he,trivial⟩ (by kernel_rfl))⟩,⟨by kernel_rfl,by kernel_rfl,rfl,fun as=>yab (by kernel_rfl) as,he.num _ (by kernel_rfl),(yag (by kernel_rfl))⟩,trivial⟩ he.ok
theorem yAA (e:List (Nat×EffF)) (a0 a1 a2 a3 a4 p0 p1 p2 p3 K):WP (yr7 e a0 a1 a2 a3 a4) 6 yBI [(.agg [(.int .i64 p0),(.data p1),(.data p2)]),(.data p3)] K=yjr a0 a1 a2 a3 a4 p0 p1 p2 p3 (fun r0 r1 r2=>K (.tup [(.agg [(.int .i64 r0),(.int .i64 r1)]),(.int .i64 r2)])):=by kernel_rfl
theorem ynJ (e:List (Nat×EffF)) (he:EG e):OkF (E e) yjt yby:=by
 intro as K h
 unfold yjt yjs at h
 split at h
 · exact WP_ok (yy1 e he) (yag (by kernel_rfl)) (by kernel_rfl) (by kernel_rfl) (fun _=>yab (by kernel_rfl) _) (he.num _ (by kernel_rfl)) ((yAA ..).mpr h)
 · exact h.elim
end Go.Pf.Vc
namespace Go.Pf.Vc
open Go Go.Pf
set_option linter.unusedVariables false
theorem yy2 (p0:Int) (p1:Int) (p2:Int) (p3:Int) (r0:Bool) (h:∀ K:Bool→Prop,K r0→yca p0 p1 p2 p3 K) (K:Bool→Prop):yca p0 p1 p2 p3 K=K r0 :=
 propext ⟨fun k=>detC (yrX [] ybg) (as:=[(.agg [(.int .i64 p0),(.int .i64 p1),(.int .i64 p2),(.int .i64 p3)])]) (x:=(.bool r0)) (fun K' k'=>h (fun r0=>K' (.bool r0)) k') (K:=fun x=>match x with | (.bool r0)=>K r0 | _=>False) k,h K⟩
theorem yCe (p0:List PV) (r0:Int) (h:∀ K:Int→Prop,K r0→yds p0 K) (K:Int→Prop):yds p0 K=K r0 :=
 propext ⟨fun k=>detC (yv5 [] ybg) (as:=[(.data p0)]) (x:=(.int .i64 r0)) (fun K' k'=>h (fun r0=>K' (.int .i64 r0)) k') (K:=fun x=>match x with | (.int .i64 r0)=>K r0 | _=>False) k,h K⟩
theorem yy3 (p0:List PV) (r0:Int) (h:∀ K:Int→Prop,K r0→yaw p0 K) (K:Int→Prop):yaw p0 K=K r0 :=
 propext ⟨fun k=>detC (yjq [] ybg) (as:=[(.data p0)]) (x:=(.int .i64 r0)) (fun K' k'=>h (fun r0=>K' (.int .i64 r0)) k') (K:=fun x=>match x with | (.int .i64 r0)=>K r0 | _=>False) k,h K⟩
theorem yrf (p0:Int) (p1:List PV) (p2:List PV) (p3:List PV) (r0:Int) (r1:Int) (r2:Int) (h:∀ K:Int→Int→Int→Prop,K r0 r1 r2→yar p0 p1 p2 p3 K) (K:Int→Int→Int→Prop):yar p0 p1 p2 p3 K=K r0 r1 r2 :=
 propext ⟨fun k=>detC (ynJ [] ybg) (as:=[(.agg [(.int .i64 p0),(.data p1),(.data p2)]),(.data p3)]) (x:=(.tup [(.agg [(.int .i64 r0),(.int .i64 r1)]),(.int .i64 r2)])) (fun K' k'=>h (fun r0 r1 r2=>K' (.tup [(.agg [(.int .i64 r0),(.int .i64 r1)]),(.int .i64 r2)])) k') (K:=fun x=>match x with | (.tup [(.agg [(.int .i64 r0),(.int .i64 r1)]),(.int .i64 r2)])=>K r0 r1 r2 | _=>False) k,h K⟩
end Go.Pf.Vc
namespace Go.Pf.Vc
open Go Go.Pf
set_option maxRecDepth 100000
abbrev yfC:Type:=List PV→List PV→(Int→Prop)→Prop
def yc4 (a0:yaV) (x12157600_0:Int→Prop) (x12157600_1:List PV→List PV→List PV→Int→Int→Bool→Prop):Nat→List PV→List PV→List PV→Int→Int→Prop
 | 0,_,_,_,_,_=>False
 | n12157600+1,l0,l1,l2,i3,i4 =>
 (cbr (decide (i4<i3))
 (asr (decide ((0:Int)≤i4))
 (asr (decide (i4<(((List.length l2):Nat):Int)))
 (asr (conf (.agg [.i .i64,.d,.d]) (List.getD l2 (i4.toNat) .nils))
 (a0 (intOfV (cellAt (List.getD l2 (i4.toNat) .nils) 0)) (datOfV (cellAt (List.getD l2 (i4.toNat) .nils) 1)) (datOfV (cellAt (List.getD l2 (i4.toNat) .nils) 2)) (fun yi0 =>
 (cbr (yi0 !=(0:Int))
 (x12157600_0 yi0)
 (yc4 a0 x12157600_0 x12157600_1 n12157600 l0 l1 l2 i3 (IntKind.i64.wrap (i4+(1:Int))))))))))
 (x12157600_1 l0 l1 l2 i3 i4 false))
def ycu (a0:yaV) (x12157601_0:Int→Prop) (x12157601_1:List PV→List PV→List PV→Int→Int→Bool→Prop):Nat→List PV→List PV→List PV→Int→Int→Prop
 | 0,_,_,_,_,_=>False
 | n12157601+1,l0,l1,l2,i3,i4 =>
 (cbr (decide (i4<i3))
 (asr (decide ((0:Int)≤i4))
 (asr (decide (i4<(((List.length l2):Nat):Int)))
 (asr (conf (.agg [.i .i64,.d,.d]) (List.getD l2 (i4.toNat) .nils))
 (asr (decide ((0:Int)<(((List.length l0):Nat):Int)))
 (asr (conf (.agg [.i .i64,.d,.d]) (List.getD l0 0 .nils))
 (cbr ((intOfV (cellAt (List.getD l2 (i4.toNat) .nils) 0)) !=(intOfV (cellAt (List.getD l0 0 .nils) 0)))
 (x12157601_0 (8:Int))
 (ycu a0 x12157601_0 x12157601_1 n12157601 l0 l1 l2 i3 (IntKind.i64.wrap (i4+(1:Int))))))))))
 (x12157601_1 l0 l1 l2 i3 i4 false))
def yp9 (a0:yaV) (p0 p1:List PV) (K:Int→Prop):Prop :=
 (cbr (decide ((((List.length p0):Nat):Int)>(6:Int)))
 (K (4:Int))
 (cbr (decide ((((List.length p1):Nat):Int)>(2000:Int)))
 (K (4:Int))
 (cbr ((((List.length p0):Nat):Int) ==(0:Int))
 (K (8:Int))
 (∃ n12157600:Nat,yc4 a0
 (fun yi1=>(K yi1))
 (fun yl2 yl3 _ _ _ _=>(∃ n12157601:Nat,ycu a0
 (fun yi8=>(K yi8))
 (fun _ _ _ _ _ _=>(K (0:Int)))
 n12157601 yl2 yl3 yl2 (((List.length yl2):Nat):Int) (0:Int)))
 n12157600 p0 p1 p0 (((List.length p0):Nat):Int) (0:Int)))))
def ycG (p0 p1:List PV) (K:Int→Prop):Prop:=yp9 yan p0 p1 K
def yqa (w:yfC) (as:List PV) (K:PV→Prop):Prop :=
 match as with
 | [(.agg [(.data p0),(.data p1)])]=>w p0 p1 (fun r0=>K (.int .i64 r0))
 | _=>False
def yv8 (as:List PV) (K:PV→Prop):Prop:=yqa ycG as K
def ygs (F:Frm) (H:Hp) (A0:List PV→List PV→List PV→Int→Int→Prop):Prop :=
 match F,H with
 | [(1,.box (.agg [(.data l0),(.data l1)])),(23,.v (.data l2)),(24,.v (.int .i64 i3)),(25,.v (.int .i64 i4))],[]=>(A0 l0 l1 l2 i3 i4)
 | _,_=>False
def ygt (F:Frm) (H:Hp) (A0:List PV→List PV→List PV→Int→Int→Prop):Prop :=
 match F,H with
 | [(1,.box (.agg [(.data l0),(.data l1)])),(36,.v (.data l2)),(37,.v (.int .i64 i3)),(38,.v (.int .i64 i4))],[]=>(A0 l0 l1 l2 i3 i4)
 | _,_=>False
def ylS (Q:Ex→Frm→Hp→Prop):Int→Prop:=(fun i0=>Q .ret [(2,.v (.int .i64 i0))] [])
def ylT (Q:Ex→Frm→Hp→Prop):List PV→List PV→List PV→Int→Int→Bool→Prop:=(fun l0 l1 l2 i3 i4 b5=>Q (.exit 0) [(1,.box (.agg [(.data l0),(.data l1)])),(23,.v (.data l2)),(24,.v (.int .i64 i3)),(25,.v (.int .i64 i4)),(26,.v (.bool b5))] [])
def ylU (Q:Ex→Frm→Hp→Prop):Int→Prop:=(fun i0=>Q .ret [(2,.v (.int .i64 i0))] [])
def ylV (Q:Ex→Frm→Hp→Prop):List PV→List PV→List PV→Int→Int→Bool→Prop:=(fun l0 l1 l2 i3 i4 b5=>Q (.exit 2) [(1,.box (.agg [(.data l0),(.data l1)])),(36,.v (.data l2)),(37,.v (.int .i64 i3)),(38,.v (.int .i64 i4)),(39,.v (.bool b5))] [])
def yk6 (a0:yaV) (Q:Ex→Frm→Hp→Prop) (n:Nat) (F:Frm) (H:Hp):Prop:=ygs F H (fun l0 l1 l2 i3 i4=>yc4 a0 (ylS Q) (ylT Q) n l0 l1 l2 i3 i4)
def yk7 (a0:yaV) (Q:Ex→Frm→Hp→Prop) (n:Nat) (F:Frm) (H:Hp):Prop:=ygt F H (fun l0 l1 l2 i3 i4=>ycu a0 (ylU Q) (ylV Q) n l0 l1 l2 i3 i4)
def yfR (a0:yaV):LP:=fun id F H Q =>
 bif Nat.beq id 12157600 then ygs F H (fun l0 l1 l2 i3 i4=>∃ n:Nat,yc4 a0 (ylS Q) (ylT Q) n l0 l1 l2 i3 i4) else
 bif Nat.beq id 12157601 then ygt F H (fun l0 l1 l2 i3 i4=>∃ n:Nat,ycu a0 (ylU Q) (ylV Q) n l0 l1 l2 i3 i4) else
 False
def ymA (e:List (Nat×EffF)) (a0:yaV):SE:=⟨(E e),lookS [(yct,yeX a0)],lookI [],yfR a0⟩
theorem yoO (e:List (Nat×EffF)) (he:EG e):SEOk (ymA e yan):=yam ⟨(ygo e he),trivial⟩ trivial he.ok
theorem yuR (e:List (Nat×EffF)) (a0 Q n l0 l1 l2 i3 i4):WC (E e) (callW (ymA e a0) 5) (yfR a0) yng [(1,.box (.agg [(.data l0),(.data l1)])),(23,.v (.data l2)),(24,.v (.int .i64 i3)),(25,.v (.int .i64 i4))] [] (fun x F' H'=>match x with | .norm=>yk6 a0 Q n F' H' | .exit i=>Q (.exit i) F' H' | .ret=>Q .ret F' H')=yc4 a0 (ylS Q) (ylT Q) (n+1) l0 l1 l2 i3 i4:=by kernel_rfl
theorem yy4 (e:List (Nat×EffF)) (_:EG e):LpOk (E e) (yfR yan) yng:=(yag (by kernel_rfl))
theorem yxH (e:List (Nat×EffF)) (he:EG e):∀ F H Q,yfR yan 12157600 F H Q→LoopT (E e) yng F H Q:=by
 intro F H Q h
 have go:=LoopT.intro (yaC (yoO e he) 5) (yy4 e he) (yk6 yan Q) (by
   intro F H h
   unfold yk6 ygs at h
   split at h
   · exact h
   · exact h) (by
   intro n F H h
   unfold yk6 ygs at h
   split at h
   · exact (yuR ..).mpr h
   · exact h.elim)
 have h:ygs F H _:=h
 unfold ygs at h
 split at h
 · obtain ⟨n,h⟩:=h;exact go n _ _ h
 · exact h.elim
theorem yuS (e:List (Nat×EffF)) (a0 Q n l0 l1 l2 i3 i4):WC (E e) (callW (ymA e a0) 5) (yfR a0) ynh [(1,.box (.agg [(.data l0),(.data l1)])),(36,.v (.data l2)),(37,.v (.int .i64 i3)),(38,.v (.int .i64 i4))] [] (fun x F' H'=>match x with | .norm=>yk7 a0 Q n F' H' | .exit i=>Q (.exit i) F' H' | .ret=>Q .ret F' H')=ycu a0 (ylU Q) (ylV Q) (n+1) l0 l1 l2 i3 i4:=by kernel_rfl
theorem yy5 (e:List (Nat×EffF)) (_:EG e):LpOk (E e) (yfR yan) ynh:=(yag (by kernel_rfl))
theorem yxI (e:List (Nat×EffF)) (he:EG e):∀ F H Q,yfR yan 12157601 F H Q→LoopT (E e) ynh F H Q:=by
 intro F H Q h
 have go:=LoopT.intro (yaC (yoO e he) 5) (yy5 e he) (yk7 yan Q) (by
   intro F H h
   unfold yk7 ygt at h
   split at h
   · exact h
   · exact h) (by
   intro n F H h
   unfold yk7 ygt at h
   split at h
   · exact (yuS ..).mpr h
   · exact h.elim)
 have h:ygt F H _:=h
 unfold ygt at h
 split at h
 · obtain ⟨n,h⟩:=h;exact go n _ _ h
 · exact h.elim
theorem yEr (e:List (Nat×EffF)) (a0 p0 p1 K):WP (ymA e a0) 6 yF9 [(.agg [(.data p0),(.data p1)])] K=yp9 a0 p0 p1 (fun r0=>K (.int .i64 r0)):=by kernel_rfl
theorem yv9 (e:List (Nat×EffF)) (he:EG e):OkF (E e) yv8 ylu:=by
 intro as K h
 unfold yv8 yqa at h
 split at h
 · exact WP_ok (yoO e he) (ya8 (l:=[(12157600,yng),(12157601,ynh)]) ⟨yxH e he,yxI e he,trivial⟩ (by kernel_rfl)) (by kernel_rfl) (by kernel_rfl) (fun _=>yab (by kernel_rfl) _) (he.num _ (by kernel_rfl)) ((yEr ..).mpr h)
 · exact h.elim
end Go.Pf.Vc
namespace Go.Pf.Vc
open Go Go.Pf
set_option linter.unusedVariables false
theorem yCf (p0:List PV) (p1:List PV) (r0:Int) (h:∀ K:Int→Prop,K r0→ycG p0 p1 K) (K:Int→Prop):ycG p0 p1 K=K r0 :=
 propext ⟨fun k=>detC (yv9 [] ybg) (as:=[(.agg [(.data p0),(.data p1)])]) (x:=(.int .i64 r0)) (fun K' k'=>h (fun r0=>K' (.int .i64 r0)) k') (K:=fun x=>match x with | (.int .i64 r0)=>K r0 | _=>False) k,h K⟩
end Go.Pf.Vc
namespace Go.Pf.Vc
open Go Go.Pf
set_option maxRecDepth 100000
abbrev ygu:Type:=Int→(Int→Prop)→Prop
def yuT (p0:Int) (K:Int→Prop):Prop :=
 (cbr (decide (p0<(0:Int)))
 (K (IntKind.u64.wrap ((IntKind.u64.wrap (IntKind.i64.wrap ((0:Int)-(IntKind.i64.wrap (p0+(1:Int))))))+(1:Int))))
 (K (IntKind.u64.wrap p0)))
def yhy (p0:Int) (K:Int→Prop):Prop:=yuT p0 K
def ynK (w:ygu) (as:List PV) (K:PV→Prop):Prop :=
 match as with
 | [(.int .i64 p0)]=>w p0 (fun r0=>K (.int .u64 r0))
 | _=>False
def yAB (as:List PV) (K:PV→Prop):Prop:=ynK yhy as K
def yIu:LP:=fun _ _ _ _ =>
 False
def yAC (e:List (Nat×EffF)):SE:=⟨(E e),lookS [],lookI [],yIu⟩
theorem yGp (e:List (Nat×EffF)) (he:EG e):SEOk (yAC e):=yam trivial trivial he.ok
theorem yIv (e:List (Nat×EffF)) ( p0 K):WP (yAC e) 6 yKc [(.int .i64 p0)] K=yuT p0 (fun r0=>K (.int .u64 r0)):=by kernel_rfl
theorem yuU (e:List (Nat×EffF)) (he:EG e):OkF (E e) yAB yfj:=by
 intro as K h
 unfold yAB ynK at h
 split at h
 · exact WP_ok (yGp e he) (yag (by kernel_rfl)) (by kernel_rfl) (by kernel_rfl) (fun _=>yab (by kernel_rfl) _) (he.num _ (by kernel_rfl)) ((yIv ..).mpr h)
 · exact h.elim
abbrev ykz:Type:=Int→Int→(Int→Prop)→Prop
def yeZ (x0:Int→Int→Bool→Prop):Nat→Int→Int→Prop
 | 0,_,_=>False
 | n+1,i0,i1 =>
 (cbr (i1 !=(0:Int))
 (asr (!(decide (i1=(0:Int))))
 (yeZ x0 n i1 (Int.tmod i0 i1)))
 (x0 i0 i1 false))
def yuV (p0 p1:Int) (K:Int→Prop):Prop :=
 (∃ n:Nat,yeZ
 (fun yi0 _ _=>(K yi0))
 n p0 p1)
def yez (p0 p1:Int) (K:Int→Prop):Prop:=yuV p0 p1 K
def yqb (w:ykz) (as:List PV) (K:PV→Prop):Prop :=
 match as with
 | [(.int .u64 p0),(.int .u64 p1)]=>w p0 p1 (fun r0=>K (.int .u64 r0))
 | _=>False
def yAD (as:List PV) (K:PV→Prop):Prop:=yqb yez as K
def yiH (F:Frm) (H:Hp) (A0:Int→Int→Prop):Prop :=
 match F,H with
 | [(0,.v (.int .u64 i0)),(1,.v (.int .u64 i1))],[]=>(A0 i0 i1)
 | _,_=>False
def yoP (Q:Ex→Frm→Hp→Prop):Int→Int→Bool→Prop:=(fun i0 i1 b2=>Q (.exit 0) [(0,.v (.int .u64 i0)),(1,.v (.int .u64 i1)),(6,.v (.bool b2))] [])
def yoh (Q:Ex→Frm→Hp→Prop) (n:Nat) (F:Frm) (H:Hp):Prop:=yiH F H (fun i0 i1=>yeZ (yoP Q) n i0 i1)
def yqc:LP:=fun id F H Q =>
 bif Nat.beq id 16774900 then yiH F H (fun i0 i1=>∃ n:Nat,yeZ (yoP Q) n i0 i1) else
 False
def yuW (e:List (Nat×EffF)):SE:=⟨(E e),lookS [],lookI [],yqc⟩
theorem yyq (e:List (Nat×EffF)) (he:EG e):SEOk (yuW e):=yam trivial trivial he.ok
theorem yxJ (e:List (Nat×EffF)) ( Q n i0 i1):WC (E e) (callW (yuW e) 5) (yqc) ym9 [(0,.v (.int .u64 i0)),(1,.v (.int .u64 i1))] [] (fun x F' H'=>match x with | .norm=>yoh Q n F' H' | .exit i=>Q (.exit i) F' H' | .ret=>Q .ret F' H')=yeZ (yoP Q) (n+1) i0 i1:=by kernel_rfl
theorem yCg (e:List (Nat×EffF)) (_:EG e):LpOk (E e) (yqc) ym9:=(yag (by kernel_rfl))
theorem yAE (e:List (Nat×EffF)) (he:EG e):∀ F H Q,yqc 16774900 F H Q→LoopT (E e) ym9 F H Q:=by
 intro F H Q h
 have go:=LoopT.intro (yaC (yyq e he) 5) (yCg e he) (yoh Q) (by
   intro F H h
   unfold yoh yiH at h
   split at h
   · exact h
   · exact h) (by
   intro n F H h
   unfold yoh yiH at h
   split at h
   · exact (yxJ ..).mpr h
   · exact h.elim)
 have h:yiH F H _:=h
 unfold yiH at h
 split at h
 · obtain ⟨n,h⟩:=h;exact go n _ _ h
 · exact h.elim
theorem yIw (e:List (Nat×EffF)) ( p0 p1 K):WP (yuW e) 6 yKd [(.int .u64 p0),(.int .u64 p1)] K=yuV p0 p1 (fun r0=>K (.int .u64 r0)):=by kernel_rfl
theorem yuX (e:List (Nat×EffF)) (he:EG e):OkF (E e) yAD yiv:=by
 intro as K h
 unfold yAD yqb at h
 split at h
 · exact WP_ok (yyq e he) (ya8 (l:=[(16774900,ym9)]) ⟨yAE e he,trivial⟩ (by kernel_rfl)) (by kernel_rfl) (by kernel_rfl) (fun _=>yab (by kernel_rfl) _) (he.num _ (by kernel_rfl)) ((yIw ..).mpr h)
 · exact h.elim
abbrev ycj:Type:=Int→Int→(Int→Prop)→Prop
def yqd (a0:ygu) (a1:ykz) (p0 p1:Int) (K:Int→Prop):Prop :=
 (cbr (decide (p1<(1:Int)))
 (K (8:Int))
 (cbr (decide (p1>(1000000000000000000:Int)))
 (K (8:Int))
 (cbr (decide (p0<(-1000000000000000000:Int)))
 (K (8:Int))
 (cbr (decide (p0>(1000000000000000000:Int)))
 (K (8:Int))
 (a0 p0 (fun yi0 =>
 (a1 yi0 (IntKind.u64.wrap p1) (fun yi1 =>
 (cbr (yi1 !=(1:Int))
 (K (8:Int))
 (K (0:Int)))))))))))
def ybN (p0 p1:Int) (K:Int→Prop):Prop:=yqd yhy yez p0 p1 K
def yjw (w:ycj) (as:List PV) (K:PV→Prop):Prop :=
 match as with
 | [(.agg [(.int .i64 p0),(.int .i64 p1)])]=>w p0 p1 (fun r0=>K (.int .i64 r0))
 | _=>False
def ywa (as:List PV) (K:PV→Prop):Prop:=yjw ybN as K
def yEs (_:ygu) (_:ykz):LP:=fun _ _ _ _ =>
 False
def ywb (e:List (Nat×EffF)) (a0:ygu) (a1:ykz):SE:=⟨(E e),lookS [(yfj,ynK a0),(yiv,yqb a1)],lookI [],yEs a0 a1⟩
theorem yCh (e:List (Nat×EffF)) (he:EG e):SEOk (ywb e yhy yez):=yam ⟨(yuU e he),(yuX e he),trivial⟩ trivial he.ok
theorem yEt (e:List (Nat×EffF)) (a0 a1 p0 p1 K):WP (ywb e a0 a1) 6 yF1 [(.agg [(.int .i64 p0),(.int .i64 p1)])] K=yqd a0 a1 p0 p1 (fun r0=>K (.int .i64 r0)):=by kernel_rfl
theorem yqe (e:List (Nat×EffF)) (he:EG e):OkF (E e) ywa ycZ:=by
 intro as K h
 unfold ywa yjw at h
 split at h
 · exact WP_ok (yCh e he) (yag (by kernel_rfl)) (by kernel_rfl) (by kernel_rfl) (fun _=>yab (by kernel_rfl) _) (he.num _ (by kernel_rfl)) ((yEt ..).mpr h)
 · exact h.elim
abbrev yik:Type:=Int→Int→Int→Int→(Int→Prop)→Prop
def ysa (a0:ycj) (p0 p1 p2 p3:Int) (K:Int→Prop):Prop :=
 (a0 p0 p1 (fun yi0 =>
 (cbr (yi0 !=(0:Int))
 (a0 p0 p1 (fun yi1 =>
 (K yi1)))
 (a0 p2 p3 (fun yi2 =>
 (K yi2))))))
def yil (p0 p1 p2 p3:Int) (K:Int→Prop):Prop:=ysa ybN p0 p1 p2 p3 K
def yoi (w:yik) (as:List PV) (K:PV→Prop):Prop :=
 match as with
 | [(.agg [(.int .i64 p0),(.int .i64 p1)]),(.agg [(.int .i64 p2),(.int .i64 p3)])]=>w p0 p1 p2 p3 (fun r0=>K (.int .i64 r0))
 | _=>False
def yyr (as:List PV) (K:PV→Prop):Prop:=yoi yil as K
def yGq (_:ycj):LP:=fun _ _ _ _ =>
 False
def yys (e:List (Nat×EffF)) (a0:ycj):SE:=⟨(E e),lookS [(ycZ,yjw a0)],lookI [],yGq a0⟩
theorem yEu (e:List (Nat×EffF)) (he:EG e):SEOk (yys e ybN):=yam ⟨(yqe e he),trivial⟩ trivial he.ok
theorem yGr (e:List (Nat×EffF)) (a0 p0 p1 p2 p3 K):WP (yys e a0) 6 yIb [(.agg [(.int .i64 p0),(.int .i64 p1)]),(.agg [(.int .i64 p2),(.int .i64 p3)])] K=ysa a0 p0 p1 p2 p3 (fun r0=>K (.int .i64 r0)):=by kernel_rfl
theorem yyt (e:List (Nat×EffF)) (he:EG e):OkF (E e) yyr yg0:=by
 intro as K h
 unfold yyr yoi at h
 split at h
 · exact WP_ok (yEu e he) (yag (by kernel_rfl)) (by kernel_rfl) (by kernel_rfl) (fun _=>yab (by kernel_rfl) _) (he.num _ (by kernel_rfl)) ((yGr ..).mpr h)
 · exact h.elim
abbrev yha:Type:=Int→Int→(Int→Int→Prop)→Prop
def yqf (p0 p1:Int) (K:Int→Int→Prop):Prop :=
 (K (IntKind.u64.wrap ((IntKind.u64.wrap ((IntKind.u64.wrap ((Int.fdiv p0 4294967296)*(Int.fdiv p1 4294967296)))+(Int.fdiv (IntKind.u64.wrap ((Int.fdiv p0 4294967296)*(IntKind.u64.wrap (BitVec.ofInt IntKind.u64.bits p1&&&BitVec.ofInt IntKind.u64.bits (4294967295:Int)).toNat))) 4294967296)))+(Int.fdiv (IntKind.u64.wrap ((IntKind.u64.wrap ((IntKind.u64.wrap (BitVec.ofInt IntKind.u64.bits (IntKind.u64.wrap ((Int.fdiv p0 4294967296)*(IntKind.u64.wrap (BitVec.ofInt IntKind.u64.bits p1&&&BitVec.ofInt IntKind.u64.bits (4294967295:Int)).toNat)))&&&BitVec.ofInt IntKind.u64.bits (4294967295:Int)).toNat)+(IntKind.u64.wrap ((IntKind.u64.wrap (BitVec.ofInt IntKind.u64.bits p0&&&BitVec.ofInt IntKind.u64.bits (4294967295:Int)).toNat)*(Int.fdiv p1 4294967296)))))+(Int.fdiv (IntKind.u64.wrap ((IntKind.u64.wrap (BitVec.ofInt IntKind.u64.bits p0&&&BitVec.ofInt IntKind.u64.bits (4294967295:Int)).toNat)*(IntKind.u64.wrap (BitVec.ofInt IntKind.u64.bits p1&&&BitVec.ofInt IntKind.u64.bits (4294967295:Int)).toNat))) 4294967296))) 4294967296))) (IntKind.u64.wrap (BitVec.ofInt IntKind.u64.bits (IntKind.u64.wrap ((IntKind.u64.wrap ((IntKind.u64.wrap ((IntKind.u64.wrap (BitVec.ofInt IntKind.u64.bits (IntKind.u64.wrap ((Int.fdiv p0 4294967296)*(IntKind.u64.wrap (BitVec.ofInt IntKind.u64.bits p1&&&BitVec.ofInt IntKind.u64.bits (4294967295:Int)).toNat)))&&&BitVec.ofInt IntKind.u64.bits (4294967295:Int)).toNat)+(IntKind.u64.wrap ((IntKind.u64.wrap (BitVec.ofInt IntKind.u64.bits p0&&&BitVec.ofInt IntKind.u64.bits (4294967295:Int)).toNat)*(Int.fdiv p1 4294967296)))))+(Int.fdiv (IntKind.u64.wrap ((IntKind.u64.wrap (BitVec.ofInt IntKind.u64.bits p0&&&BitVec.ofInt IntKind.u64.bits (4294967295:Int)).toNat)*(IntKind.u64.wrap (BitVec.ofInt IntKind.u64.bits p1&&&BitVec.ofInt IntKind.u64.bits (4294967295:Int)).toNat))) 4294967296)))*(4294967296:Int)))|||BitVec.ofInt IntKind.u64.bits (IntKind.u64.wrap (BitVec.ofInt IntKind.u64.bits (IntKind.u64.wrap ((IntKind.u64.wrap (BitVec.ofInt IntKind.u64.bits p0&&&BitVec.ofInt IntKind.u64.bits (4294967295:Int)).toNat)*(IntKind.u64.wrap (BitVec.ofInt IntKind.u64.bits p1&&&BitVec.ofInt IntKind.u64.bits (4294967295:Int)).toNat)))&&&BitVec.ofInt IntKind.u64.bits (4294967295:Int)).toNat)).toNat))
def yeL (p0 p1:Int) (K:Int→Int→Prop):Prop:=yqf p0 p1 K
def ymB (w:yha) (as:List PV) (K:PV→Prop):Prop :=
 match as with
 | [(.int .u64 p0),(.int .u64 p1)]=>w p0 p1 (fun r0 r1=>K (.agg [(.int .u64 r0),(.int .u64 r1)]))
 | _=>False
def ywc (as:List PV) (K:PV→Prop):Prop:=ymB yeL as K
def yEv:LP:=fun _ _ _ _ =>
 False
def ywd (e:List (Nat×EffF)):SE:=⟨(E e),lookS [],lookI [],yEv⟩
theorem yCi (e:List (Nat×EffF)) (he:EG e):SEOk (ywd e):=yam trivial trivial he.ok
theorem yEw (e:List (Nat×EffF)) ( p0 p1 K):WP (ywd e) 6 yF2 [(.int .u64 p0),(.int .u64 p1)] K=yqf p0 p1 (fun r0 r1=>K (.agg [(.int .u64 r0),(.int .u64 r1)])):=by kernel_rfl
theorem ywe (e:List (Nat×EffF)) (he:EG e):OkF (E e) ywc ydY:=by
 intro as K h
 unfold ywc ymB at h
 split at h
 · exact WP_ok (yCi e he) (yag (by kernel_rfl)) (by kernel_rfl) (by kernel_rfl) (fun _=>yab (by kernel_rfl) _) (he.num _ (by kernel_rfl)) ((yEw ..).mpr h)
 · exact h.elim
abbrev yim:Type:=Int→Int→Int→Int→(Bool→Prop)→Prop
def ysb (p0 p1 p2 p3:Int) (K:Bool→Prop):Prop :=
 (cbr (decide (p0<p2))
 (K true)
 (cbr (p0 == p2)
 (K (decide (p1<p3)))
 (K false)))
def yin (p0 p1 p2 p3:Int) (K:Bool→Prop):Prop:=ysb p0 p1 p2 p3 K
def yoj (w:yim) (as:List PV) (K:PV→Prop):Prop :=
 match as with
 | [(.agg [(.int .u64 p0),(.int .u64 p1)]),(.agg [(.int .u64 p2),(.int .u64 p3)])]=>w p0 p1 p2 p3 (fun r0=>K (.bool r0))
 | _=>False
def yyu (as:List PV) (K:PV→Prop):Prop:=yoj yin as K
def yGs:LP:=fun _ _ _ _ =>
 False
def yyv (e:List (Nat×EffF)):SE:=⟨(E e),lookS [],lookI [],yGs⟩
theorem yEx (e:List (Nat×EffF)) (he:EG e):SEOk (yyv e):=yam trivial trivial he.ok
theorem yGt (e:List (Nat×EffF)) ( p0 p1 p2 p3 K):WP (yyv e) 6 yIc [(.agg [(.int .u64 p0),(.int .u64 p1)]),(.agg [(.int .u64 p2),(.int .u64 p3)])] K=ysb p0 p1 p2 p3 (fun r0=>K (.bool r0)):=by kernel_rfl
theorem yyw (e:List (Nat×EffF)) (he:EG e):OkF (E e) yyu yg1:=by
 intro as K h
 unfold yyu yoj at h
 split at h
 · exact WP_ok (yEx e he) (yag (by kernel_rfl)) (by kernel_rfl) (by kernel_rfl) (fun _=>yab (by kernel_rfl) _) (he.num _ (by kernel_rfl)) ((yGt ..).mpr h)
 · exact h.elim
abbrev ydL:Type:=Int→Int→Int→Int→(Bool→Prop)→Prop
def ysc (a0:ygu) (a1:yha) (a2:yim) (p0 p1 p2 p3:Int) (K:Bool→Prop):Prop :=
 (cbr ((decide (p0<(0:Int))) !=(decide (p2<(0:Int))))
 (K (decide (p0<(0:Int))))
 (a0 p0 (fun yi0 =>
 (a1 yi0 (IntKind.u64.wrap p3) (fun yi1 yi2 =>
 (a0 p2 (fun yi3 =>
 (a1 yi3 (IntKind.u64.wrap p1) (fun yi4 yi5 =>
 (cbr (decide (p0<(0:Int)))
 (a2 yi4 yi5 yi1 yi2 (fun yb6 =>
 (K yb6)))
 (a2 yi1 yi2 yi4 yi5 (fun yb7 =>
 (K yb7)))))))))))))
def ycx (p0 p1 p2 p3:Int) (K:Bool→Prop):Prop:=ysc yhy yeL yin p0 p1 p2 p3 K
def ylC (w:ydL) (as:List PV) (K:PV→Prop):Prop :=
 match as with
 | [(.agg [(.int .i64 p0),(.int .i64 p1)]),(.agg [(.int .i64 p2),(.int .i64 p3)])]=>w p0 p1 p2 p3 (fun r0=>K (.bool r0))
 | _=>False
def yyx (as:List PV) (K:PV→Prop):Prop:=ylC ycx as K
def yGu (_:ygu) (_:yha) (_:yim):LP:=fun _ _ _ _ =>
 False
def yyy (e:List (Nat×EffF)) (a0:ygu) (a1:yha) (a2:yim):SE:=⟨(E e),lookS [(yfj,ynK a0),(ydY,ymB a1),(yg1,yoj a2)],lookI [],yGu a0 a1 a2⟩
theorem yEy (e:List (Nat×EffF)) (he:EG e):SEOk (yyy e yhy yeL yin):=yam ⟨(yuU e he),(ywe e he),(yyw e he),trivial⟩ trivial he.ok
theorem yGv (e:List (Nat×EffF)) (a0 a1 a2 p0 p1 p2 p3 K):WP (yyy e a0 a1 a2) 6 yId [(.agg [(.int .i64 p0),(.int .i64 p1)]),(.agg [(.int .i64 p2),(.int .i64 p3)])] K=ysc a0 a1 a2 p0 p1 p2 p3 (fun r0=>K (.bool r0)):=by kernel_rfl
theorem ysd (e:List (Nat×EffF)) (he:EG e):OkF (E e) yyx yfG:=by
 intro as K h
 unfold yyx ylC at h
 split at h
 · exact WP_ok (yEy e he) (yag (by kernel_rfl)) (by kernel_rfl) (by kernel_rfl) (fun _=>yab (by kernel_rfl) _) (he.num _ (by kernel_rfl)) ((yGv ..).mpr h)
 · exact h.elim
abbrev yhZ:Type:=Int→(Int→Int→Prop)→Prop
def yC9 (p0:Int) (K:Int→Int→Prop):Prop :=
 (K p0 (1:Int))
def yjx (p0:Int) (K:Int→Int→Prop):Prop:=yC9 p0 K
def yps (w:yhZ) (as:List PV) (K:PV→Prop):Prop :=
 match as with
 | [(.int .i64 p0)]=>w p0 (fun r0 r1=>K (.agg [(.int .i64 r0),(.int .i64 r1)]))
 | _=>False
def yDa (as:List PV) (K:PV→Prop):Prop:=yps yjx as K
def yKl:LP:=fun _ _ _ _ =>
 False
def yDb (e:List (Nat×EffF)):SE:=⟨(E e),lookS [],lookI [],yKl⟩
theorem yIx (e:List (Nat×EffF)) (he:EG e):SEOk (yDb e):=yam trivial trivial he.ok
theorem yKm (e:List (Nat×EffF)) ( p0 K):WP (yDb e) 6 yLq [(.int .i64 p0)] K=yC9 p0 (fun r0 r1=>K (.agg [(.int .i64 r0),(.int .i64 r1)])):=by kernel_rfl
theorem yxK (e:List (Nat×EffF)) (he:EG e):OkF (E e) yDa yg2:=by
 intro as K h
 unfold yDa yps at h
 split at h
 · exact WP_ok (yIx e he) (yag (by kernel_rfl)) (by kernel_rfl) (by kernel_rfl) (fun _=>yab (by kernel_rfl) _) (he.num _ (by kernel_rfl)) ((yKm ..).mpr h)
 · exact h.elim
abbrev yfS:Type:=Int→Int→Int→Int→(Int→Int→Prop)→Prop
def yse (p0 p1 p2 p3:Int) (K:Int→Int→Prop):Prop :=
 (cbr (decide ((IntKind.u64.wrap (p1+p3))<p1))
 (K (IntKind.u64.wrap ((IntKind.u64.wrap (p0+p2))+(1:Int))) (IntKind.u64.wrap (p1+p3)))
 (K (IntKind.u64.wrap (p0+p2)) (IntKind.u64.wrap (p1+p3))))
def ydh (p0 p1 p2 p3:Int) (K:Int→Int→Prop):Prop:=yse p0 p1 p2 p3 K
def yok (w:yfS) (as:List PV) (K:PV→Prop):Prop :=
 match as with
 | [(.agg [(.int .u64 p0),(.int .u64 p1)]),(.agg [(.int .u64 p2),(.int .u64 p3)])]=>w p0 p1 p2 p3 (fun r0 r1=>K (.agg [(.int .u64 r0),(.int .u64 r1)]))
 | _=>False
def yyz (as:List PV) (K:PV→Prop):Prop:=yok ydh as K
def yGw:LP:=fun _ _ _ _ =>
 False
def yyA (e:List (Nat×EffF)):SE:=⟨(E e),lookS [],lookI [],yGw⟩
theorem yEz (e:List (Nat×EffF)) (he:EG e):SEOk (yyA e):=yam trivial trivial he.ok
theorem yGx (e:List (Nat×EffF)) ( p0 p1 p2 p3 K):WP (yyA e) 6 yIh [(.agg [(.int .u64 p0),(.int .u64 p1)]),(.agg [(.int .u64 p2),(.int .u64 p3)])] K=yse p0 p1 p2 p3 (fun r0 r1=>K (.agg [(.int .u64 r0),(.int .u64 r1)])):=by kernel_rfl
theorem yyB (e:List (Nat×EffF)) (he:EG e):OkF (E e) yyz yig:=by
 intro as K h
 unfold yyz yok at h
 split at h
 · exact WP_ok (yEz e he) (yag (by kernel_rfl)) (by kernel_rfl) (by kernel_rfl) (fun _=>yab (by kernel_rfl) _) (he.num _ (by kernel_rfl)) ((yGx ..).mpr h)
 · exact h.elim
abbrev yol:Type:=Int→Int→Int→Int→(Int→Int→Prop)→Prop
def ymC (p0 p1 p2 p3:Int) (K:Int→Int→Prop):Prop :=
 (cbr (decide (p1<p3))
 (K (IntKind.u64.wrap ((IntKind.u64.wrap (p0-p2))-(1:Int))) (IntKind.u64.wrap (p1-p3)))
 (K (IntKind.u64.wrap (p0-p2)) (IntKind.u64.wrap (p1-p3))))
def yhb (p0 p1 p2 p3:Int) (K:Int→Int→Prop):Prop:=ymC p0 p1 p2 p3 K
def yqg (w:yol) (as:List PV) (K:PV→Prop):Prop :=
 match as with
 | [(.agg [(.int .u64 p0),(.int .u64 p1)]),(.agg [(.int .u64 p2),(.int .u64 p3)])]=>w p0 p1 p2 p3 (fun r0 r1=>K (.agg [(.int .u64 r0),(.int .u64 r1)]))
 | _=>False
def ywf (as:List PV) (K:PV→Prop):Prop:=yqg yhb as K
def yEA:LP:=fun _ _ _ _ =>
 False
def ywg (e:List (Nat×EffF)):SE:=⟨(E e),lookS [],lookI [],yEA⟩
theorem yCj (e:List (Nat×EffF)) (he:EG e):SEOk (ywg e):=yam trivial trivial he.ok
theorem yEB (e:List (Nat×EffF)) ( p0 p1 p2 p3 K):WP (ywg e) 6 yGk [(.agg [(.int .u64 p0),(.int .u64 p1)]),(.agg [(.int .u64 p2),(.int .u64 p3)])] K=ymC p0 p1 p2 p3 (fun r0 r1=>K (.agg [(.int .u64 r0),(.int .u64 r1)])):=by kernel_rfl
theorem yEC (e:List (Nat×EffF)) (he:EG e):OkF (E e) ywf yiA:=by
 intro as K h
 unfold ywf yqg at h
 split at h
 · exact WP_ok (yCj e he) (yag (by kernel_rfl)) (by kernel_rfl) (by kernel_rfl) (fun _=>yab (by kernel_rfl) _) (he.num _ (by kernel_rfl)) ((yEB ..).mpr h)
 · exact h.elim
abbrev yom:Type:=Int→Int→Int→(Int→Int→Int→Prop)→Prop
def ybl (a0:yfS) (x0:Int→Int→Int→Int→Int→Int→Int→Int→Int→Bool→Prop):Nat→Int→Int→Int→Int→Int→Int→Int→Int→Int→Prop
 | 0,_,_,_,_,_,_,_,_,_=>False
 | n+1,i0,i1,i2,i3,i4,i5,i6,i7,i8 =>
 (cbr (decide (i8≥(0:Int)))
 (asr (!(decide ((IntKind.i64.wrap (BitVec.ofInt IntKind.i64.bits i8&&&BitVec.ofInt IntKind.i64.bits (63:Int)).toNat)<(0:Int))))
 (cbr (decide (i8≥(64:Int)))
 (asr (!(decide ((IntKind.i64.wrap (BitVec.ofInt IntKind.i64.bits i8&&&BitVec.ofInt IntKind.i64.bits (63:Int)).toNat)<(0:Int))))
 (a0 i5 i6 i5 i6 (fun yi0 yi1 =>
 (cbr (decide ((IntKind.u64.wrap (BitVec.ofInt IntKind.u64.bits (IntKind.u64.wrap (i7*(2:Int)))|||BitVec.ofInt IntKind.u64.bits (IntKind.u64.wrap (BitVec.ofInt IntKind.u64.bits (Int.fdiv i1 (2 ^ (min (IntKind.i64.wrap (BitVec.ofInt IntKind.i64.bits i8&&&BitVec.ofInt IntKind.i64.bits (63:Int)).toNat).toNat IntKind.u64.bits)))&&&BitVec.ofInt IntKind.u64.bits (1:Int)).toNat)).toNat)≥i0))
 (ybl a0 x0 n i0 i1 i2 i3 i4 yi0 (IntKind.u64.wrap (BitVec.ofInt IntKind.u64.bits yi1|||BitVec.ofInt IntKind.u64.bits (1:Int)).toNat) (IntKind.u64.wrap ((IntKind.u64.wrap (BitVec.ofInt IntKind.u64.bits (IntKind.u64.wrap (i7*(2:Int)))|||BitVec.ofInt IntKind.u64.bits (IntKind.u64.wrap (BitVec.ofInt IntKind.u64.bits (Int.fdiv i1 (2 ^ (min (IntKind.i64.wrap (BitVec.ofInt IntKind.i64.bits i8&&&BitVec.ofInt IntKind.i64.bits (63:Int)).toNat).toNat IntKind.u64.bits)))&&&BitVec.ofInt IntKind.u64.bits (1:Int)).toNat)).toNat)-i0)) (IntKind.i64.wrap (i8-(1:Int))))
 (ybl a0 x0 n i0 i1 i2 i3 i4 yi0 yi1 (IntKind.u64.wrap (BitVec.ofInt IntKind.u64.bits (IntKind.u64.wrap (i7*(2:Int)))|||BitVec.ofInt IntKind.u64.bits (IntKind.u64.wrap (BitVec.ofInt IntKind.u64.bits (Int.fdiv i1 (2 ^ (min (IntKind.i64.wrap (BitVec.ofInt IntKind.i64.bits i8&&&BitVec.ofInt IntKind.i64.bits (63:Int)).toNat).toNat IntKind.u64.bits)))&&&BitVec.ofInt IntKind.u64.bits (1:Int)).toNat)).toNat) (IntKind.i64.wrap (i8-(1:Int))))))))
 (a0 i5 i6 i5 i6 (fun yi2 yi3 =>
 (cbr (decide ((IntKind.u64.wrap (BitVec.ofInt IntKind.u64.bits (IntKind.u64.wrap (i7*(2:Int)))|||BitVec.ofInt IntKind.u64.bits (IntKind.u64.wrap (BitVec.ofInt IntKind.u64.bits (Int.fdiv i2 (2 ^ (min (IntKind.i64.wrap (BitVec.ofInt IntKind.i64.bits i8&&&BitVec.ofInt IntKind.i64.bits (63:Int)).toNat).toNat IntKind.u64.bits)))&&&BitVec.ofInt IntKind.u64.bits (1:Int)).toNat)).toNat)≥i0))
 (ybl a0 x0 n i0 i1 i2 i3 i4 yi2 (IntKind.u64.wrap (BitVec.ofInt IntKind.u64.bits yi3|||BitVec.ofInt IntKind.u64.bits (1:Int)).toNat) (IntKind.u64.wrap ((IntKind.u64.wrap (BitVec.ofInt IntKind.u64.bits (IntKind.u64.wrap (i7*(2:Int)))|||BitVec.ofInt IntKind.u64.bits (IntKind.u64.wrap (BitVec.ofInt IntKind.u64.bits (Int.fdiv i2 (2 ^ (min (IntKind.i64.wrap (BitVec.ofInt IntKind.i64.bits i8&&&BitVec.ofInt IntKind.i64.bits (63:Int)).toNat).toNat IntKind.u64.bits)))&&&BitVec.ofInt IntKind.u64.bits (1:Int)).toNat)).toNat)-i0)) (IntKind.i64.wrap (i8-(1:Int))))
 (ybl a0 x0 n i0 i1 i2 i3 i4 yi2 yi3 (IntKind.u64.wrap (BitVec.ofInt IntKind.u64.bits (IntKind.u64.wrap (i7*(2:Int)))|||BitVec.ofInt IntKind.u64.bits (IntKind.u64.wrap (BitVec.ofInt IntKind.u64.bits (Int.fdiv i2 (2 ^ (min (IntKind.i64.wrap (BitVec.ofInt IntKind.i64.bits i8&&&BitVec.ofInt IntKind.i64.bits (63:Int)).toNat).toNat IntKind.u64.bits)))&&&BitVec.ofInt IntKind.u64.bits (1:Int)).toNat)).toNat) (IntKind.i64.wrap (i8-(1:Int)))))))))
 (x0 i0 i1 i2 i3 i4 i5 i6 i7 i8 false))
def yqh (a0:yfS) (p0 p1 p2:Int) (K:Int→Int→Int→Prop):Prop :=
 (∃ n:Nat,ybl a0
 (fun _ _ _ _ _ yi9 yi10 yi11 _ _=>(K yi9 yi10 yi11))
 n p2 p0 p1 (0:Int) (0:Int) (0:Int) (0:Int) (0:Int) (127:Int))
def yd6 (p0 p1 p2:Int) (K:Int→Int→Int→Prop):Prop:=yqh ydh p0 p1 p2 K
def yqi (w:yom) (as:List PV) (K:PV→Prop):Prop :=
 match as with
 | [(.agg [(.int .u64 p0),(.int .u64 p1)]),(.int .u64 p2)]=>w p0 p1 p2 (fun r0 r1 r2=>K (.tup [(.agg [(.int .u64 r0),(.int .u64 r1)]),(.int .u64 r2)]))
 | _=>False
def ywh (as:List PV) (K:PV→Prop):Prop:=yqi yd6 as K
def ygv (F:Frm) (H:Hp) (A0:Int→Int→Int→Int→Int→Int→Int→Int→Int→Prop):Prop :=
 match F,H with
 | [(1,.v (.int .u64 i0)),(2,.box (.agg [(.int .u64 i1),(.int .u64 i2)])),(4,.box (.agg [(.int .u64 i3),(.int .u64 i4)])),(6,.box (.agg [(.int .u64 i5),(.int .u64 i6)])),(7,.v (.int .u64 i7)),(8,.v (.int .i64 i8))],[]=>(A0 i0 i1 i2 i3 i4 i5 i6 i7 i8)
 | _,_=>False
def ylW (Q:Ex→Frm→Hp→Prop):Int→Int→Int→Int→Int→Int→Int→Int→Int→Bool→Prop:=(fun i0 i1 i2 i3 i4 i5 i6 i7 i8 b9=>Q (.exit 0) [(1,.v (.int .u64 i0)),(2,.box (.agg [(.int .u64 i1),(.int .u64 i2)])),(4,.box (.agg [(.int .u64 i3),(.int .u64 i4)])),(6,.box (.agg [(.int .u64 i5),(.int .u64 i6)])),(7,.v (.int .u64 i7)),(8,.v (.int .i64 i8)),(11,.v (.bool b9))] [])
def yk8 (a0:yfS) (Q:Ex→Frm→Hp→Prop) (n:Nat) (F:Frm) (H:Hp):Prop:=ygv F H (fun i0 i1 i2 i3 i4 i5 i6 i7 i8=>ybl a0 (ylW Q) n i0 i1 i2 i3 i4 i5 i6 i7 i8)
def ymD (a0:yfS):LP:=fun id F H Q =>
 bif Nat.beq id 22549700 then ygv F H (fun i0 i1 i2 i3 i4 i5 i6 i7 i8=>∃ n:Nat,ybl a0 (ylW Q) n i0 i1 i2 i3 i4 i5 i6 i7 i8) else
 False
def yqj (e:List (Nat×EffF)) (a0:yfS):SE:=⟨(E e),lookS [(yig,yok a0)],lookI [],ymD a0⟩
theorem yt9 (e:List (Nat×EffF)) (he:EG e):SEOk (yqj e ydh):=yam ⟨(yyB e he),trivial⟩ trivial he.ok
theorem yuY (e:List (Nat×EffF)) (a0 Q n i0 i1 i2 i3 i4 i5 i6 i7 i8):WC (E e) (callW (yqj e a0) 5) (ymD a0) ynt [(1,.v (.int .u64 i0)),(2,.box (.agg [(.int .u64 i1),(.int .u64 i2)])),(4,.box (.agg [(.int .u64 i3),(.int .u64 i4)])),(6,.box (.agg [(.int .u64 i5),(.int .u64 i6)])),(7,.v (.int .u64 i7)),(8,.v (.int .i64 i8))] [] (fun x F' H'=>match x with | .norm=>yk8 a0 Q n F' H' | .exit i=>Q (.exit i) F' H' | .ret=>Q .ret F' H')=ybl a0 (ylW Q) (n+1) i0 i1 i2 i3 i4 i5 i6 i7 i8:=by kernel_rfl
theorem yy6 (e:List (Nat×EffF)) (_:EG e):LpOk (E e) (ymD ydh) ynt:=(yag (by kernel_rfl))
theorem yxL (e:List (Nat×EffF)) (he:EG e):∀ F H Q,ymD ydh 22549700 F H Q→LoopT (E e) ynt F H Q:=by
 intro F H Q h
 have go:=LoopT.intro (yaC (yt9 e he) 5) (yy6 e he) (yk8 ydh Q) (by
   intro F H h
   unfold yk8 ygv at h
   split at h
   · exact h
   · exact h) (by
   intro n F H h
   unfold yk8 ygv at h
   split at h
   · exact (yuY ..).mpr h
   · exact h.elim)
 have h:ygv F H _:=h
 unfold ygv at h
 split at h
 · obtain ⟨n,h⟩:=h;exact go n _ _ h
 · exact h.elim
theorem yED (e:List (Nat×EffF)) (a0 p0 p1 p2 K):WP (yqj e a0) 6 yGl [(.agg [(.int .u64 p0),(.int .u64 p1)]),(.int .u64 p2)] K=yqh a0 p0 p1 p2 (fun r0 r1 r2=>K (.tup [(.agg [(.int .u64 r0),(.int .u64 r1)]),(.int .u64 r2)])):=by kernel_rfl
theorem ywi (e:List (Nat×EffF)) (he:EG e):OkF (E e) ywh yiB:=by
 intro as K h
 unfold ywh yqi at h
 split at h
 · exact WP_ok (yt9 e he) (ya8 (l:=[(22549700,ynt)]) ⟨yxL e he,trivial⟩ (by kernel_rfl)) (by kernel_rfl) (by kernel_rfl) (fun _=>yab (by kernel_rfl) _) (he.num _ (by kernel_rfl)) ((yED ..).mpr h)
 · exact h.elim
abbrev yqk:Type:=Bool→Int→Int→Int→Int→(Int→Int→Int→Prop)→Prop
def ysf (p0:Bool) (p1 p2 p3 p4:Int) (K:Int→Int→Int→Prop):Prop :=
 (cbr (decide (p1>(0:Int)))
 (K (0:Int) (0:Int) (16:Int))
 (cbr (decide (p3>(0:Int)))
 (K (0:Int) (0:Int) (16:Int))
 (cbr (decide (p2>(1000000000000000000:Int)))
 (K (0:Int) (0:Int) (16:Int))
 (cbr (decide (p4>(1000000000000000000:Int)))
 (K (0:Int) (0:Int) (16:Int))
 (cbr p0
 (K (IntKind.i64.wrap ((0:Int)-(IntKind.i64.wrap p2))) (IntKind.i64.wrap p4) (0:Int))
 (K (IntKind.i64.wrap p2) (IntKind.i64.wrap p4) (0:Int)))))))
def ykA (p0:Bool) (p1 p2 p3 p4:Int) (K:Int→Int→Int→Prop):Prop:=ysf p0 p1 p2 p3 p4 K
def ysg (w:yqk) (as:List PV) (K:PV→Prop):Prop :=
 match as with
 | [(.bool p0),(.agg [(.int .u64 p1),(.int .u64 p2)]),(.agg [(.int .u64 p3),(.int .u64 p4)])]=>w p0 p1 p2 p3 p4 (fun r0 r1 r2=>K (.tup [(.agg [(.int .i64 r0),(.int .i64 r1)]),(.int .i64 r2)]))
 | _=>False
def yyC (as:List PV) (K:PV→Prop):Prop:=ysg ykA as K
def yGy:LP:=fun _ _ _ _ =>
 False
def yyD (e:List (Nat×EffF)):SE:=⟨(E e),lookS [],lookI [],yGy⟩
theorem yEE (e:List (Nat×EffF)) (he:EG e):SEOk (yyD e):=yam trivial trivial he.ok
theorem yGz (e:List (Nat×EffF)) ( p0 p1 p2 p3 p4 K):WP (yyD e) 6 yIi [(.bool p0),(.agg [(.int .u64 p1),(.int .u64 p2)]),(.agg [(.int .u64 p3),(.int .u64 p4)])] K=ysf p0 p1 p2 p3 p4 (fun r0 r1 r2=>K (.tup [(.agg [(.int .i64 r0),(.int .i64 r1)]),(.int .i64 r2)])):=by kernel_rfl
theorem yGA (e:List (Nat×EffF)) (he:EG e):OkF (E e) yyC ym6:=by
 intro as K h
 unfold yyC ysg at h
 split at h
 · exact WP_ok (yEE e he) (yag (by kernel_rfl)) (by kernel_rfl) (by kernel_rfl) (fun _=>yab (by kernel_rfl) _) (he.num _ (by kernel_rfl)) ((yGz ..).mpr h)
 · exact h.elim
abbrev yiI:Type:=Int→Int→Int→Int→(Int→Int→Int→Prop)→Prop
def yuZ (a0:yik) (a1:ykz) (a2:ygu) (a3:yha) (a4:yfS) (a5:yol) (a6:yim) (a7:yom) (a8:yqk) (p0 p1 p2 p3:Int) (K:Int→Int→Int→Prop):Prop :=
 (a0 p0 p1 p2 p3 (fun yi0 =>
 (cbr (yi0 !=(0:Int))
 (a0 p0 p1 p2 p3 (fun yi1 =>
 (K (0:Int) (0:Int) yi1)))
 (a1 (IntKind.u64.wrap p1) (IntKind.u64.wrap p3) (fun yi2 =>
 (a2 p0 (fun yi3 =>
 (asr (!(decide (yi2=(0:Int))))
 (a3 yi3 (IntKind.u64.wrap (Int.tdiv (IntKind.u64.wrap p3) yi2)) (fun yi4 yi5 =>
 (a2 p2 (fun yi6 =>
 (asr (!(decide (yi2=(0:Int))))
 (a3 yi6 (IntKind.u64.wrap (Int.tdiv (IntKind.u64.wrap p1) yi2)) (fun yi7 yi8 =>
 (a4 yi4 yi5 yi7 yi8 (fun yi9 yi10 =>
 (cbr ((decide (p0<(0:Int))) !=(decide (p2<(0:Int))))
 (a5 yi4 yi5 yi7 yi8 (fun yi11 yi12 =>
 (a6 yi4 yi5 yi7 yi8 (fun yb13 =>
 (cbr yb13
 (a5 yi7 yi8 yi4 yi5 (fun yi14 yi15 =>
 (cbr ((yi14 ==(0:Int))&&((yi15 ==(0:Int))&&true))
 (K (0:Int) (1:Int) (0:Int))
 (a7 yi14 yi15 yi2 (fun _ _ yi18 =>
 (a1 yi18 yi2 (fun yi19 =>
 (a7 yi14 yi15 yi19 (fun yi20 yi21 _ =>
 (asr (!(decide (yi2=(0:Int))))
 (asr (!(decide (yi19=(0:Int))))
 (a3 (IntKind.u64.wrap (Int.tdiv (IntKind.u64.wrap p1) yi2)) (IntKind.u64.wrap (Int.tdiv (IntKind.u64.wrap p3) yi19)) (fun yi23 yi24 =>
 (a8 (decide (p2<(0:Int))) yi20 yi21 yi23 yi24 (fun yi25 yi26 yi27 =>
 (K yi25 yi26 yi27))))))))))))))))
 (cbr ((yi11 ==(0:Int))&&((yi12 ==(0:Int))&&true))
 (K (0:Int) (1:Int) (0:Int))
 (a7 yi11 yi12 yi2 (fun _ _ yi30 =>
 (a1 yi30 yi2 (fun yi31 =>
 (a7 yi11 yi12 yi31 (fun yi32 yi33 _ =>
 (asr (!(decide (yi2=(0:Int))))
 (asr (!(decide (yi31=(0:Int))))
 (a3 (IntKind.u64.wrap (Int.tdiv (IntKind.u64.wrap p1) yi2)) (IntKind.u64.wrap (Int.tdiv (IntKind.u64.wrap p3) yi31)) (fun yi35 yi36 =>
 (a8 (decide (p0<(0:Int))) yi32 yi33 yi35 yi36 (fun yi37 yi38 yi39 =>
 (K yi37 yi38 yi39)))))))))))))))))))
 (cbr ((yi9 ==(0:Int))&&((yi10 ==(0:Int))&&true))
 (K (0:Int) (1:Int) (0:Int))
 (a7 yi9 yi10 yi2 (fun _ _ yi42 =>
 (a1 yi42 yi2 (fun yi43 =>
 (a7 yi9 yi10 yi43 (fun yi44 yi45 _ =>
 (asr (!(decide (yi2=(0:Int))))
 (asr (!(decide (yi43=(0:Int))))
 (a3 (IntKind.u64.wrap (Int.tdiv (IntKind.u64.wrap p1) yi2)) (IntKind.u64.wrap (Int.tdiv (IntKind.u64.wrap p3) yi43)) (fun yi47 yi48 =>
 (a8 (decide (p0<(0:Int))) yi44 yi45 yi47 yi48 (fun yi49 yi50 yi51 =>
 (K yi49 yi50 yi51))))))))))))))))))))))))))))))))
def yeA (p0 p1 p2 p3:Int) (K:Int→Int→Int→Prop):Prop:=yuZ yil yez yhy yeL ydh yhb yin yd6 ykA p0 p1 p2 p3 K
def yu0 (w:yiI) (as:List PV) (K:PV→Prop):Prop :=
 match as with
 | [(.agg [(.int .i64 p0),(.int .i64 p1)]),(.agg [(.int .i64 p2),(.int .i64 p3)])]=>w p0 p1 p2 p3 (fun r0 r1 r2=>K (.tup [(.agg [(.int .i64 r0),(.int .i64 r1)]),(.int .i64 r2)]))
 | _=>False
def yAF (as:List PV) (K:PV→Prop):Prop:=yu0 yeA as K
def yIy (_:yik) (_:ykz) (_:ygu) (_:yha) (_:yfS) (_:yol) (_:yim) (_:yom) (_:yqk):LP:=fun _ _ _ _ =>
 False
def yAG (e:List (Nat×EffF)) (a0:yik) (a1:ykz) (a2:ygu) (a3:yha) (a4:yfS) (a5:yol) (a6:yim) (a7:yom) (a8:yqk):SE:=⟨(E e),lookS [(yg0,yoi a0),(yiv,yqb a1),(yfj,ynK a2),(ydY,ymB a3),(yig,yok a4),(yiA,yqg a5),(yg1,yoj a6),(yiB,yqi a7),(ym6,ysg a8)],lookI [],yIy a0 a1 a2 a3 a4 a5 a6 a7 a8⟩
theorem yGB (e:List (Nat×EffF)) (he:EG e):SEOk (yAG e yil yez yhy yeL ydh yhb yin yd6 ykA):=yam ⟨(yyt e he),(yuX e he),(yuU e he),(ywe e he),(yyB e he),(yEC e he),(yyw e he),(ywi e he),(yGA e he),trivial⟩ trivial he.ok
theorem yIz (e:List (Nat×EffF)) (a0 a1 a2 a3 a4 a5 a6 a7 a8 p0 p1 p2 p3 K):WP (yAG e a0 a1 a2 a3 a4 a5 a6 a7 a8) 6 yKj [(.agg [(.int .i64 p0),(.int .i64 p1)]),(.agg [(.int .i64 p2),(.int .i64 p3)])] K=yuZ a0 a1 a2 a3 a4 a5 a6 a7 a8 p0 p1 p2 p3 (fun r0 r1 r2=>K (.tup [(.agg [(.int .i64 r0),(.int .i64 r1)]),(.int .i64 r2)])):=by kernel_rfl
theorem yIA (e:List (Nat×EffF)) (he:EG e):OkF (E e) yAF yph:=by
 intro as K h
 unfold yAF yu0 at h
 split at h
 · exact WP_ok (yGB e he) (yag (by kernel_rfl)) (by kernel_rfl) (by kernel_rfl) (fun _=>yab (by kernel_rfl) _) (he.num _ (by kernel_rfl)) ((yIz ..).mpr h)
 · exact h.elim
abbrev ymY:Type:=List PV→(Int→Int→Int→Prop)→Prop
def yd7 (a0:ycj) (a1:yiI) (x82687900_0:List PV→Int→Int→Int→Bool→Prop) (x82687900_1:Int→Int→Int→Prop):Nat→List PV→Int→Int→Int→Prop
 | 0,_,_,_,_=>False
 | n82687900+1,l0,i1,i2,i3 =>
 (cbr (decide (i3<(((List.length l0):Nat):Int)))
 (asr (decide ((0:Int)≤i3))
 (asr (decide (i3<(((List.length l0):Nat):Int)))
 (lt (List.getD l0 (i3.toNat) .nils) (fun yr10 =>
 (asr (conf (.agg [.i .i64,.i .i64]) yr10)
 (a0 (intOfV (cellAt yr10 0)) (intOfV (cellAt yr10 1)) (fun yi11 =>
 (cbr (yi11 !=(0:Int))
 (asr (decide ((0:Int)≤i3))
 (asr (decide (i3<(((List.length l0):Nat):Int)))
 (lt (List.getD l0 (i3.toNat) .nils) (fun yr14 =>
 (asr (conf (.agg [.i .i64,.i .i64]) yr14)
 (a0 (intOfV (cellAt yr14 0)) (intOfV (cellAt yr14 1)) (fun yi15 =>
 (x82687900_1 (0:Int) (0:Int) yi15))))))))
 (lt (IntKind.i64.wrap (i3+(1:Int))) (fun yi16 =>
 (yd7 a0 a1 x82687900_0 x82687900_1 n82687900 l0 i1 i2 yi16)))))))))))
 (x82687900_0 l0 i1 i2 i3 false))
def yd8 (a0:ycj) (a1:yiI) (x82687901_0:List PV→Int→Int→Int→Int→Int→Bool→Prop) (x82687901_1:Int→Int→Int→Prop):Nat→List PV→Int→Int→Int→Int→Int→Prop
 | 0,_,_,_,_,_,_=>False
 | n82687901+1,l0,i1,i2,i3,i4,i5 =>
 (cbr (decide (i5<(((List.length l0):Nat):Int)))
 (asr (decide ((0:Int)≤i5))
 (asr (decide (i5<(((List.length l0):Nat):Int)))
 (lt (List.getD l0 (i5.toNat) .nils) (fun yr42 =>
 (asr (conf (.agg [.i .i64,.i .i64]) yr42)
 (a1 i3 i4 (intOfV (cellAt yr42 0)) (intOfV (cellAt yr42 1)) (fun yi43 yi44 yi45 =>
 (cbr (yi45 !=(0:Int))
 (x82687901_1 (0:Int) (0:Int) yi45)
 (lt (IntKind.i64.wrap (i5+(1:Int))) (fun yi46 =>
 (yd8 a0 a1 x82687901_0 x82687901_1 n82687901 l0 i1 i2 yi43 yi44 yi46)))))))))))
 (x82687901_0 l0 i1 i2 i3 i4 i5 false))
def yu1 (a0:ycj) (a1:yiI) (p0:List PV) (K:Int→Int→Int→Prop):Prop :=
 (cbr (decide ((((List.length p0):Nat):Int)>(100:Int)))
 (K (0:Int) (0:Int) (4:Int))
 (∃ n82687900:Nat,yd7 a0 a1
 (fun yl25 yi26 yi27 _ _=>(∃ n82687901:Nat,yd8 a0 a1
 (fun _ _ _ yi60 yi61 _ _=>(K yi60 yi61 (0:Int)))
 (fun yi64 yi65 yi66=>(K yi64 yi65 yi66))
 n82687901 yl25 yi26 yi27 (0:Int) (1:Int) (0:Int)))
 (fun yi67 yi68 yi69=>(K yi67 yi68 yi69))
 n82687900 p0 (0:Int) (0:Int) (0:Int)))
def ycV (p0:List PV) (K:Int→Int→Int→Prop):Prop:=yu1 ybN yeA p0 K
def yu2 (w:ymY) (as:List PV) (K:PV→Prop):Prop :=
 match as with
 | [(.data p0)]=>w p0 (fun r0 r1 r2=>K (.tup [(.agg [(.int .i64 r0),(.int .i64 r1)]),(.int .i64 r2)]))
 | _=>False
def yAH (as:List PV) (K:PV→Prop):Prop:=yu2 ycV as K
def yiJ (F:Frm) (H:Hp) (A0:List PV→Int→Int→Int→Prop):Prop :=
 match F,H with
 | [(0,.v (.data l0)),(2,.box (.agg [(.int .i64 i1),(.int .i64 i2)])),(4,.v (.int .i64 i3))],[]=>(A0 l0 i1 i2 i3)
 | _,_=>False
def yiK (F:Frm) (H:Hp) (A0:List PV→Int→Int→Int→Int→Int→Prop):Prop :=
 match F,H with
 | [(0,.v (.data l0)),(2,.box (.agg [(.int .i64 i1),(.int .i64 i2)])),(5,.box (.agg [(.int .i64 i3),(.int .i64 i4)])),(6,.v (.int .i64 i5))],[]=>(A0 l0 i1 i2 i3 i4 i5)
 | _,_=>False
def yoQ (Q:Ex→Frm→Hp→Prop):List PV→Int→Int→Int→Bool→Prop:=(fun l0 i1 i2 i3 b4=>Q (.exit 0) [(0,.v (.data l0)),(2,.box (.agg [(.int .i64 i1),(.int .i64 i2)])),(4,.v (.int .i64 i3)),(16,.v (.bool b4))] [])
def yoR (Q:Ex→Frm→Hp→Prop):Int→Int→Int→Prop:=(fun i0 i1 i2=>Q .ret [(2,.box (.agg [(.int .i64 i0),(.int .i64 i1)])),(3,.v (.int .i64 i2))] [])
def yoS (Q:Ex→Frm→Hp→Prop):List PV→Int→Int→Int→Int→Int→Bool→Prop:=(fun l0 i1 i2 i3 i4 i5 b6=>Q (.exit 2) [(0,.v (.data l0)),(2,.box (.agg [(.int .i64 i1),(.int .i64 i2)])),(5,.box (.agg [(.int .i64 i3),(.int .i64 i4)])),(6,.v (.int .i64 i5)),(35,.v (.bool b6))] [])
def yoT (Q:Ex→Frm→Hp→Prop):Int→Int→Int→Prop:=(fun i0 i1 i2=>Q .ret [(2,.box (.agg [(.int .i64 i0),(.int .i64 i1)])),(3,.v (.int .i64 i2))] [])
def yon (a0:ycj) (a1:yiI) (Q:Ex→Frm→Hp→Prop) (n:Nat) (F:Frm) (H:Hp):Prop:=yiJ F H (fun l0 i1 i2 i3=>yd7 a0 a1 (yoQ Q) (yoR Q) n l0 i1 i2 i3)
def yoo (a0:ycj) (a1:yiI) (Q:Ex→Frm→Hp→Prop) (n:Nat) (F:Frm) (H:Hp):Prop:=yiK F H (fun l0 i1 i2 i3 i4 i5=>yd8 a0 a1 (yoS Q) (yoT Q) n l0 i1 i2 i3 i4 i5)
def yio (a0:ycj) (a1:yiI):LP:=fun id F H Q =>
 bif Nat.beq id 82687900 then yiJ F H (fun l0 i1 i2 i3=>∃ n:Nat,yd7 a0 a1 (yoQ Q) (yoR Q) n l0 i1 i2 i3) else
 bif Nat.beq id 82687901 then yiK F H (fun l0 i1 i2 i3 i4 i5=>∃ n:Nat,yd8 a0 a1 (yoS Q) (yoT Q) n l0 i1 i2 i3 i4 i5) else
 False
def yql (e:List (Nat×EffF)) (a0:ycj) (a1:yiI):SE:=⟨(E e),lookS [(ycZ,yjw a0),(yph,yu0 a1)],lookI [],yio a0 a1⟩
theorem ysh (e:List (Nat×EffF)) (he:EG e):SEOk (yql e ybN yeA):=yam ⟨(yqe e he),(yIA e he),trivial⟩ trivial he.ok
theorem yxM (e:List (Nat×EffF)) (a0 a1 Q n l0 i1 i2 i3):WC (E e) (callW (yql e a0 a1) 5) (yio a0 a1) ynu [(0,.v (.data l0)),(2,.box (.agg [(.int .i64 i1),(.int .i64 i2)])),(4,.v (.int .i64 i3))] [] (fun x F' H'=>match x with | .norm=>yon a0 a1 Q n F' H' | .exit i=>Q (.exit i) F' H' | .ret=>Q .ret F' H')=yd7 a0 a1 (yoQ Q) (yoR Q) (n+1) l0 i1 i2 i3:=by kernel_rfl
theorem yCk (e:List (Nat×EffF)) (_:EG e):LpOk (E e) (yio ybN yeA) ynu:=(yag (by kernel_rfl))
theorem yAI (e:List (Nat×EffF)) (he:EG e):∀ F H Q,yio ybN yeA 82687900 F H Q→LoopT (E e) ynu F H Q:=by
 intro F H Q h
 have go:=LoopT.intro (yaC (ysh e he) 5) (yCk e he) (yon ybN yeA Q) (by
   intro F H h
   unfold yon yiJ at h
   split at h
   · exact h
   · exact h) (by
   intro n F H h
   unfold yon yiJ at h
   split at h
   · exact (yxM ..).mpr h
   · exact h.elim)
 have h:yiJ F H _:=h
 unfold yiJ at h
 split at h
 · obtain ⟨n,h⟩:=h;exact go n _ _ h
 · exact h.elim
theorem yxN (e:List (Nat×EffF)) (a0 a1 Q n l0 i1 i2 i3 i4 i5):WC (E e) (callW (yql e a0 a1) 5) (yio a0 a1) ynv [(0,.v (.data l0)),(2,.box (.agg [(.int .i64 i1),(.int .i64 i2)])),(5,.box (.agg [(.int .i64 i3),(.int .i64 i4)])),(6,.v (.int .i64 i5))] [] (fun x F' H'=>match x with | .norm=>yoo a0 a1 Q n F' H' | .exit i=>Q (.exit i) F' H' | .ret=>Q .ret F' H')=yd8 a0 a1 (yoS Q) (yoT Q) (n+1) l0 i1 i2 i3 i4 i5:=by kernel_rfl
theorem yCl (e:List (Nat×EffF)) (_:EG e):LpOk (E e) (yio ybN yeA) ynv:=(yag (by kernel_rfl))
theorem yAJ (e:List (Nat×EffF)) (he:EG e):∀ F H Q,yio ybN yeA 82687901 F H Q→LoopT (E e) ynv F H Q:=by
 intro F H Q h
 have go:=LoopT.intro (yaC (ysh e he) 5) (yCl e he) (yoo ybN yeA Q) (by
   intro F H h
   unfold yoo yiK at h
   split at h
   · exact h
   · exact h) (by
   intro n F H h
   unfold yoo yiK at h
   split at h
   · exact (yxN ..).mpr h
   · exact h.elim)
 have h:yiK F H _:=h
 unfold yiK at h
 split at h
 · obtain ⟨n,h⟩:=h;exact go n _ _ h
 · exact h.elim
theorem yIB (e:List (Nat×EffF)) (a0 a1 p0 K):WP (yql e a0 a1) 6 yKk [(.data p0)] K=yu1 a0 a1 p0 (fun r0 r1 r2=>K (.tup [(.agg [(.int .i64 r0),(.int .i64 r1)]),(.int .i64 r2)])):=by kernel_rfl
theorem yIC (e:List (Nat×EffF)) (he:EG e):OkF (E e) yAH ypi:=by
 intro as K h
 unfold yAH yu2 at h
 split at h
 · exact WP_ok (ysh e he) (ya8 (l:=[(82687900,ynu),(82687901,ynv)]) ⟨yAI e he,yAJ e he,trivial⟩ (by kernel_rfl)) (by kernel_rfl) (by kernel_rfl) (fun _=>yab (by kernel_rfl) _) (he.num _ (by kernel_rfl)) ((yIB ..).mpr h)
 · exact h.elim
end Go.Pf.Vc
namespace Go.Pf.Vc
open Go Go.Pf
set_option linter.unusedVariables false
theorem yGC (p0:Int) (p1:Int) (r0:Int) (h:∀ K:Int→Prop,K r0→yez p0 p1 K) (K:Int→Prop):yez p0 p1 K=K r0 :=
 propext ⟨fun k=>detC (yuX [] ybg) (as:=[(.int .u64 p0),(.int .u64 p1)]) (x:=(.int .u64 r0)) (fun K' k'=>h (fun r0=>K' (.int .u64 r0)) k') (K:=fun x=>match x with | (.int .u64 r0)=>K r0 | _=>False) k,h K⟩
theorem yCm (p0:Int) (p1:Int) (p2:Int) (r0:Int) (r1:Int) (r2:Int) (h:∀ K:Int→Int→Int→Prop,K r0 r1 r2→yd6 p0 p1 p2 K) (K:Int→Int→Int→Prop):yd6 p0 p1 p2 K=K r0 r1 r2 :=
 propext ⟨fun k=>detC (ywi [] ybg) (as:=[(.agg [(.int .u64 p0),(.int .u64 p1)]),(.int .u64 p2)]) (x:=(.tup [(.agg [(.int .u64 r0),(.int .u64 r1)]),(.int .u64 r2)])) (fun K' k'=>h (fun r0 r1 r2=>K' (.tup [(.agg [(.int .u64 r0),(.int .u64 r1)]),(.int .u64 r2)])) k') (K:=fun x=>match x with | (.tup [(.agg [(.int .u64 r0),(.int .u64 r1)]),(.int .u64 r2)])=>K r0 r1 r2 | _=>False) k,h K⟩
end Go.Pf.Vc
namespace Go.Pf.Vc
open Go Go.Pf
set_option maxRecDepth 100000
abbrev yiL:Type:=Int→List PV→List PV→(Bool→Prop)→Prop
def yqm (_:Int) (p1 p2:List PV) (K:Bool→Prop):Prop :=
 (cbr (decide ((((List.length p1):Nat):Int)>(60:Int)))
 (K true)
 (K (decide ((((List.length p2):Nat):Int)>(60:Int)))))
def yeM (p0:Int) (p1 p2:List PV) (K:Bool→Prop):Prop:=yqm p0 p1 p2 K
def yqn (w:yiL) (as:List PV) (K:PV→Prop):Prop :=
 match as with
 | [(.agg [(.int .i64 p0),(.data p1),(.data p2)])]=>w p0 p1 p2 (fun r0=>K (.bool r0))
 | _=>False
def ywj (as:List PV) (K:PV→Prop):Prop:=yqn yeM as K
def yEF:LP:=fun _ _ _ _ =>
 False
def ywk (e:List (Nat×EffF)):SE:=⟨(E e),lookS [],lookI [],yEF⟩
theorem yCn (e:List (Nat×EffF)) (he:EG e):SEOk (ywk e):=yam trivial trivial he.ok
theorem yEG (e:List (Nat×EffF)) ( p0 p1 p2 K):WP (ywk e) 6 yFX [(.agg [(.int .i64 p0),(.data p1),(.data p2)])] K=yqm p0 p1 p2 (fun r0=>K (.bool r0)):=by kernel_rfl
theorem yEH (e:List (Nat×EffF)) (he:EG e):OkF (E e) ywj yln:=by
 intro as K h
 unfold ywj yqn at h
 split at h
 · exact WP_ok (yCn e he) (yag (by kernel_rfl)) (by kernel_rfl) (by kernel_rfl) (fun _=>yab (by kernel_rfl) _) (he.num _ (by kernel_rfl)) ((yEG ..).mpr h)
 · exact h.elim
abbrev yfD:Type:=Int→List PV→List PV→(Int→Prop)→Prop
def ycv (x0:Int→Prop) (x1:Int→List PV→List PV→Bool→Int→Bool→Prop):Nat→Int→List PV→List PV→Bool→Int→Prop
 | 0,_,_,_,_,_=>False
 | n+1,i0,l1,l2,b3,i4 =>
 (cbr (decide (i4<(((List.length l2):Nat):Int)))
 (asr (decide ((0:Int)≤(IntKind.i64.wrap (i4+(1:Int)))))
 (asr (decide ((IntKind.i64.wrap (i4+(1:Int)))<(((List.length l1):Nat):Int)))
 (asr (conf (.one (.i .i64)) (List.getD l1 ((IntKind.i64.wrap (i4+(1:Int))).toNat) .nils))
 (asr (decide ((0:Int)≤i4))
 (asr (decide (i4<(((List.length l1):Nat):Int)))
 (asr (conf (.one (.i .i64)) (List.getD l1 (i4.toNat) .nils))
 (cbr (decide ((intOfV (List.getD l1 ((IntKind.i64.wrap (i4+(1:Int))).toNat) .nils))≤(intOfV (List.getD l1 (i4.toNat) .nils))))
 (x0 (8:Int))
 (asr (decide ((0:Int)≤i4))
 (asr (decide (i4<(((List.length l2):Nat):Int)))
 (asr (conf (.one (.i .i64)) (List.getD l2 (i4.toNat) .nils))
 (cbr (decide ((intOfV (List.getD l2 (i4.toNat) .nils))<(0:Int)))
 (x0 (8:Int))
 (asr (decide ((0:Int)≤i4))
 (asr (decide (i4<(((List.length l2):Nat):Int)))
 (asr (conf (.one (.i .i64)) (List.getD l2 (i4.toNat) .nils))
 (cbr (decide ((intOfV (List.getD l2 (i4.toNat) .nils))>(12:Int)))
 (x0 (8:Int))
 (cbr b3
 (ycv x0 x1 n i0 l1 l2 true (IntKind.i64.wrap (i4+(1:Int))))
 (asr (decide ((0:Int)≤i4))
 (asr (decide (i4<(((List.length l2):Nat):Int)))
 (asr (conf (.one (.i .i64)) (List.getD l2 (i4.toNat) .nils))
 (ycv x0 x1 n i0 l1 l2 (decide ((intOfV (List.getD l2 (i4.toNat) .nils))>(0:Int))) (IntKind.i64.wrap (i4+(1:Int)))))))))))))))))))))))
 (x1 i0 l1 l2 b3 i4 false))
def yqo (p0:Int) (p1 p2:List PV) (K:Int→Prop):Prop :=
 (cbr (decide (p0>(1000:Int)))
 (K (4:Int))
 (cbr (decide ((((List.length p1):Nat):Int)>(40:Int)))
 (K (4:Int))
 (cbr (decide (p0<(1:Int)))
 (K (8:Int))
 (cbr (decide ((((List.length p1):Nat):Int)<(2:Int)))
 (K (8:Int))
 (cbr ((((List.length p2):Nat):Int) !=(IntKind.i64.wrap ((((List.length p1):Nat):Int)-(1:Int))))
 (K (8:Int))
 (asr (decide ((0:Int)<(((List.length p1):Nat):Int)))
 (asr (conf (.one (.i .i64)) (List.getD p1 0 .nils))
 (cbr ((intOfV (List.getD p1 0 .nils)) !=(0:Int))
 (K (8:Int))
 (asr (decide ((0:Int)≤(IntKind.i64.wrap ((((List.length p1):Nat):Int)-(1:Int)))))
 (asr (decide ((IntKind.i64.wrap ((((List.length p1):Nat):Int)-(1:Int)))<(((List.length p1):Nat):Int)))
 (asr (conf (.one (.i .i64)) (List.getD p1 ((IntKind.i64.wrap ((((List.length p1):Nat):Int)-(1:Int))).toNat) .nils))
 (cbr ((intOfV (List.getD p1 ((IntKind.i64.wrap ((((List.length p1):Nat):Int)-(1:Int))).toNat) .nils)) != p0)
 (K (8:Int))
 (∃ n:Nat,ycv
 (fun yi0=>(K yi0))
 (fun _ _ _ yb4 _ _=>(cbr (!yb4)
 (K (8:Int))
 (K (0:Int))))
 n p0 p1 p2 false (0:Int))))))))))))))
def ybO (p0:Int) (p1 p2:List PV) (K:Int→Prop):Prop:=yqo p0 p1 p2 K
def yqp (w:yfD) (as:List PV) (K:PV→Prop):Prop :=
 match as with
 | [(.agg [(.int .i64 p0),(.data p1),(.data p2)])]=>w p0 p1 p2 (fun r0=>K (.int .i64 r0))
 | _=>False
def ywl (as:List PV) (K:PV→Prop):Prop:=yqp ybO as K
def ygw (F:Frm) (H:Hp) (A0:Int→List PV→List PV→Bool→Int→Prop):Prop :=
 match F,H with
 | [(1,.box (.agg [(.int .i64 i0),(.data l1),(.data l2)])),(3,.v (.bool b3)),(4,.v (.int .i64 i4))],[]=>(A0 i0 l1 l2 b3 i4)
 | _,_=>False
def ylX (Q:Ex→Frm→Hp→Prop):Int→Prop:=(fun i0=>Q .ret [(2,.v (.int .i64 i0))] [])
def ylY (Q:Ex→Frm→Hp→Prop):Int→List PV→List PV→Bool→Int→Bool→Prop:=(fun i0 l1 l2 b3 i4 b5=>Q (.exit 0) [(1,.box (.agg [(.int .i64 i0),(.data l1),(.data l2)])),(3,.v (.bool b3)),(4,.v (.int .i64 i4)),(57,.v (.bool b5))] [])
def yk9 (Q:Ex→Frm→Hp→Prop) (n:Nat) (F:Frm) (H:Hp):Prop:=ygw F H (fun i0 l1 l2 b3 i4=>ycv (ylX Q) (ylY Q) n i0 l1 l2 b3 i4)
def ymE:LP:=fun id F H Q =>
 bif Nat.beq id 94526800 then ygw F H (fun i0 l1 l2 b3 i4=>∃ n:Nat,ycv (ylX Q) (ylY Q) n i0 l1 l2 b3 i4) else
 False
def yqq (e:List (Nat×EffF)):SE:=⟨(E e),lookS [],lookI [],ymE⟩
theorem yua (e:List (Nat×EffF)) (he:EG e):SEOk (yqq e):=yam trivial trivial he.ok
theorem yu3 (e:List (Nat×EffF)) ( Q n i0 l1 l2 b3 i4):WC (E e) (callW (yqq e) 5) (ymE) ym8 [(1,.box (.agg [(.int .i64 i0),(.data l1),(.data l2)])),(3,.v (.bool b3)),(4,.v (.int .i64 i4))] [] (fun x F' H'=>match x with | .norm=>yk9 Q n F' H' | .exit i=>Q (.exit i) F' H' | .ret=>Q .ret F' H')=ycv (ylX Q) (ylY Q) (n+1) i0 l1 l2 b3 i4:=by kernel_rfl
theorem yy7 (e:List (Nat×EffF)) (_:EG e):LpOk (E e) (ymE) ym8:=(yag (by kernel_rfl))
theorem yxO (e:List (Nat×EffF)) (he:EG e):∀ F H Q,ymE 94526800 F H Q→LoopT (E e) ym8 F H Q:=by
 intro F H Q h
 have go:=LoopT.intro (yaC (yua e he) 5) (yy7 e he) (yk9 Q) (by
   intro F H h
   unfold yk9 ygw at h
   split at h
   · exact h
   · exact h) (by
   intro n F H h
   unfold yk9 ygw at h
   split at h
   · exact (yu3 ..).mpr h
   · exact h.elim)
 have h:ygw F H _:=h
 unfold ygw at h
 split at h
 · obtain ⟨n,h⟩:=h;exact go n _ _ h
 · exact h.elim
theorem yEI (e:List (Nat×EffF)) ( p0 p1 p2 K):WP (yqq e) 6 yFZ [(.agg [(.int .i64 p0),(.data p1),(.data p2)])] K=yqo p0 p1 p2 (fun r0=>K (.int .i64 r0)):=by kernel_rfl
theorem ywm (e:List (Nat×EffF)) (he:EG e):OkF (E e) ywl yiu:=by
 intro as K h
 unfold ywl yqp at h
 split at h
 · exact WP_ok (yua e he) (ya8 (l:=[(94526800,ym8)]) ⟨yxO e he,trivial⟩ (by kernel_rfl)) (by kernel_rfl) (by kernel_rfl) (fun _=>yab (by kernel_rfl) _) (he.num _ (by kernel_rfl)) ((yEI ..).mpr h)
 · exact h.elim
abbrev yiM:Type:=Int→Int→Int→(Bool→Prop)→Prop
def yqr (a0:ycj) (a1:yhZ) (a2:ydL) (p0 p1 p2:Int) (K:Bool→Prop):Prop :=
 (a0 p1 p2 (fun yi0 =>
 (cbr (yi0 ==(0:Int))
 (cbr (decide (p1≥(0:Int)))
 (a1 p0 (fun yi1 yi2 =>
 (a2 yi1 yi2 p1 p2 (fun yb3 =>
 (K (!yb3))))))
 (K false))
 (K false))))
def yeN (p0 p1 p2:Int) (K:Bool→Prop):Prop:=yqr ybN yjx ycx p0 p1 p2 K
def yqs (w:yiM) (as:List PV) (K:PV→Prop):Prop :=
 match as with
 | [(.int .i64 p0),(.agg [(.int .i64 p1),(.int .i64 p2)])]=>w p0 p1 p2 (fun r0=>K (.bool r0))
 | _=>False
def ywn (as:List PV) (K:PV→Prop):Prop:=yqs yeN as K
def yEJ (_:ycj) (_:yhZ) (_:ydL):LP:=fun _ _ _ _ =>
 False
def ywo (e:List (Nat×EffF)) (a0:ycj) (a1:yhZ) (a2:ydL):SE:=⟨(E e),lookS [(ycZ,yjw a0),(yg2,yps a1),(yfG,ylC a2)],lookI [],yEJ a0 a1 a2⟩
theorem yCo (e:List (Nat×EffF)) (he:EG e):SEOk (ywo e ybN yjx ycx):=yam ⟨(yqe e he),(yxK e he),(ysd e he),trivial⟩ trivial he.ok
theorem yEK (e:List (Nat×EffF)) (a0 a1 a2 p0 p1 p2 K):WP (ywo e a0 a1 a2) 6 yF5 [(.int .i64 p0),(.agg [(.int .i64 p1),(.int .i64 p2)])] K=yqr a0 a1 a2 p0 p1 p2 (fun r0=>K (.bool r0)):=by kernel_rfl
theorem yEL (e:List (Nat×EffF)) (he:EG e):OkF (E e) ywn yiw:=by
 intro as K h
 unfold ywn yqs at h
 split at h
 · exact WP_ok (yCo e he) (yag (by kernel_rfl)) (by kernel_rfl) (by kernel_rfl) (fun _=>yab (by kernel_rfl) _) (he.num _ (by kernel_rfl)) ((yEK ..).mpr h)
 · exact h.elim
end Go.Pf.Vc
namespace Go.Pf.Vc
open Go Go.Pf
set_option linter.unusedVariables false
theorem yCp (p0:Int) (p1:List PV) (p2:List PV) (r0:Int) (h:∀ K:Int→Prop,K r0→ybO p0 p1 p2 K) (K:Int→Prop):ybO p0 p1 p2 K=K r0 :=
 propext ⟨fun k=>detC (ywm [] ybg) (as:=[(.agg [(.int .i64 p0),(.data p1),(.data p2)])]) (x:=(.int .i64 r0)) (fun K' k'=>h (fun r0=>K' (.int .i64 r0)) k') (K:=fun x=>match x with | (.int .i64 r0)=>K r0 | _=>False) k,h K⟩
end Go.Pf.Vc
namespace Go.Pf.Vc
open Go Go.Pf
set_option maxRecDepth 100000
abbrev yed:Type:=List PV→(Bool→Prop)→Prop
def ybA (a0:yiL) (x0:Bool→Prop) (x1:List PV→Int→Bool→Prop):Nat→List PV→Int→Prop
 | 0,_,_=>False
 | n+1,l0,i1 =>
 (cbr (decide (i1<(((List.length l0):Nat):Int)))
 (asr (decide ((0:Int)≤i1))
 (asr (decide (i1<(((List.length l0):Nat):Int)))
 (asr (conf (.agg [.i .i64,.d,.d]) (List.getD l0 (i1.toNat) .nils))
 (a0 (intOfV (cellAt (List.getD l0 (i1.toNat) .nils) 0)) (datOfV (cellAt (List.getD l0 (i1.toNat) .nils) 1)) (datOfV (cellAt (List.getD l0 (i1.toNat) .nils) 2)) (fun yb0 =>
 (cbr yb0
 (x0 true)
 (ybA a0 x0 x1 n l0 (IntKind.i64.wrap (i1+(1:Int))))))))))
 (x1 l0 i1 false))
def yjy (a0:yiL) (p0:List PV) (K:Bool→Prop):Prop :=
 (∃ n:Nat,ybA a0
 (fun yb1=>(K yb1))
 (fun yl2 _ _=>(K (decide ((((List.length yl2):Nat):Int)>(10:Int)))))
 n p0 (0:Int))
def ybf (p0:List PV) (K:Bool→Prop):Prop:=yjy yeM p0 K
def yjz (w:yed) (as:List PV) (K:PV→Prop):Prop :=
 match as with
 | [(.data p0)]=>w p0 (fun r0=>K (.bool r0))
 | _=>False
def yop (as:List PV) (K:PV→Prop):Prop:=yjz ybf as K
def ydi (F:Frm) (H:Hp) (A0:List PV→Int→Prop):Prop :=
 match F,H with
 | [(0,.v (.data l0)),(3,.v (.int .i64 i1))],[]=>(A0 l0 i1)
 | _,_=>False
def yhc (Q:Ex→Frm→Hp→Prop):Bool→Prop:=(fun b0=>Q .ret [(2,.v (.bool b0))] [])
def yhd (Q:Ex→Frm→Hp→Prop):List PV→Int→Bool→Prop:=(fun l0 i1 b2=>Q (.exit 0) [(0,.v (.data l0)),(3,.v (.int .i64 i1)),(7,.v (.bool b2))] [])
def yfT (a0:yiL) (Q:Ex→Frm→Hp→Prop) (n:Nat) (F:Frm) (H:Hp):Prop:=ydi F H (fun l0 i1=>ybA a0 (yhc Q) (yhd Q) n l0 i1)
def ygT (a0:yiL):LP:=fun id F H Q =>
 bif Nat.beq id 4277600 then ydi F H (fun l0 i1=>∃ n:Nat,ybA a0 (yhc Q) (yhd Q) n l0 i1) else
 False
def yjA (e:List (Nat×EffF)) (a0:yiL):SE:=⟨(E e),lookS [(yln,yqn a0)],lookI [],ygT a0⟩
theorem ynL (e:List (Nat×EffF)) (he:EG e):SEOk (yjA e yeM):=yam ⟨(yEH e he),trivial⟩ trivial he.ok
theorem ypt (e:List (Nat×EffF)) (a0 Q n l0 i1):WC (E e) (callW (yjA e a0) 5) (ygT a0) ypj [(0,.v (.data l0)),(3,.v (.int .i64 i1))] [] (fun x F' H'=>match x with | .norm=>yfT a0 Q n F' H' | .exit i=>Q (.exit i) F' H' | .ret=>Q .ret F' H')=ybA a0 (yhc Q) (yhd Q) (n+1) l0 i1:=by kernel_rfl
theorem ysi (e:List (Nat×EffF)) (_:EG e):LpOk (E e) (ygT yeM) ypj:=(yag (by kernel_rfl))
theorem yro (e:List (Nat×EffF)) (he:EG e):∀ F H Q,ygT yeM 4277600 F H Q→LoopT (E e) ypj F H Q:=by
 intro F H Q h
 have go:=LoopT.intro (yaC (ynL e he) 5) (ysi e he) (yfT yeM Q) (by
   intro F H h
   unfold yfT ydi at h
   split at h
   · exact h
   · exact h) (by
   intro n F H h
   unfold yfT ydi at h
   split at h
   · exact (ypt ..).mpr h
   · exact h.elim)
 have h:ydi F H _:=h
 unfold ydi at h
 split at h
 · obtain ⟨n,h⟩:=h;exact go n _ _ h
 · exact h.elim
theorem ywp (e:List (Nat×EffF)) (a0 p0 K):WP (yjA e a0) 6 yxo [(.data p0)] K=yjy a0 p0 (fun r0=>K (.bool r0)):=by kernel_rfl
theorem yoq (e:List (Nat×EffF)) (he:EG e):OkF (E e) yop yfi:=by
 intro as K h
 unfold yop yjz at h
 split at h
 · exact WP_ok (ynL e he) (ya8 (l:=[(4277600,ypj)]) ⟨yro e he,trivial⟩ (by kernel_rfl)) (by kernel_rfl) (by kernel_rfl) (fun _=>yab (by kernel_rfl) _) (he.num _ (by kernel_rfl)) ((ywp ..).mpr h)
 · exact h.elim
abbrev yfE:Type:=List PV→List PV→(Int→Prop)→Prop
def yc5 (a0:yfD) (x6981300_0:Int→Prop) (x6981300_1:List PV→List PV→Int→Bool→Prop):Nat→List PV→List PV→Int→Prop
 | 0,_,_,_=>False
 | n6981300+1,l0,l1,i2 =>
 (cbr (decide (i2<(((List.length l0):Nat):Int)))
 (asr (decide ((0:Int)≤i2))
 (asr (decide (i2<(((List.length l0):Nat):Int)))
 (asr (conf (.agg [.i .i64,.d,.d]) (List.getD l0 (i2.toNat) .nils))
 (a0 (intOfV (cellAt (List.getD l0 (i2.toNat) .nils) 0)) (datOfV (cellAt (List.getD l0 (i2.toNat) .nils) 1)) (datOfV (cellAt (List.getD l0 (i2.toNat) .nils) 2)) (fun yi0 =>
 (cbr (yi0 !=(0:Int))
 (asr (decide ((0:Int)≤i2))
 (asr (decide (i2<(((List.length l0):Nat):Int)))
 (asr (conf (.agg [.i .i64,.d,.d]) (List.getD l0 (i2.toNat) .nils))
 (a0 (intOfV (cellAt (List.getD l0 (i2.toNat) .nils) 0)) (datOfV (cellAt (List.getD l0 (i2.toNat) .nils) 1)) (datOfV (cellAt (List.getD l0 (i2.toNat) .nils) 2)) (fun yi1 =>
 (x6981300_0 yi1))))))
 (yc5 a0 x6981300_0 x6981300_1 n6981300 l0 l1 (IntKind.i64.wrap (i2+(1:Int))))))))))
 (x6981300_1 l0 l1 i2 false))
def ycw (a0:yfD) (x6981301_0:Int→Prop) (x6981301_1:List PV→List PV→Int→Bool→Prop):Nat→List PV→List PV→Int→Prop
 | 0,_,_,_=>False
 | n6981301+1,l0,l1,i2 =>
 (cbr (decide (i2<(((List.length l0):Nat):Int)))
 (asr (decide ((0:Int)≤i2))
 (asr (decide (i2<(((List.length l0):Nat):Int)))
 (asr (conf (.agg [.i .i64,.d,.d]) (List.getD l0 (i2.toNat) .nils))
 (asr (decide ((0:Int)<(((List.length l0):Nat):Int)))
 (asr (conf (.agg [.i .i64,.d,.d]) (List.getD l0 0 .nils))
 (cbr ((intOfV (cellAt (List.getD l0 (i2.toNat) .nils) 0)) !=(intOfV (cellAt (List.getD l0 0 .nils) 0)))
 (x6981301_0 (8:Int))
 (ycw a0 x6981301_0 x6981301_1 n6981301 l0 l1 (IntKind.i64.wrap (i2+(1:Int))))))))))
 (x6981301_1 l0 l1 i2 false))
def yqt (a0:yfD) (p0 p1:List PV) (K:Int→Prop):Prop :=
 (cbr (decide ((((List.length p0):Nat):Int)>(6:Int)))
 (K (4:Int))
 (cbr (decide ((((List.length p1):Nat):Int)>(2000:Int)))
 (K (4:Int))
 (cbr ((((List.length p0):Nat):Int) ==(0:Int))
 (K (8:Int))
 (∃ n6981300:Nat,yc5 a0
 (fun yi2=>(K yi2))
 (fun yl3 yl4 _ _=>(∃ n6981301:Nat,ycw a0
 (fun yi7=>(K yi7))
 (fun _ _ _ _=>(K (0:Int)))
 n6981301 yl3 yl4 (0:Int)))
 n6981300 p0 p1 (0:Int)))))
def ycH (p0 p1:List PV) (K:Int→Prop):Prop:=yqt ybO p0 p1 K
def yqu (w:yfE) (as:List PV) (K:PV→Prop):Prop :=
 match as with
 | [(.agg [(.data p0),(.data p1)])]=>w p0 p1 (fun r0=>K (.int .i64 r0))
 | _=>False
def ywq (as:List PV) (K:PV→Prop):Prop:=yqu ycH as K
def ygx (F:Frm) (H:Hp) (A0:List PV→List PV→Int→Prop):Prop :=
 match F,H with
 | [(1,.box (.agg [(.data l0),(.data l1)])),(3,.v (.int .i64 i2))],[]=>(A0 l0 l1 i2)
 | _,_=>False
def ygy (F:Frm) (H:Hp) (A0:List PV→List PV→Int→Prop):Prop :=
 match F,H with
 | [(1,.box (.agg [(.data l0),(.data l1)])),(4,.v (.int .i64 i2))],[]=>(A0 l0 l1 i2)
 | _,_=>False
def ylZ (Q:Ex→Frm→Hp→Prop):Int→Prop:=(fun i0=>Q .ret [(2,.v (.int .i64 i0))] [])
def yl1 (Q:Ex→Frm→Hp→Prop):List PV→List PV→Int→Bool→Prop:=(fun l0 l1 i2 b3=>Q (.exit 0) [(1,.box (.agg [(.data l0),(.data l1)])),(3,.v (.int .i64 i2)),(23,.v (.bool b3))] [])
def yl6 (Q:Ex→Frm→Hp→Prop):Int→Prop:=(fun i0=>Q .ret [(2,.v (.int .i64 i0))] [])
def yl7 (Q:Ex→Frm→Hp→Prop):List PV→List PV→Int→Bool→Prop:=(fun l0 l1 i2 b3=>Q (.exit 2) [(1,.box (.agg [(.data l0),(.data l1)])),(4,.v (.int .i64 i2)),(43,.v (.bool b3))] [])
def yla (a0:yfD) (Q:Ex→Frm→Hp→Prop) (n:Nat) (F:Frm) (H:Hp):Prop:=ygx F H (fun l0 l1 i2=>yc5 a0 (ylZ Q) (yl1 Q) n l0 l1 i2)
def ylb (a0:yfD) (Q:Ex→Frm→Hp→Prop) (n:Nat) (F:Frm) (H:Hp):Prop:=ygy F H (fun l0 l1 i2=>ycw a0 (yl6 Q) (yl7 Q) n l0 l1 i2)
def yfU (a0:yfD):LP:=fun id F H Q =>
 bif Nat.beq id 6981300 then ygx F H (fun l0 l1 i2=>∃ n:Nat,yc5 a0 (ylZ Q) (yl1 Q) n l0 l1 i2) else
 bif Nat.beq id 6981301 then ygy F H (fun l0 l1 i2=>∃ n:Nat,ycw a0 (yl6 Q) (yl7 Q) n l0 l1 i2) else
 False
def ymF (e:List (Nat×EffF)) (a0:yfD):SE:=⟨(E e),lookS [(yiu,yqp a0)],lookI [],yfU a0⟩
theorem yoU (e:List (Nat×EffF)) (he:EG e):SEOk (ymF e ybO):=yam ⟨(ywm e he),trivial⟩ trivial he.ok
theorem yu4 (e:List (Nat×EffF)) (a0 Q n l0 l1 i2):WC (E e) (callW (ymF e a0) 5) (yfU a0) ypk [(1,.box (.agg [(.data l0),(.data l1)])),(3,.v (.int .i64 i2))] [] (fun x F' H'=>match x with | .norm=>yla a0 Q n F' H' | .exit i=>Q (.exit i) F' H' | .ret=>Q .ret F' H')=yc5 a0 (ylZ Q) (yl1 Q) (n+1) l0 l1 i2:=by kernel_rfl
theorem yy8 (e:List (Nat×EffF)) (_:EG e):LpOk (E e) (yfU ybO) ypk:=(yag (by kernel_rfl))
theorem yxP (e:List (Nat×EffF)) (he:EG e):∀ F H Q,yfU ybO 6981300 F H Q→LoopT (E e) ypk F H Q:=by
 intro F H Q h
 have go:=LoopT.intro (yaC (yoU e he) 5) (yy8 e he) (yla ybO Q) (by
   intro F H h
   unfold yla ygx at h
   split at h
   · exact h
   · exact h) (by
   intro n F H h
   unfold yla ygx at h
   split at h
   · exact (yu4 ..).mpr h
   · exact h.elim)
 have h:ygx F H _:=h
 unfold ygx at h
 split at h
 · obtain ⟨n,h⟩:=h;exact go n _ _ h
 · exact h.elim
theorem yu5 (e:List (Nat×EffF)) (a0 Q n l0 l1 i2):WC (E e) (callW (ymF e a0) 5) (yfU a0) ypl [(1,.box (.agg [(.data l0),(.data l1)])),(4,.v (.int .i64 i2))] [] (fun x F' H'=>match x with | .norm=>ylb a0 Q n F' H' | .exit i=>Q (.exit i) F' H' | .ret=>Q .ret F' H')=ycw a0 (yl6 Q) (yl7 Q) (n+1) l0 l1 i2:=by kernel_rfl
theorem yy9 (e:List (Nat×EffF)) (_:EG e):LpOk (E e) (yfU ybO) ypl:=(yag (by kernel_rfl))
theorem yxQ (e:List (Nat×EffF)) (he:EG e):∀ F H Q,yfU ybO 6981301 F H Q→LoopT (E e) ypl F H Q:=by
 intro F H Q h
 have go:=LoopT.intro (yaC (yoU e he) 5) (yy9 e he) (ylb ybO Q) (by
   intro F H h
   unfold ylb ygy at h
   split at h
   · exact h
   · exact h) (by
   intro n F H h
   unfold ylb ygy at h
   split at h
   · exact (yu5 ..).mpr h
   · exact h.elim)
 have h:ygy F H _:=h
 unfold ygy at h
 split at h
 · obtain ⟨n,h⟩:=h;exact go n _ _ h
 · exact h.elim
theorem yEM (e:List (Nat×EffF)) (a0 p0 p1 K):WP (ymF e a0) 6 yF0 [(.agg [(.data p0),(.data p1)])] K=yqt a0 p0 p1 (fun r0=>K (.int .i64 r0)):=by kernel_rfl
theorem ywr (e:List (Nat×EffF)) (he:EG e):OkF (E e) ywq ylp:=by
 intro as K h
 unfold ywq yqu at h
 split at h
 · exact WP_ok (yoU e he) (ya8 (l:=[(6981300,ypk),(6981301,ypl)]) ⟨yxP e he,yxQ e he,trivial⟩ (by kernel_rfl)) (by kernel_rfl) (by kernel_rfl) (fun _=>yab (by kernel_rfl) _) (he.num _ (by kernel_rfl)) ((yEM ..).mpr h)
 · exact h.elim
end Go.Pf.Vc
namespace Go.Pf.Vc
open Go Go.Pf
set_option linter.unusedVariables false
theorem yu6 (p0:List PV) (r0:Bool) (h:∀ K:Bool→Prop,K r0→ybf p0 K) (K:Bool→Prop):ybf p0 K=K r0 :=
 propext ⟨fun k=>detC (yoq [] ybg) (as:=[(.data p0)]) (x:=(.bool r0)) (fun K' k'=>h (fun r0=>K' (.bool r0)) k') (K:=fun x=>match x with | (.bool r0)=>K r0 | _=>False) k,h K⟩
theorem yCq (p0:List PV) (p1:List PV) (r0:Int) (h:∀ K:Int→Prop,K r0→ycH p0 p1 K) (K:Int→Prop):ycH p0 p1 K=K r0 :=
 propext ⟨fun k=>detC (ywr [] ybg) (as:=[(.agg [(.data p0),(.data p1)])]) (x:=(.int .i64 r0)) (fun K' k'=>h (fun r0=>K' (.int .i64 r0)) k') (K:=fun x=>match x with | (.int .i64 r0)=>K r0 | _=>False) k,h K⟩
end Go.Pf.Vc
namespace Go.Pf.Vc
open Go Go.Pf
set_option maxRecDepth 100000
abbrev yiN:Type:=List PV→(Bool→Prop)→Prop
def yqv (p0:List PV) (K:Bool→Prop):Prop :=
 (jn (fun (yj1:Bool→Prop) =>
 (cbr (decide ((((List.length p0):Nat):Int)>(20:Int)))
 (cbr (decide ((((List.length p0):Nat):Int)≤(60:Int)))
 (yj1 true)
 (yj1 (decide ((((List.length p0):Nat):Int)>(70:Int)))))
 (yj1 (decide ((((List.length p0):Nat):Int)>(70:Int))))))
 (fun yb0=>(K yb0)))
def yd9 (p0:List PV) (K:Bool→Prop):Prop:=yqv p0 K
def yqw (w:yiN) (as:List PV) (K:PV→Prop):Prop :=
 match as with
 | [(.data p0)]=>w p0 (fun r0=>K (.bool r0))
 | _=>False
def yws (as:List PV) (K:PV→Prop):Prop:=yqw yd9 as K
def yEN:LP:=fun _ _ _ _ =>
 False
def ywt (e:List (Nat×EffF)):SE:=⟨(E e),lookS [],lookI [],yEN⟩
theorem yCr (e:List (Nat×EffF)) (he:EG e):SEOk (ywt e):=yam trivial trivial he.ok
theorem yEO (e:List (Nat×EffF)) ( p0 K):WP (ywt e) 6 yFW [(.data p0)] K=yqv p0 (fun r0=>K (.bool r0)):=by kernel_rfl
theorem yEP (e:List (Nat×EffF)) (he:EG e):OkF (E e) yws ylm:=by
 intro as K h
 unfold yws yqw at h
 split at h
 · exact WP_ok (yCr e he) (yag (by kernel_rfl)) (by kernel_rfl) (by kernel_rfl) (fun _=>yab (by kernel_rfl) _) (he.num _ (by kernel_rfl)) ((yEO ..).mpr h)
 · exact h.elim
abbrev yor:Type:=List PV→List PV→(Bool→Prop)→Prop
def yc6 (a0:yiN) (a1:yed) (x0:List PV→List PV→Int→Bool→Prop) (x1:Bool→Prop):Nat→List PV→List PV→Int→Prop
 | 0,_,_,_=>False
 | n+1,l0,l1,i2 =>
 (cbr (decide (i2<(((List.length l1):Nat):Int)))
 (asr (decide ((0:Int)≤i2))
 (asr (decide (i2<(((List.length l1):Nat):Int)))
 (lt (List.getD l1 (i2.toNat) .nils) (fun yr6 =>
 (asr (conf (.one (.d)) yr6)
 (a0 (datOfV yr6) (fun yb7 =>
 (cbr yb7
 (x1 true)
 (lt (IntKind.i64.wrap (i2+(1:Int))) (fun yi8 =>
 (yc6 a0 a1 x0 x1 n l0 l1 yi8)))))))))))
 (x0 l0 l1 i2 false))
def yqx (a0:yiN) (a1:yed) (p0 p1:List PV) (K:Bool→Prop):Prop :=
 (∃ n:Nat,yc6 a0 a1
 (fun yl14 yl15 _ _=>(jn (fun (yj20:Bool→Prop) =>
 (a1 yl14 (fun yb21 =>
 (cbr yb21
 (yj20 true)
 (yj20 (decide ((((List.length yl15):Nat):Int)>(10:Int))))))))
 (fun yb19=>(K yb19))))
 (fun yb22=>(K yb22))
 n p0 p1 (0:Int))
def yhe (p0 p1:List PV) (K:Bool→Prop):Prop:=yqx yd9 ybf p0 p1 K
def yqy (w:yor) (as:List PV) (K:PV→Prop):Prop :=
 match as with
 | [(.data p0),(.agg [(.data p1)])]=>w p0 p1 (fun r0=>K (.bool r0))
 | _=>False
def ywu (as:List PV) (K:PV→Prop):Prop:=yqy yhe as K
def ygz (F:Frm) (H:Hp) (A0:List PV→List PV→Int→Prop):Prop :=
 match F,H with
 | [(0,.v (.data l0)),(3,.box (.agg [(.data l1)])),(5,.v (.int .i64 i2))],[]=>(A0 l0 l1 i2)
 | _,_=>False
def yma (Q:Ex→Frm→Hp→Prop):List PV→List PV→Int→Bool→Prop:=(fun l0 l1 i2 b3=>Q (.exit 0) [(0,.v (.data l0)),(3,.box (.agg [(.data l1)])),(5,.v (.int .i64 i2)),(10,.v (.bool b3))] [])
def ymb (Q:Ex→Frm→Hp→Prop):Bool→Prop:=(fun b0=>Q .ret [(4,.v (.bool b0))] [])
def ylc (a0:yiN) (a1:yed) (Q:Ex→Frm→Hp→Prop) (n:Nat) (F:Frm) (H:Hp):Prop:=ygz F H (fun l0 l1 i2=>yc6 a0 a1 (yma Q) (ymb Q) n l0 l1 i2)
def ymG (a0:yiN) (a1:yed):LP:=fun id F H Q =>
 bif Nat.beq id 69508200 then ygz F H (fun l0 l1 i2=>∃ n:Nat,yc6 a0 a1 (yma Q) (ymb Q) n l0 l1 i2) else
 False
def yqz (e:List (Nat×EffF)) (a0:yiN) (a1:yed):SE:=⟨(E e),lookS [(ylm,yqw a0),(yfi,yjz a1)],lookI [],ymG a0 a1⟩
theorem yub (e:List (Nat×EffF)) (he:EG e):SEOk (yqz e yd9 ybf):=yam ⟨(yEP e he),(yoq e he),trivial⟩ trivial he.ok
theorem yu7 (e:List (Nat×EffF)) (a0 a1 Q n l0 l1 i2):WC (E e) (callW (yqz e a0 a1) 5) (ymG a0 a1) ym7 [(0,.v (.data l0)),(3,.box (.agg [(.data l1)])),(5,.v (.int .i64 i2))] [] (fun x F' H'=>match x with | .norm=>ylc a0 a1 Q n F' H' | .exit i=>Q (.exit i) F' H' | .ret=>Q .ret F' H')=yc6 a0 a1 (yma Q) (ymb Q) (n+1) l0 l1 i2:=by kernel_rfl
theorem yza (e:List (Nat×EffF)) (_:EG e):LpOk (E e) (ymG yd9 ybf) ym7:=(yag (by kernel_rfl))
theorem yxR (e:List (Nat×EffF)) (he:EG e):∀ F H Q,ymG yd9 ybf 69508200 F H Q→LoopT (E e) ym7 F H Q:=by
 intro F H Q h
 have go:=LoopT.intro (yaC (yub e he) 5) (yza e he) (ylc yd9 ybf Q) (by
   intro F H h
   unfold ylc ygz at h
   split at h
   · exact h
   · exact h) (by
   intro n F H h
   unfold ylc ygz at h
   split at h
   · exact (yu7 ..).mpr h
   · exact h.elim)
 have h:ygz F H _:=h
 unfold ygz at h
 split at h
 · obtain ⟨n,h⟩:=h;exact go n _ _ h
 · exact h.elim
theorem yEQ (e:List (Nat×EffF)) (a0 a1 p0 p1 K):WP (yqz e a0 a1) 6 yFY [(.data p0),(.agg [(.data p1)])] K=yqx a0 a1 p0 p1 (fun r0=>K (.bool r0)):=by kernel_rfl
theorem ywv (e:List (Nat×EffF)) (he:EG e):OkF (E e) ywu ylo:=by
 intro as K h
 unfold ywu yqy at h
 split at h
 · exact WP_ok (yub e he) (ya8 (l:=[(69508200,ym7)]) ⟨yxR e he,trivial⟩ (by kernel_rfl)) (by kernel_rfl) (by kernel_rfl) (fun _=>yab (by kernel_rfl) _) (he.num _ (by kernel_rfl)) ((yEQ ..).mpr h)
 · exact h.elim
abbrev yiO:Type:=Int→Int→Int→Int→(Bool→Prop)→Prop
def yqA (a0:yik) (a1:ydL) (p0 p1 p2 p3:Int) (K:Bool→Prop):Prop :=
 (jn (fun (yj3:Bool→Prop) =>
 (a0 p0 p1 p2 p3 (fun yi4 =>
 (cbr (yi4 ==(0:Int))
 (a1 p0 p1 p2 p3 (fun yb5 =>
 (yj3 yb5)))
 (yj3 false)))))
 (fun yb2=>(K yb2)))
def yea (p0 p1 p2 p3:Int) (K:Bool→Prop):Prop:=yqA yil ycx p0 p1 p2 p3 K
def yqB (w:yiO) (as:List PV) (K:PV→Prop):Prop :=
 match as with
 | [(.agg [(.int .i64 p0),(.int .i64 p1),(.int .i64 p2),(.int .i64 p3)])]=>w p0 p1 p2 p3 (fun r0=>K (.bool r0))
 | _=>False
def yww (as:List PV) (K:PV→Prop):Prop:=yqB yea as K
def yER (_:yik) (_:ydL):LP:=fun _ _ _ _ =>
 False
def ywx (e:List (Nat×EffF)) (a0:yik) (a1:ydL):SE:=⟨(E e),lookS [(yg0,yoi a0),(yfG,ylC a1)],lookI [],yER a0 a1⟩
theorem yCs (e:List (Nat×EffF)) (he:EG e):SEOk (ywx e yil ycx):=yam ⟨(yyt e he),(ysd e he),trivial⟩ trivial he.ok
theorem yES (e:List (Nat×EffF)) (a0 a1 p0 p1 p2 p3 K):WP (ywx e a0 a1) 6 yF3 [(.agg [(.int .i64 p0),(.int .i64 p1),(.int .i64 p2),(.int .i64 p3)])] K=yqA a0 a1 p0 p1 p2 p3 (fun r0=>K (.bool r0)):=by kernel_rfl
theorem yET (e:List (Nat×EffF)) (he:EG e):OkF (E e) yww ylq:=by
 intro as K h
 unfold yww yqB at h
 split at h
 · exact WP_ok (yCs e he) (yag (by kernel_rfl)) (by kernel_rfl) (by kernel_rfl) (fun _=>yab (by kernel_rfl) _) (he.num _ (by kernel_rfl)) ((yES ..).mpr h)
 · exact h.elim
abbrev yfF:Type:=List PV→(Int→Prop)→Prop
def yc7 (a0:yiO) (a1:ydL) (x0:List PV→Int→Bool→Prop) (x1:Int→Prop):Nat→List PV→Int→Prop
 | 0,_,_=>False
 | n+1,l0,i1 =>
 (cbr (decide (i1<(((List.length l0):Nat):Int)))
 (jn (fun (yj21:Bool→Prop) =>
 (asr (decide ((0:Int)≤i1))
 (asr (decide (i1<(((List.length l0):Nat):Int)))
 (lt (List.getD l0 (i1.toNat) .nils) (fun yr23 =>
 (asr (conf (.agg [.i .i64,.i .i64,.i .i64,.i .i64]) yr23)
 (a0 (intOfV (cellAt yr23 0)) (intOfV (cellAt yr23 1)) (intOfV (cellAt yr23 2)) (intOfV (cellAt yr23 3)) (fun yb24 =>
 (cbr (!yb24)
 (yj21 true)
 (cbr (decide (i1>(0:Int)))
 (lt (IntKind.i64.wrap (i1-(1:Int))) (fun yi25 =>
 (asr (decide ((0:Int)≤yi25))
 (asr (decide (yi25<(((List.length l0):Nat):Int)))
 (lt (List.getD l0 (yi25.toNat) .nils) (fun yr26 =>
 (asr (conf (.agg [.i .i64,.i .i64,.i .i64,.i .i64]) yr26)
 (asr (decide ((0:Int)≤i1))
 (asr (decide (i1<(((List.length l0):Nat):Int)))
 (lt (List.getD l0 (i1.toNat) .nils) (fun yr27 =>
 (asr (conf (.agg [.i .i64,.i .i64,.i .i64,.i .i64]) yr27)
 (a1 (intOfV (cellAt yr26 2)) (intOfV (cellAt yr26 3)) (intOfV (cellAt yr27 0)) (intOfV (cellAt yr27 1)) (fun yb28 =>
 (yj21 (!yb28))))))))))))))))
 (yj21 false)))))))))))
 (fun yb20=>(cbr yb20
 (x1 (8:Int))
 (lt (IntKind.i64.wrap (i1+(1:Int))) (fun yi22 =>
 (yc7 a0 a1 x0 x1 n l0 yi22))))))
 (x0 l0 i1 false))
def yqC (a0:yiO) (a1:ydL) (p0:List PV) (K:Int→Prop):Prop :=
 (cbr (decide ((((List.length p0):Nat):Int)>(60:Int)))
 (K (4:Int))
 (∃ n:Nat,yc7 a0 a1
 (fun _ _ _=>(K (0:Int)))
 (fun yi36=>(K yi36))
 n p0 (0:Int)))
def ybX (p0:List PV) (K:Int→Prop):Prop:=yqC yea ycx p0 K
def yqD (w:yfF) (as:List PV) (K:PV→Prop):Prop :=
 match as with
 | [(.data p0)]=>w p0 (fun r0=>K (.int .i64 r0))
 | _=>False
def ywy (as:List PV) (K:PV→Prop):Prop:=yqD ybX as K
def ygA (F:Frm) (H:Hp) (A0:List PV→Int→Prop):Prop :=
 match F,H with
 | [(0,.v (.data l0)),(3,.v (.int .i64 i1))],[]=>(A0 l0 i1)
 | _,_=>False
def ymc (Q:Ex→Frm→Hp→Prop):List PV→Int→Bool→Prop:=(fun l0 i1 b2=>Q (.exit 0) [(0,.v (.data l0)),(3,.v (.int .i64 i1)),(10,.v (.bool b2))] [])
def ymd (Q:Ex→Frm→Hp→Prop):Int→Prop:=(fun i0=>Q .ret [(2,.v (.int .i64 i0))] [])
def yld (a0:yiO) (a1:ydL) (Q:Ex→Frm→Hp→Prop) (n:Nat) (F:Frm) (H:Hp):Prop:=ygA F H (fun l0 i1=>yc7 a0 a1 (ymc Q) (ymd Q) n l0 i1)
def ymH (a0:yiO) (a1:ydL):LP:=fun id F H Q =>
 bif Nat.beq id 754900 then ygA F H (fun l0 i1=>∃ n:Nat,yc7 a0 a1 (ymc Q) (ymd Q) n l0 i1) else
 False
def yqE (e:List (Nat×EffF)) (a0:yiO) (a1:ydL):SE:=⟨(E e),lookS [(ylq,yqB a0),(yfG,ylC a1)],lookI [],ymH a0 a1⟩
theorem yuc (e:List (Nat×EffF)) (he:EG e):SEOk (yqE e yea ycx):=yam ⟨(yET e he),(ysd e he),trivial⟩ trivial he.ok
theorem yu8 (e:List (Nat×EffF)) (a0 a1 Q n l0 i1):WC (E e) (callW (yqE e a0 a1) 5) (ymH a0 a1) yrB [(0,.v (.data l0)),(3,.v (.int .i64 i1))] [] (fun x F' H'=>match x with | .norm=>yld a0 a1 Q n F' H' | .exit i=>Q (.exit i) F' H' | .ret=>Q .ret F' H')=yc7 a0 a1 (ymc Q) (ymd Q) (n+1) l0 i1:=by kernel_rfl
theorem yzb (e:List (Nat×EffF)) (_:EG e):LpOk (E e) (ymH yea ycx) yrB:=(yag (by kernel_rfl))
theorem yxS (e:List (Nat×EffF)) (he:EG e):∀ F H Q,ymH yea ycx 754900 F H Q→LoopT (E e) yrB F H Q:=by
 intro F H Q h
 have go:=LoopT.intro (yaC (yuc e he) 5) (yzb e he) (yld yea ycx Q) (by
   intro F H h
   unfold yld ygA at h
   split at h
   · exact h
   · exact h) (by
   intro n F H h
   unfold yld ygA at h
   split at h
   · exact (yu8 ..).mpr h
   · exact h.elim)
 have h:ygA F H _:=h
 unfold ygA at h
 split at h
 · obtain ⟨n,h⟩:=h;exact go n _ _ h
 · exact h.elim
theorem yEU (e:List (Nat×EffF)) (a0 a1 p0 K):WP (yqE e a0 a1) 6 yF4 [(.data p0)] K=yqC a0 a1 p0 (fun r0=>K (.int .i64 r0)):=by kernel_rfl
theorem ywz (e:List (Nat×EffF)) (he:EG e):OkF (E e) ywy ylr:=by
 intro as K h
 unfold ywy yqD at h
 split at h
 · exact WP_ok (yuc e he) (ya8 (l:=[(754900,yrB)]) ⟨yxS e he,trivial⟩ (by kernel_rfl)) (by kernel_rfl) (by kernel_rfl) (fun _=>yab (by kernel_rfl) _) (he.num _ (by kernel_rfl)) ((yEU ..).mpr h)
 · exact h.elim
abbrev yeO:Type:=Int→List PV→(Bool→Prop)→Prop
def ycI (a0:yiM) (x0:Int→List PV→Int→Bool→Prop) (x1:Bool→Prop):Nat→Int→List PV→Int→Prop
 | 0,_,_,_=>False
 | n+1,i0,l1,i2 =>
 (cbr (decide (i2<(((List.length l1):Nat):Int)))
 (jn (fun (yj15:Bool→Prop) =>
 (asr (decide ((0:Int)≤i2))
 (asr (decide (i2<(((List.length l1):Nat):Int)))
 (lt (List.getD l1 (i2.toNat) .nils) (fun yr17 =>
 (asr (conf (.agg [.i .i64,.i .i64,.i .i64,.i .i64]) yr17)
 (a0 i0 (intOfV (cellAt yr17 0)) (intOfV (cellAt yr17 1)) (fun yb18 =>
 (cbr (!yb18)
 (yj15 true)
 (asr (decide ((0:Int)≤i2))
 (asr (decide (i2<(((List.length l1):Nat):Int)))
 (lt (List.getD l1 (i2.toNat) .nils) (fun yr19 =>
 (asr (conf (.agg [.i .i64,.i .i64,.i .i64,.i .i64]) yr19)
 (a0 i0 (intOfV (cellAt yr19 2)) (intOfV (cellAt yr19 3)) (fun yb20 =>
 (yj15 (!yb20))))))))))))))))))
 (fun yb14=>(cbr yb14
 (x1 false)
 (lt (IntKind.i64.wrap (i2+(1:Int))) (fun yi16 =>
 (ycI a0 x0 x1 n i0 l1 yi16))))))
 (x0 i0 l1 i2 false))
def yoV (a0:yiM) (p0:Int) (p1:List PV) (K:Bool→Prop):Prop :=
 (∃ n:Nat,ycI a0
 (fun _ _ _ _=>(K true))
 (fun yb30=>(K yb30))
 n p0 p1 (0:Int))
def ybC (p0:Int) (p1:List PV) (K:Bool→Prop):Prop:=yoV yeN p0 p1 K
def yoW (w:yeO) (as:List PV) (K:PV→Prop):Prop :=
 match as with
 | [(.int .i64 p0),(.data p1)]=>w p0 p1 (fun r0=>K (.bool r0))
 | _=>False
def yud (as:List PV) (K:PV→Prop):Prop:=yoW ybC as K
def yfo (F:Frm) (H:Hp) (A0:Int→List PV→Int→Prop):Prop :=
 match F,H with
 | [(0,.v (.int .i64 i0)),(1,.v (.data l1)),(5,.v (.int .i64 i2))],[]=>(A0 i0 l1 i2)
 | _,_=>False
def ykB (Q:Ex→Frm→Hp→Prop):Int→List PV→Int→Bool→Prop:=(fun i0 l1 i2 b3=>Q (.exit 0) [(0,.v (.int .i64 i0)),(1,.v (.data l1)),(5,.v (.int .i64 i2)),(9,.v (.bool b3))] [])
def ykC (Q:Ex→Frm→Hp→Prop):Bool→Prop:=(fun b0=>Q .ret [(4,.v (.bool b0))] [])
def yjB (a0:yiM) (Q:Ex→Frm→Hp→Prop) (n:Nat) (F:Frm) (H:Hp):Prop:=yfo F H (fun i0 l1 i2=>ycI a0 (ykB Q) (ykC Q) n i0 l1 i2)
def yle (a0:yiM):LP:=fun id F H Q =>
 bif Nat.beq id 21172200 then yfo F H (fun i0 l1 i2=>∃ n:Nat,ycI a0 (ykB Q) (ykC Q) n i0 l1 i2) else
 False
def yoX (e:List (Nat×EffF)) (a0:yiM):SE:=⟨(E e),lookS [(yiw,yqs a0)],lookI [],yle a0⟩
theorem ysj (e:List (Nat×EffF)) (he:EG e):SEOk (yoX e yeN):=yam ⟨(yEL e he),trivial⟩ trivial he.ok
theorem yts (e:List (Nat×EffF)) (a0 Q n i0 l1 i2):WC (E e) (callW (yoX e a0) 5) (yle a0) yna [(0,.v (.int .i64 i0)),(1,.v (.data l1)),(5,.v (.int .i64 i2))] [] (fun x F' H'=>match x with | .norm=>yjB a0 Q n F' H' | .exit i=>Q (.exit i) F' H' | .ret=>Q .ret F' H')=ycI a0 (ykB Q) (ykC Q) (n+1) i0 l1 i2:=by kernel_rfl
theorem yxT (e:List (Nat×EffF)) (_:EG e):LpOk (E e) (yle yeN) yna:=(yag (by kernel_rfl))
theorem ywA (e:List (Nat×EffF)) (he:EG e):∀ F H Q,yle yeN 21172200 F H Q→LoopT (E e) yna F H Q:=by
 intro F H Q h
 have go:=LoopT.intro (yaC (ysj e he) 5) (yxT e he) (yjB yeN Q) (by
   intro F H h
   unfold yjB yfo at h
   split at h
   · exact h
   · exact h) (by
   intro n F H h
   unfold yjB yfo at h
   split at h
   · exact (yts ..).mpr h
   · exact h.elim)
 have h:yfo F H _:=h
 unfold yfo at h
 split at h
 · obtain ⟨n,h⟩:=h;exact go n _ _ h
 · exact h.elim
theorem yCt (e:List (Nat×EffF)) (a0 p0 p1 K):WP (yoX e a0) 6 yD2 [(.int .i64 p0),(.data p1)] K=yoV a0 p0 p1 (fun r0=>K (.bool r0)):=by kernel_rfl
theorem yue (e:List (Nat×EffF)) (he:EG e):OkF (E e) yud yiY:=by
 intro as K h
 unfold yud yoW at h
 split at h
 · exact WP_ok (ysj e he) (ya8 (l:=[(21172200,yna)]) ⟨ywA e he,trivial⟩ (by kernel_rfl)) (by kernel_rfl) (by kernel_rfl) (fun _=>yab (by kernel_rfl) _) (he.num _ (by kernel_rfl)) ((yCt ..).mpr h)
 · exact h.elim
abbrev yos:Type:=List PV→List PV→(Int→Prop)→Prop
def yc8 (a0:yfE) (a1:yfF) (a2:yeO) (x19434100_0:List PV→List PV→Int→Bool→Prop) (x19434100_1:Int→Prop):Nat→List PV→List PV→Int→Prop
 | 0,_,_,_=>False
 | n19434100+1,l0,l1,i2 =>
 (cbr (decide (i2<(((List.length l1):Nat):Int)))
 (asr (decide ((0:Int)≤i2))
 (asr (decide (i2<(((List.length l1):Nat):Int)))
 (lt (List.getD l1 (i2.toNat) .nils) (fun yr10 =>
 (asr (conf (.one (.d)) yr10)
 (a1 (datOfV yr10) (fun yi11 =>
 (cbr (yi11 !=(0:Int))
 (x19434100_1 yi11)
 (lt (IntKind.i64.wrap (i2+(1:Int))) (fun yi12 =>
 (yc8 a0 a1 a2 x19434100_0 x19434100_1 n19434100 l0 l1 yi12)))))))))))
 (x19434100_0 l0 l1 i2 false))
def yc9 (a0:yfE) (a1:yfF) (a2:yeO) (x19434101_0:List PV→List PV→Int→Bool→Prop) (x19434101_1:Int→Prop):Nat→List PV→List PV→Int→Prop
 | 0,_,_,_=>False
 | n19434101+1,l0,l1,i2 =>
 (cbr (decide (i2<(((List.length l1):Nat):Int)))
 (asr (decide ((0:Int)<(((List.length l0):Nat):Int)))
 (lt (List.getD l0 0 .nils) (fun yr31 =>
 (asr (conf (.agg [.i .i64,.d,.d]) yr31)
 (asr (decide ((0:Int)≤i2))
 (asr (decide (i2<(((List.length l1):Nat):Int)))
 (lt (List.getD l1 (i2.toNat) .nils) (fun yr32 =>
 (asr (conf (.one (.d)) yr32)
 (a2 (intOfV (cellAt yr31 0)) (datOfV yr32) (fun yb33 =>
 (cbr (!yb33)
 (x19434101_1 (2:Int))
 (lt (IntKind.i64.wrap (i2+(1:Int))) (fun yi34 =>
 (yc9 a0 a1 a2 x19434101_0 x19434101_1 n19434101 l0 l1 yi34)))))))))))))))
 (x19434101_0 l0 l1 i2 false))
def yqF (a0:yfE) (a1:yfF) (a2:yeO) (p0 p1:List PV) (K:Int→Prop):Prop :=
 (a0 p0 ([]:List PV) (fun yi3 =>
 (cbr (yi3 !=(0:Int))
 (K yi3)
 (cbr ((((List.length p1):Nat):Int) !=(((List.length p0):Nat):Int))
 (K (2:Int))
 (∃ n19434100:Nat,yc8 a0 a1 a2
 (fun yl18 yl19 _ _=>(∃ n19434101:Nat,yc9 a0 a1 a2
 (fun _ _ _ _=>(K (0:Int)))
 (fun yi44=>(K yi44))
 n19434101 yl18 yl19 (0:Int)))
 (fun yi45=>(K yi45))
 n19434100 p0 p1 (0:Int))))))
def yhf (p0 p1:List PV) (K:Int→Prop):Prop:=yqF ycH ybX ybC p0 p1 K
def yqG (w:yos) (as:List PV) (K:PV→Prop):Prop :=
 match as with
 | [(.data p0),(.agg [(.data p1)])]=>w p0 p1 (fun r0=>K (.int .i64 r0))
 | _=>False
def ywB (as:List PV) (K:PV→Prop):Prop:=yqG yhf as K
def ygB (F:Frm) (H:Hp) (A0:List PV→List PV→Int→Prop):Prop :=
 match F,H with
 | [(0,.v (.data l0)),(3,.box (.agg [(.data l1)])),(6,.v (.int .i64 i2))],[]=>(A0 l0 l1 i2)
 | _,_=>False
def ygC (F:Frm) (H:Hp) (A0:List PV→List PV→Int→Prop):Prop :=
 match F,H with
 | [(0,.v (.data l0)),(3,.box (.agg [(.data l1)])),(8,.v (.int .i64 i2))],[]=>(A0 l0 l1 i2)
 | _,_=>False
def yme (Q:Ex→Frm→Hp→Prop):List PV→List PV→Int→Bool→Prop:=(fun l0 l1 i2 b3=>Q (.exit 0) [(0,.v (.data l0)),(3,.box (.agg [(.data l1)])),(6,.v (.int .i64 i2)),(25,.v (.bool b3))] [])
def ymf (Q:Ex→Frm→Hp→Prop):Int→Prop:=(fun i0=>Q .ret [(4,.v (.int .i64 i0))] [])
def ymg (Q:Ex→Frm→Hp→Prop):List PV→List PV→Int→Bool→Prop:=(fun l0 l1 i2 b3=>Q (.exit 2) [(0,.v (.data l0)),(3,.box (.agg [(.data l1)])),(8,.v (.int .i64 i2)),(41,.v (.bool b3))] [])
def ymh (Q:Ex→Frm→Hp→Prop):Int→Prop:=(fun i0=>Q .ret [(4,.v (.int .i64 i0))] [])
def ylf (a0:yfE) (a1:yfF) (a2:yeO) (Q:Ex→Frm→Hp→Prop) (n:Nat) (F:Frm) (H:Hp):Prop:=ygB F H (fun l0 l1 i2=>yc8 a0 a1 a2 (yme Q) (ymf Q) n l0 l1 i2)
def ylg (a0:yfE) (a1:yfF) (a2:yeO) (Q:Ex→Frm→Hp→Prop) (n:Nat) (F:Frm) (H:Hp):Prop:=ygC F H (fun l0 l1 i2=>yc9 a0 a1 a2 (ymg Q) (ymh Q) n l0 l1 i2)
def yfV (a0:yfE) (a1:yfF) (a2:yeO):LP:=fun id F H Q =>
 bif Nat.beq id 19434100 then ygB F H (fun l0 l1 i2=>∃ n:Nat,yc8 a0 a1 a2 (yme Q) (ymf Q) n l0 l1 i2) else
 bif Nat.beq id 19434101 then ygC F H (fun l0 l1 i2=>∃ n:Nat,yc9 a0 a1 a2 (ymg Q) (ymh Q) n l0 l1 i2) else
 False
def ymI (e:List (Nat×EffF)) (a0:yfE) (a1:yfF) (a2:yeO):SE:=⟨(E e),lookS [(ylp,yqu a0),(ylr,yqD a1),(yiY,yoW a2)],lookI [],yfV a0 a1 a2⟩
theorem yoY (e:List (Nat×EffF)) (he:EG e):SEOk (ymI e ycH ybX ybC):=yam ⟨(ywr e he),(ywz e he),(yue e he),trivial⟩ trivial he.ok
theorem yu9 (e:List (Nat×EffF)) (a0 a1 a2 Q n l0 l1 i2):WC (E e) (callW (ymI e a0 a1 a2) 5) (yfV a0 a1 a2) ynb [(0,.v (.data l0)),(3,.box (.agg [(.data l1)])),(6,.v (.int .i64 i2))] [] (fun x F' H'=>match x with | .norm=>ylf a0 a1 a2 Q n F' H' | .exit i=>Q (.exit i) F' H' | .ret=>Q .ret F' H')=yc8 a0 a1 a2 (yme Q) (ymf Q) (n+1) l0 l1 i2:=by kernel_rfl
theorem yzc (e:List (Nat×EffF)) (_:EG e):LpOk (E e) (yfV ycH ybX ybC) ynb:=(yag (by kernel_rfl))
theorem yxU (e:List (Nat×EffF)) (he:EG e):∀ F H Q,yfV ycH ybX ybC 19434100 F H Q→LoopT (E e) ynb F H Q:=by
 intro F H Q h
 have go:=LoopT.intro (yaC (yoY e he) 5) (yzc e he) (ylf ycH ybX ybC Q) (by
   intro F H h
   unfold ylf ygB at h
   split at h
   · exact h
   · exact h) (by
   intro n F H h
   unfold ylf ygB at h
   split at h
   · exact (yu9 ..).mpr h
   · exact h.elim)
 have h:ygB F H _:=h
 unfold ygB at h
 split at h
 · obtain ⟨n,h⟩:=h;exact go n _ _ h
 · exact h.elim
theorem yva (e:List (Nat×EffF)) (a0 a1 a2 Q n l0 l1 i2):WC (E e) (callW (ymI e a0 a1 a2) 5) (yfV a0 a1 a2) ync [(0,.v (.data l0)),(3,.box (.agg [(.data l1)])),(8,.v (.int .i64 i2))] [] (fun x F' H'=>match x with | .norm=>ylg a0 a1 a2 Q n F' H' | .exit i=>Q (.exit i) F' H' | .ret=>Q .ret F' H')=yc9 a0 a1 a2 (ymg Q) (ymh Q) (n+1) l0 l1 i2:=by kernel_rfl
theorem yzd (e:List (Nat×EffF)) (_:EG e):LpOk (E e) (yfV ycH ybX ybC) ync:=(yag (by kernel_rfl))
theorem yxV (e:List (Nat×EffF)) (he:EG e):∀ F H Q,yfV ycH ybX ybC 19434101 F H Q→LoopT (E e) ync F H Q:=by
 intro F H Q h
 have go:=LoopT.intro (yaC (yoY e he) 5) (yzd e he) (ylg ycH ybX ybC Q) (by
   intro F H h
   unfold ylg ygC at h
   split at h
   · exact h
   · exact h) (by
   intro n F H h
   unfold ylg ygC at h
   split at h
   · exact (yva ..).mpr h
   · exact h.elim)
 have h:ygC F H _:=h
 unfold ygC at h
 split at h
 · obtain ⟨n,h⟩:=h;exact go n _ _ h
 · exact h.elim
theorem yEV (e:List (Nat×EffF)) (a0 a1 a2 p0 p1 K):WP (ymI e a0 a1 a2) 6 yF6 [(.data p0),(.agg [(.data p1)])] K=yqF a0 a1 a2 p0 p1 (fun r0=>K (.int .i64 r0)):=by kernel_rfl
theorem ywC (e:List (Nat×EffF)) (he:EG e):OkF (E e) ywB yls:=by
 intro as K h
 unfold ywB yqG at h
 split at h
 · exact WP_ok (yoY e he) (ya8 (l:=[(19434100,ynb),(19434101,ync)]) ⟨yxU e he,yxV e he,trivial⟩ (by kernel_rfl)) (by kernel_rfl) (by kernel_rfl) (fun _=>yab (by kernel_rfl) _) (he.num _ (by kernel_rfl)) ((yEV ..).mpr h)
 · exact h.elim
abbrev yia:Type:=List PV→List PV→(Bool→Prop)→Prop
def ydQ (x72981700_0:List PV→List PV→Int→Int→Bool→Prop) (x72981700_1:Bool→Prop):Nat→List PV→List PV→Int→Int→Prop
 | 0,_,_,_,_=>False
 | n72981700+1,l0,l1,i2,i3 =>
 (asr (decide ((0:Int)≤i2))
 (asr (decide (i2<(((List.length l0):Nat):Int)))
 (lt (List.getD l0 (i2.toNat) .nils) (fun yr11 =>
 (asr (conf (.one (.d)) yr11)
 (cbr (decide (i3<(((List.length (datOfV yr11)):Nat):Int)))
 (asr (decide ((0:Int)≤i2))
 (asr (decide (i2<(((List.length l0):Nat):Int)))
 (lt (List.getD l0 (i2.toNat) .nils) (fun yr24 =>
 (asr (conf (.one (.d)) yr24)
 (asr (decide ((0:Int)≤i3))
 (asr (decide (i3<(((List.length (datOfV yr24)):Nat):Int)))
 (lt (List.getD (datOfV yr24) (i3.toNat) .nils) (fun yr25 =>
 (asr (conf (.agg [.i .i64,.i .i64]) yr25)
 (asr (decide ((0:Int)≤i2))
 (asr (decide (i2<(((List.length l1):Nat):Int)))
 (lt (List.getD l1 (i2.toNat) .nils) (fun yr26 =>
 (asr (conf (.one (.d)) yr26)
 (asr (decide ((0:Int)≤i3))
 (asr (decide (i3<(((List.length (datOfV yr26)):Nat):Int)))
 (lt (List.getD (datOfV yr26) (i3.toNat) .nils) (fun yr27 =>
 (asr (conf (.agg [.i .i64,.i .i64]) yr27)
 (cbr (!(((intOfV (cellAt yr25 0)) ==(intOfV (cellAt yr27 0)))&&(((intOfV (cellAt yr25 1)) ==(intOfV (cellAt yr27 1)))&&true)))
 (x72981700_1 false)
 (lt (IntKind.i64.wrap (i3+(1:Int))) (fun yi28 =>
 (ydQ x72981700_0 x72981700_1 n72981700 l0 l1 i2 yi28))))))))))))))))))))))))
 (x72981700_0 l0 l1 i2 i3 false)))))))
def ydR (x72981701_0:List PV→List PV→Int→Bool→Prop) (x72981701_1:Bool→Prop):Nat→List PV→List PV→Int→Prop
 | 0,_,_,_=>False
 | n72981701+1,l0,l1,i2 =>
 (cbr (decide (i2<(((List.length l0):Nat):Int)))
 (asr (decide ((0:Int)≤i2))
 (asr (decide (i2<(((List.length l0):Nat):Int)))
 (lt (List.getD l0 (i2.toNat) .nils) (fun yr41 =>
 (asr (conf (.one (.d)) yr41)
 (asr (decide ((0:Int)≤i2))
 (asr (decide (i2<(((List.length l1):Nat):Int)))
 (lt (List.getD l1 (i2.toNat) .nils) (fun yr42 =>
 (asr (conf (.one (.d)) yr42)
 (cbr ((((List.length (datOfV yr41)):Nat):Int) !=(((List.length (datOfV yr42)):Nat):Int))
 (x72981701_1 false)
 (∃ n72981700:Nat,ydQ
 (fun yl43 yl44 yi45 _ _=>(lt (IntKind.i64.wrap (yi45+(1:Int))) (fun yi48 =>
 (ydR x72981701_0 x72981701_1 n72981701 yl43 yl44 yi48))))
 (fun yb49=>(x72981701_1 yb49))
 n72981700 l0 l1 i2 (0:Int)))))))))))))
 (x72981701_0 l0 l1 i2 false))
def ykD (p0 p1:List PV) (K:Bool→Prop):Prop :=
 (cbr ((((List.length p0):Nat):Int) !=(((List.length p1):Nat):Int))
 (K false)
 (∃ n72981701:Nat,ydR
 (fun _ _ _ _=>(K true))
 (fun yb59=>(K yb59))
 n72981701 p0 p1 (0:Int)))
def yda (p0 p1:List PV) (K:Bool→Prop):Prop:=ykD p0 p1 K
def ykE (w:yia) (as:List PV) (K:PV→Prop):Prop :=
 match as with
 | [(.data p0),(.data p1)]=>w p0 p1 (fun r0=>K (.bool r0))
 | _=>False
def ypu (as:List PV) (K:PV→Prop):Prop:=ykE yda as K
def ydA (F:Frm) (H:Hp) (A0:List PV→List PV→Int→Int→Prop):Prop :=
 match F,H with
 | [(0,.v (.data l0)),(1,.v (.data l1)),(5,.v (.int .i64 i2)),(6,.v (.int .i64 i3))],[]=>(A0 l0 l1 i2 i3)
 | _,_=>False
def ydB (F:Frm) (H:Hp) (A0:List PV→List PV→Int→Prop):Prop :=
 match F,H with
 | [(0,.v (.data l0)),(1,.v (.data l1)),(5,.v (.int .i64 i2))],[]=>(A0 l0 l1 i2)
 | _,_=>False
def yhL (Q:Ex→Frm→Hp→Prop):List PV→List PV→Int→Int→Bool→Prop:=(fun l0 l1 i2 i3 b4=>Q (.exit 2) [(0,.v (.data l0)),(1,.v (.data l1)),(5,.v (.int .i64 i2)),(6,.v (.int .i64 i3)),(35,.v (.bool b4))] [])
def yhM (Q:Ex→Frm→Hp→Prop):Bool→Prop:=(fun b0=>Q .ret [(4,.v (.bool b0))] [])
def yhN (Q:Ex→Frm→Hp→Prop):List PV→List PV→Int→Bool→Prop:=(fun l0 l1 i2 b3=>Q (.exit 0) [(0,.v (.data l0)),(1,.v (.data l1)),(5,.v (.int .i64 i2)),(15,.v (.bool b3))] [])
def yhO (Q:Ex→Frm→Hp→Prop):Bool→Prop:=(fun b0=>Q .ret [(4,.v (.bool b0))] [])
def ygU (Q:Ex→Frm→Hp→Prop) (n:Nat) (F:Frm) (H:Hp):Prop:=ydA F H (fun l0 l1 i2 i3=>ydQ (yhL Q) (yhM Q) n l0 l1 i2 i3)
def ygV (Q:Ex→Frm→Hp→Prop) (n:Nat) (F:Frm) (H:Hp):Prop:=ydB F H (fun l0 l1 i2=>ydR (yhN Q) (yhO Q) n l0 l1 i2)
def ydj:LP:=fun id F H Q =>
 bif Nat.beq id 72981700 then ydA F H (fun l0 l1 i2 i3=>∃ n:Nat,ydQ (yhL Q) (yhM Q) n l0 l1 i2 i3) else
 bif Nat.beq id 72981701 then ydB F H (fun l0 l1 i2=>∃ n:Nat,ydR (yhN Q) (yhO Q) n l0 l1 i2) else
 False
def yhz (e:List (Nat×EffF)):SE:=⟨(E e),lookS [],lookI [],ydj⟩
theorem yjC (e:List (Nat×EffF)) (he:EG e):SEOk (yhz e):=yam trivial trivial he.ok
theorem yqH (e:List (Nat×EffF)) ( Q n l0 l1 i2 i3):WC (E e) (callW (yhz e) 5) (ydj) ykj [(0,.v (.data l0)),(1,.v (.data l1)),(5,.v (.int .i64 i2)),(6,.v (.int .i64 i3))] [] (fun x F' H'=>match x with | .norm=>ygU Q n F' H' | .exit i=>Q (.exit i) F' H' | .ret=>Q .ret F' H')=ydQ (yhL Q) (yhM Q) (n+1) l0 l1 i2 i3:=by kernel_rfl
theorem ytt (e:List (Nat×EffF)) (_:EG e):LpOk (E e) (ydj) ykj:=(yag (by kernel_rfl))
theorem ylD (e:List (Nat×EffF)) (he:EG e):∀ F H Q,ydj 72981700 F H Q→LoopT (E e) ykj F H Q:=by
 intro F H Q h
 have go:=LoopT.intro (yaC (yjC e he) 5) (ytt e he) (ygU Q) (by
   intro F H h
   unfold ygU ydA at h
   split at h
   · exact h
   · exact h) (by
   intro n F H h
   unfold ygU ydA at h
   split at h
   · exact (yqH ..).mpr h
   · exact h.elim)
 have h:ydA F H _:=h
 unfold ydA at h
 split at h
 · obtain ⟨n,h⟩:=h;exact go n _ _ h
 · exact h.elim
theorem yqI (e:List (Nat×EffF)) ( Q n l0 l1 i2):WC (E e) (callW (yhz e) 5) (ydj) yns [(0,.v (.data l0)),(1,.v (.data l1)),(5,.v (.int .i64 i2))] [] (fun x F' H'=>match x with | .norm=>ygV Q n F' H' | .exit i=>Q (.exit i) F' H' | .ret=>Q .ret F' H')=ydR (yhN Q) (yhO Q) (n+1) l0 l1 i2:=by kernel_rfl
theorem ytu (e:List (Nat×EffF)) (he:EG e):LpOk (E e) (ydj) yns:=(ya8 (l:=[(72981700,ykj)]) ⟨ylD e he,trivial⟩ (by kernel_rfl))
theorem ysk (e:List (Nat×EffF)) (he:EG e):∀ F H Q,ydj 72981701 F H Q→LoopT (E e) yns F H Q:=by
 intro F H Q h
 have go:=LoopT.intro (yaC (yjC e he) 5) (ytu e he) (ygV Q) (by
   intro F H h
   unfold ygV ydB at h
   split at h
   · exact h
   · exact h) (by
   intro n F H h
   unfold ygV ydB at h
   split at h
   · exact (yqI ..).mpr h
   · exact h.elim)
 have h:ydB F H _:=h
 unfold ydB at h
 split at h
 · obtain ⟨n,h⟩:=h;exact go n _ _ h
 · exact h.elim
theorem yxW (e:List (Nat×EffF)) ( p0 p1 K):WP (yhz e) 6 yyP [(.data p0),(.data p1)] K=ykD p0 p1 (fun r0=>K (.bool r0)):=by kernel_rfl
theorem ypv (e:List (Nat×EffF)) (he:EG e):OkF (E e) ypu yf5:=by
 intro as K h
 unfold ypu ykE at h
 split at h
 · exact WP_ok (yjC e he) (ya8 (l:=[(72981700,ykj),(72981701,yns)]) ⟨ylD e he,ysk e he,trivial⟩ (by kernel_rfl)) (by kernel_rfl) (by kernel_rfl) (fun _=>yab (by kernel_rfl) _) (he.num _ (by kernel_rfl)) ((yxW ..).mpr h)
 · exact h.elim
end Go.Pf.Vc
namespace Go.Pf.Vc
open Go Go.Pf
set_option linter.unusedVariables false
theorem yCu (p0:List PV) (p1:List PV) (r0:Bool) (h:∀ K:Bool→Prop,K r0→yhe p0 p1 K) (K:Bool→Prop):yhe p0 p1 K=K r0 :=
 propext ⟨fun k=>detC (ywv [] ybg) (as:=[(.data p0),(.agg [(.data p1)])]) (x:=(.bool r0)) (fun K' k'=>h (fun r0=>K' (.bool r0)) k') (K:=fun x=>match x with | (.bool r0)=>K r0 | _=>False) k,h K⟩
theorem yCv (p0:List PV) (r0:Int) (h:∀ K:Int→Prop,K r0→ybX p0 K) (K:Int→Prop):ybX p0 K=K r0 :=
 propext ⟨fun k=>detC (ywz [] ybg) (as:=[(.data p0)]) (x:=(.int .i64 r0)) (fun K' k'=>h (fun r0=>K' (.int .i64 r0)) k') (K:=fun x=>match x with | (.int .i64 r0)=>K r0 | _=>False) k,h K⟩
theorem yAK (p0:Int) (p1:List PV) (r0:Bool) (h:∀ K:Bool→Prop,K r0→ybC p0 p1 K) (K:Bool→Prop):ybC p0 p1 K=K r0 :=
 propext ⟨fun k=>detC (yue [] ybg) (as:=[(.int .i64 p0),(.data p1)]) (x:=(.bool r0)) (fun K' k'=>h (fun r0=>K' (.bool r0)) k') (K:=fun x=>match x with | (.bool r0)=>K r0 | _=>False) k,h K⟩
theorem yCw (p0:List PV) (p1:List PV) (r0:Int) (h:∀ K:Int→Prop,K r0→yhf p0 p1 K) (K:Int→Prop):yhf p0 p1 K=K r0 :=
 propext ⟨fun k=>detC (ywC [] ybg) (as:=[(.data p0),(.agg [(.data p1)])]) (x:=(.int .i64 r0)) (fun K' k'=>h (fun r0=>K' (.int .i64 r0)) k') (K:=fun x=>match x with | (.int .i64 r0)=>K r0 | _=>False) k,h K⟩
theorem ywD (p0:List PV) (p1:List PV) (r0:Bool) (h:∀ K:Bool→Prop,K r0→yda p0 p1 K) (K:Bool→Prop):yda p0 p1 K=K r0 :=
 propext ⟨fun k=>detC (ypv [] ybg) (as:=[(.data p0),(.data p1)]) (x:=(.bool r0)) (fun K' k'=>h (fun r0=>K' (.bool r0)) k') (K:=fun x=>match x with | (.bool r0)=>K r0 | _=>False) k,h K⟩
end Go.Pf.Vc
namespace Go.Pf.Vc
open Go Go.Pf
set_option maxRecDepth 100000
theorem ybE {a b:Nat} {P Q:Prop} (h:bif Nat.beq a b then P else Q):(a=b∧P)∨Q:=by
 cases hb:Nat.beq a b with
 | true=>rw [hb] at h;exact .inl ⟨Nat.eq_of_beq_eq_true hb,h⟩
 | false=>rw [hb] at h;exact .inr h
abbrev yap:Type:=Int→(Int→Int→Prop)→Prop
def ysl (p0:Int) (K:Int→Int→Prop):Prop :=
 (K p0 (1:Int))
def yak (p0:Int) (K:Int→Int→Prop):Prop:=ysl p0 K
def ycU (w:yap) (as:List PV) (K:PV→Prop):Prop :=
 match as with
 | [(.int .i64 p0)]=>w p0 (fun r0 r1=>K (.agg [(.int .i64 r0),(.int .i64 r1)]))
 | _=>False
def ysm (as:List PV) (K:PV→Prop):Prop:=ycU yak as K
def yAL:LP:=fun _ _ _ _ =>
 False
def ysn (e:List (Nat×EffF)):SE:=⟨(E e),lookS [],lookI [],yAL⟩
theorem yze (e:List (Nat×EffF)) (he:EG e):SEOk (ysn e):=yam trivial trivial he.ok
theorem yAM (e:List (Nat×EffF)) ( p0 K):WP (ysn e) 11 yBG [(.int .i64 p0)] K=ysl p0 (fun r0 r1=>K (.agg [(.int .i64 r0),(.int .i64 r1)])):=by kernel_rfl
theorem yen (e:List (Nat×EffF)) (he:EG e):OkF (E e) ysm ybx:=by
 intro as K h
 unfold ysm ycU at h
 split at h
 · exact WP_ok (yze e he) (yag (by kernel_rfl)) (by kernel_rfl) (by kernel_rfl) (fun _=>yab (by kernel_rfl) _) (he.num _ (by kernel_rfl)) ((yAM ..).mpr h)
 · exact h.elim
abbrev yao:Type:=Int→Int→Int→Int→(Bool→Prop)→Prop
def yoZ (a0:ybJ) (p0 p1 p2 p3:Int) (K:Bool→Prop):Prop :=
 (a0 p0 p1 p2 p3 (fun yi2 _ =>
 (K (decide (yi2<(0:Int))))))
def yad (p0 p1 p2 p3:Int) (K:Bool→Prop):Prop:=yoZ ybK p0 p1 p2 p3 K
def ydn (w:yao) (as:List PV) (K:PV→Prop):Prop :=
 match as with
 | [(.agg [(.int .i64 p0),(.int .i64 p1)]),(.agg [(.int .i64 p2),(.int .i64 p3)])]=>w p0 p1 p2 p3 (fun r0=>K (.bool r0))
 | _=>False
def yuf (as:List PV) (K:PV→Prop):Prop:=ydn yad as K
def yCx (_:ybJ):LP:=fun _ _ _ _ =>
 False
def yug (e:List (Nat×EffF)) (a0:ybJ):SE:=⟨(E e),lookS [(ycA,yfO a0)],lookI [],yCx a0⟩
theorem yAN (e:List (Nat×EffF)) (he:EG e):SEOk (yug e ybK):=yam ⟨(yhs e he),trivial⟩ trivial he.ok
theorem yCy (e:List (Nat×EffF)) (a0 p0 p1 p2 p3 K):WP (yug e a0) 11 yD6 [(.agg [(.int .i64 p0),(.int .i64 p1)]),(.agg [(.int .i64 p2),(.int .i64 p3)])] K=yoZ a0 p0 p1 p2 p3 (fun r0=>K (.bool r0)):=by kernel_rfl
theorem ye0 (e:List (Nat×EffF)) (he:EG e):OkF (E e) yuf ybi:=by
 intro as K h
 unfold yuf ydn at h
 split at h
 · exact WP_ok (yAN e he) (yag (by kernel_rfl)) (by kernel_rfl) (by kernel_rfl) (fun _=>yab (by kernel_rfl) _) (he.num _ (by kernel_rfl)) ((yCy ..).mpr h)
 · exact h.elim
abbrev yeb:Type:=List PV→List PV→(Int→Prop)→Prop
def yck (a0:yfC) (a1:ybz) (a2:yap) (a3:yao) (x8206000_0:List PV→List PV→List PV→Int→Int→Bool→Prop) (x8206000_1:Int→Prop):Nat→List PV→List PV→List PV→Int→Int→Prop
 | 0,_,_,_,_,_=>False
 | n8206000+1,l0,l1,l2,i3,i4 =>
 (cbr (decide (i4<i3))
 (asr (decide ((0:Int)≤i4))
 (asr (decide (i4<(((List.length l2):Nat):Int)))
 (lt (List.getD l2 (i4.toNat) .nils) (fun yr9 =>
 (asr (conf (.one (.d)) yr9)
 (a1 (datOfV yr9) (fun yi11 =>
 (cbr (yi11 !=(0:Int))
 (x8206000_1 yi11)
 (lt (IntKind.i64.wrap (i4+(1:Int))) (fun yi12 =>
 (yck a0 a1 a2 a3 x8206000_0 x8206000_1 n8206000 l0 l1 l2 i3 yi12)))))))))))
 (x8206000_0 l0 l1 l2 i3 i4 false))
def ybS (a0:yfC) (a1:ybz) (a2:yap) (a3:yao) (x8206001_0:List PV→List PV→Int→Int→Bool→Prop) (x8206001_1:Int→Prop):Nat→List PV→List PV→Int→Int→Prop
 | 0,_,_,_,_=>False
 | n8206001+1,l0,l1,i2,i3 =>
 (cbr (decide (i3<i2))
 (asr (decide ((0:Int)≤i3))
 (asr (decide (i3<(((List.length l1):Nat):Int)))
 (lt (List.getD l1 (i3.toNat) .nils) (fun yr45 =>
 (asr (conf (.one (.d)) yr45)
 (jn (fun (yj54:Bool→Prop) =>
 (cbr (decide ((((List.length (datOfV yr45)):Nat):Int)>(0:Int)))
 (asr (decide ((0:Int)<(((List.length (datOfV yr45)):Nat):Int)))
 (lt (List.getD (datOfV yr45) 0 .nils) (fun yr56 =>
 (asr (conf (.agg [.i .i64,.i .i64,.i .i64,.i .i64]) yr56)
 (cbr (decide ((intOfV (cellAt yr56 0))<(0:Int)))
 (yj54 true)
 (asr (decide ((0:Int)<(((List.length l0):Nat):Int)))
 (lt (List.getD l0 0 .nils) (fun yr57 =>
 (asr (conf (.agg [.i .i64,.d,.d]) yr57)
 (a2 (intOfV (cellAt yr57 0)) (fun yi58 yi59 =>
 (lt (IntKind.i64.wrap ((((List.length (datOfV yr45)):Nat):Int)-(1:Int))) (fun yi60 =>
 (asr (decide ((0:Int)≤yi60))
 (asr (decide (yi60<(((List.length (datOfV yr45)):Nat):Int)))
 (lt (List.getD (datOfV yr45) (yi60.toNat) .nils) (fun yr61 =>
 (asr (conf (.agg [.i .i64,.i .i64,.i .i64,.i .i64]) yr61)
 (a3 yi58 yi59 (intOfV (cellAt yr61 2)) (intOfV (cellAt yr61 3)) (fun yb62 =>
 (yj54 yb62)))))))))))))))))))))
 (yj54 false)))
 (fun yb53=>(cbr yb53
 (x8206001_1 (2:Int))
 (lt (IntKind.i64.wrap (i3+(1:Int))) (fun yi55 =>
 (ybS a0 a1 a2 a3 x8206001_0 x8206001_1 n8206001 l0 l1 i2 yi55)))))))))))
 (x8206001_0 l0 l1 i2 i3 false))
def ynM (a0:yfC) (a1:ybz) (a2:yap) (a3:yao) (p0 p1:List PV) (K:Int→Prop):Prop :=
 (a0 p0 ([]:List PV) (fun yi3 =>
 (cbr (yi3 !=(0:Int))
 (K yi3)
 (cbr ((((List.length p1):Nat):Int) !=(((List.length p0):Nat):Int))
 (K (2:Int))
 (∃ n8206000:Nat,yck a0 a1 a2 a3
 (fun yl20 yl21 _ _ _ _=>(∃ n8206001:Nat,ybS a0 a1 a2 a3
 (fun _ _ _ _ _=>(K (0:Int)))
 (fun yi74=>(K yi74))
 n8206001 yl20 yl21 (((List.length yl21):Nat):Int) (0:Int)))
 (fun yi75=>(K yi75))
 n8206000 p0 p1 p1 (((List.length p1):Nat):Int) (0:Int))))))
def ybk (p0 p1:List PV) (K:Int→Prop):Prop:=ynM ycG yaw yak yad p0 p1 K
def yhg (w:yeb) (as:List PV) (K:PV→Prop):Prop :=
 match as with
 | [(.data p0),(.agg [(.data p1)])]=>w p0 p1 (fun r0=>K (.int .i64 r0))
 | _=>False
def yjD (as:List PV) (K:PV→Prop):Prop:=yhg ybk as K
def yeB (F:Frm) (H:Hp) (A0:List PV→List PV→List PV→Int→Int→Prop):Prop :=
 match F,H with
 | [(0,.v (.data l0)),(3,.box (.agg [(.data l1)])),(25,.v (.data l2)),(26,.v (.int .i64 i3)),(27,.v (.int .i64 i4))],[]=>(A0 l0 l1 l2 i3 i4)
 | _,_=>False
def yeC (F:Frm) (H:Hp) (A0:List PV→List PV→Int→Int→Prop):Prop :=
 match F,H with
 | [(0,.v (.data l0)),(38,.v (.data l1)),(39,.v (.int .i64 i2)),(40,.v (.int .i64 i3))],[]=>(A0 l0 l1 i2 i3)
 | _,_=>False
def yjE (Q:Ex→Frm→Hp→Prop):List PV→List PV→List PV→Int→Int→Bool→Prop:=(fun l0 l1 l2 i3 i4 b5=>Q (.exit 0) [(0,.v (.data l0)),(3,.box (.agg [(.data l1)])),(25,.v (.data l2)),(26,.v (.int .i64 i3)),(27,.v (.int .i64 i4)),(28,.v (.bool b5))] [])
def yjF (Q:Ex→Frm→Hp→Prop):Int→Prop:=(fun i0=>Q .ret [(4,.v (.int .i64 i0))] [])
def yjG (Q:Ex→Frm→Hp→Prop):List PV→List PV→Int→Int→Bool→Prop:=(fun l0 l1 i2 i3 b4=>Q (.exit 2) [(0,.v (.data l0)),(38,.v (.data l1)),(39,.v (.int .i64 i2)),(40,.v (.int .i64 i3)),(41,.v (.bool b4))] [])
def yjH (Q:Ex→Frm→Hp→Prop):Int→Prop:=(fun i0=>Q .ret [(4,.v (.int .i64 i0))] [])
def yib (a0:yfC) (a1:ybz) (a2:yap) (a3:yao) (Q:Ex→Frm→Hp→Prop) (n:Nat) (F:Frm) (H:Hp):Prop:=yeB F H (fun l0 l1 l2 i3 i4=>yck a0 a1 a2 a3 (yjE Q) (yjF Q) n l0 l1 l2 i3 i4)
def yic (a0:yfC) (a1:ybz) (a2:yap) (a3:yao) (Q:Ex→Frm→Hp→Prop) (n:Nat) (F:Frm) (H:Hp):Prop:=yeC F H (fun l0 l1 i2 i3=>ybS a0 a1 a2 a3 (yjG Q) (yjH Q) n l0 l1 i2 i3)
def yeo (a0:yfC) (a1:ybz) (a2:yap) (a3:yao):LP:=fun id F H Q =>
 bif Nat.beq id 8206000 then yeB F H (fun l0 l1 l2 i3 i4=>∃ n:Nat,yck a0 a1 a2 a3 (yjE Q) (yjF Q) n l0 l1 l2 i3 i4) else
 bif Nat.beq id 8206001 then yeC F H (fun l0 l1 i2 i3=>∃ n:Nat,ybS a0 a1 a2 a3 (yjG Q) (yjH Q) n l0 l1 i2 i3) else
 False
def yjI (e:List (Nat×EffF)) (a0:yfC) (a1:ybz) (a2:yap) (a3:yao):SE:=⟨(E e),lookS [(ylu,yqa a0),(yd1,yg8 a1),(ybx,ycU a2),(ybi,ydn a3)],lookI [],yeo a0 a1 a2 a3⟩
theorem ymi (e:List (Nat×EffF)) (he:EG e):SEOk (yjI e ycG yaw yak yad):=yam ⟨(yv9 e he),(yjq e he),(yen e he),(ye0 e he),trivial⟩ trivial he.ok
theorem yso (e:List (Nat×EffF)) (a0 a1 a2 a3 Q n l0 l1 l2 i3 i4):WC (E e) (callW (yjI e a0 a1 a2 a3) 10) (yeo a0 a1 a2 a3) ypm [(0,.v (.data l0)),(3,.box (.agg [(.data l1)])),(25,.v (.data l2)),(26,.v (.int .i64 i3)),(27,.v (.int .i64 i4))] [] (fun x F' H'=>match x with | .norm=>yib a0 a1 a2 a3 Q n F' H' | .exit i=>Q (.exit i) F' H' | .ret=>Q .ret F' H')=yck a0 a1 a2 a3 (yjE Q) (yjF Q) (n+1) l0 l1 l2 i3 i4:=by kernel_rfl
theorem ywE (e:List (Nat×EffF)) (_:EG e):LpOk (E e) (yeo ycG yaw yak yad) ypm:=(yag (by kernel_rfl))
theorem yvb (e:List (Nat×EffF)) (he:EG e):∀ F H Q,yeo ycG yaw yak yad 8206000 F H Q→LoopT (E e) ypm F H Q:=by
 intro F H Q h
 have go:=LoopT.intro (yaC (ymi e he) 10) (ywE e he) (yib ycG yaw yak yad Q) (by
   intro F H h
   unfold yib yeB at h
   split at h
   · exact h
   · exact h) (by
   intro n F H h
   unfold yib yeB at h
   split at h
   · exact (yso ..).mpr h
   · exact h.elim)
 have h:yeB F H _:=h
 unfold yeB at h
 split at h
 · obtain ⟨n,h⟩:=h;exact go n _ _ h
 · exact h.elim
theorem ysp (e:List (Nat×EffF)) (a0 a1 a2 a3 Q n l0 l1 i2 i3):WC (E e) (callW (yjI e a0 a1 a2 a3) 10) (yeo a0 a1 a2 a3) ypn [(0,.v (.data l0)),(38,.v (.data l1)),(39,.v (.int .i64 i2)),(40,.v (.int .i64 i3))] [] (fun x F' H'=>match x with | .norm=>yic a0 a1 a2 a3 Q n F' H' | .exit i=>Q (.exit i) F' H' | .ret=>Q .ret F' H')=ybS a0 a1 a2 a3 (yjG Q) (yjH Q) (n+1) l0 l1 i2 i3:=by kernel_rfl
theorem ywF (e:List (Nat×EffF)) (_:EG e):LpOk (E e) (yeo ycG yaw yak yad) ypn:=(yag (by kernel_rfl))
theorem yvc (e:List (Nat×EffF)) (he:EG e):∀ F H Q,yeo ycG yaw yak yad 8206001 F H Q→LoopT (E e) ypn F H Q:=by
 intro F H Q h
 have go:=LoopT.intro (yaC (ymi e he) 10) (ywF e he) (yic ycG yaw yak yad Q) (by
   intro F H h
   unfold yic yeC at h
   split at h
   · exact h
   · exact h) (by
   intro n F H h
   unfold yic yeC at h
   split at h
   · exact (ysp ..).mpr h
   · exact h.elim)
 have h:yeC F H _:=h
 unfold yeC at h
 split at h
 · obtain ⟨n,h⟩:=h;exact go n _ _ h
 · exact h.elim
theorem yAO (e:List (Nat×EffF)) (a0 a1 a2 a3 p0 p1 K):WP (yjI e a0 a1 a2 a3) 11 yBH [(.data p0),(.agg [(.data p1)])] K=ynM a0 a1 a2 a3 p0 p1 (fun r0=>K (.int .i64 r0)):=by kernel_rfl
theorem yjJ (e:List (Nat×EffF)) (he:EG e):OkF (E e) yjD ycq:=by
 intro as K h
 unfold yjD yhg at h
 split at h
 · exact WP_ok (ymi e he) (ya8 (l:=[(8206000,ypm),(8206001,ypn)]) ⟨yvb e he,yvc e he,trivial⟩ (by kernel_rfl)) (by kernel_rfl) (by kernel_rfl) (fun _=>yab (by kernel_rfl) _) (he.num _ (by kernel_rfl)) ((yAO ..).mpr h)
 · exact h.elim
abbrev yaW:Type:=List PV→List PV→(List PV→Int→Prop)→Prop
def yaq (p0 p1:List PV) (K:List PV→Int→Prop):Prop :=
 ∃ r0 r1,K r0 r1∧∀ e:List (Nat×EffF),EG e→Ans (E e) yaY [(.data p0),(.agg [(.data p1)])] (.tup [(.data r0),(.int .i64 r1)])
def yep (w:yaW) (as:List PV) (K:PV→Prop):Prop :=
 match as with
 | [(.data p0),(.agg [(.data p1)])]=>w p0 p1 (fun r0 r1=>K (.tup [(.data r0),(.int .i64 r1)]))
 | _=>False
def ysq (as:List PV) (K:PV→Prop):Prop:=yep yaq as K
theorem yfp (e:List (Nat×EffF)) (he:EG e):OkF (E e) ysq yaY:=by
 intro as K h
 unfold ysq yep at h
 split at h
 · obtain ⟨r0,r1,hk,ha⟩:=h
   exact ⟨_,hk,ha e he⟩
 · exact h.elim
abbrev ydM:Type:=Int→Int→Int→Int→List PV→(Bool→Prop)→Prop
def ybP (a0:yao) (x0:Int→Int→Int→Int→List PV→Int→Int→Bool→Prop) (x1:Int→Int→Int→Int→Int→Prop):Nat→Int→Int→Int→Int→List PV→Int→Int→Prop
 | 0,_,_,_,_,_,_,_=>False
 | n+1,i0,i1,i2,i3,l4,i5,i6 =>
 (cbr (decide (i6<i5))
 (asr (decide ((0:Int)≤i6))
 (asr (decide (i6<(((List.length l4):Nat):Int)))
 (lt (List.getD l4 (i6.toNat) .nils) (fun yr39 =>
 (asr (conf (.agg [.i .i64,.i .i64,.i .i64,.i .i64]) yr39)
 (jn (fun (yj49:Bool→Prop) =>
 (a0 i0 i1 (intOfV (cellAt yr39 2)) (intOfV (cellAt yr39 3)) (fun yb51 =>
 (cbr yb51
 (a0 (intOfV (cellAt yr39 0)) (intOfV (cellAt yr39 1)) i2 i3 (fun yb52 =>
 (yj49 yb52)))
 (yj49 false)))))
 (fun yb48=>(cbr yb48
 (x1 i0 i1 i2 i3 i6)
 (lt (IntKind.i64.wrap (i6+(1:Int))) (fun yi50 =>
 (ybP a0 x0 x1 n i0 i1 i2 i3 l4 i5 yi50)))))))))))
 (x0 i0 i1 i2 i3 l4 i5 i6 false))
def ykF (a0:yao) (p0 p1 p2 p3:Int) (p4:List PV) (K:Bool→Prop):Prop :=
 (jn (fun (yj530:Int→Int→Int→Int→Int→Prop) =>
 (∃ n:Nat,ybP a0
 (fun yi544 yi545 yi546 yi547 _ _ _ _=>(yj530 yi544 yi545 yi546 yi547 (-1:Int)))
 (fun yi552 yi553 yi554 yi555 yi556=>(yj530 yi552 yi553 yi554 yi555 yi556))
 n p0 p1 p2 p3 p4 (((List.length p4):Nat):Int) (0:Int)))
 (fun _ _ _ _ yi529=>(K (decide (yi529≥(0:Int))))))
def ybw (p0 p1 p2 p3:Int) (p4:List PV) (K:Bool→Prop):Prop:=ykF yad p0 p1 p2 p3 p4 K
def yhA (w:ydM) (as:List PV) (K:PV→Prop):Prop :=
 match as with
 | [(.agg [(.int .i64 p0),(.int .i64 p1),(.int .i64 p2),(.int .i64 p3)]),(.eptr [(.data p4)] 0 0)]=>w p0 p1 p2 p3 p4 (fun r0=>K (.bool r0))
 | _=>False
def ypw (as:List PV) (K:PV→Prop):Prop:=yhA ybw as K
def ydC (F:Frm) (H:Hp) (A0:Int→Int→Int→Int→List PV→Int→Int→Prop):Prop :=
 match F,H with
 | [(0,.v (.data l4)),(1,.v (.fn (.func q0) [] [(.ptr 0 1 0 0)])),(7,.v (.int .i64 i5)),(8,.v (.int .i64 i6))],[⟨false,false,4,[(.agg [(.int .i64 i0),(.int .i64 i1),(.int .i64 i2),(.int .i64 i3)])]⟩]=>asr (Nat.beq q0 ycR) (A0 i0 i1 i2 i3 l4 i5 i6)
 | _,_=>False
def yhP (Q:Ex→Frm→Hp→Prop):Int→Int→Int→Int→List PV→Int→Int→Bool→Prop:=(fun i0 i1 i2 i3 l4 i5 i6 b7=>Q (.exit 0) [(0,.v (.data l4)),(1,.v (.fn (.func ycR) [] [(.ptr 0 1 0 0)])),(7,.v (.int .i64 i5)),(8,.v (.int .i64 i6)),(9,.v (.bool b7))] [⟨false,false,4,([(.agg [(.int .i64 i0),(.int .i64 i1),(.int .i64 i2),(.int .i64 i3)])]:List PV)⟩])
def yhQ (Q:Ex→Frm→Hp→Prop):Int→Int→Int→Int→Int→Prop:=(fun i0 i1 i2 i3 i4=>Q .ret [(4,.v (.int .i64 i4))] [⟨false,false,4,([(.agg [(.int .i64 i0),(.int .i64 i1),(.int .i64 i2),(.int .i64 i3)])]:List PV)⟩])
def ygW (a0:yao) (Q:Ex→Frm→Hp→Prop) (n:Nat) (F:Frm) (H:Hp):Prop:=ydC F H (fun i0 i1 i2 i3 l4 i5 i6=>ybP a0 (yhP Q) (yhQ Q) n i0 i1 i2 i3 l4 i5 i6)
def yfq (a0:yao):LP:=fun id F H Q =>
 bif Nat.beq id 68674300 then ydC F H (fun i0 i1 i2 i3 l4 i5 i6=>∃ n:Nat,ybP a0 (yhP Q) (yhQ Q) n i0 i1 i2 i3 l4 i5 i6) else
 False
def ypx (e:List (Nat×EffF)) (a0:yao):SE:=⟨(E e),lookS [(ybi,ydn a0)],lookI [(yaT,ybB),(ycR,yoe)],yfq a0⟩
def ypy (e:List (Nat×EffF)) (a0:yao):SE:=⟨(E e),lookS [(ybi,ydn a0)],lookI [(yaT,ybB),(ybV,yfc),(ycR,yoe)],yfq a0⟩
theorem ywG (e:List (Nat×EffF)) (he:EG e):SEOk (ypx e yad):=yam ⟨(ye0 e he),trivial⟩ ⟨⟨by kernel_rfl,by kernel_rfl,rfl,fun as=>yab (by kernel_rfl) as,he.num _ (by kernel_rfl),(yag (by kernel_rfl))⟩,⟨by kernel_rfl,by kernel_rfl,rfl,fun as=>yab (by kernel_rfl) as,he.num _ (by kernel_rfl),(yag (by kernel_rfl))⟩,trivial⟩ he.ok
theorem yqJ (e:List (Nat×EffF)) (a0 Q n i0 i1 i2 i3 l4 i5 i6):WC (E e) (callW (ypx e a0) 10) (yfq a0) yfH [(0,.v (.data l4)),(1,.v (.fn (.func ycR) [] [(.ptr 0 1 0 0)])),(7,.v (.int .i64 i5)),(8,.v (.int .i64 i6))] [⟨false,false,4,([(.agg [(.int .i64 i0),(.int .i64 i1),(.int .i64 i2),(.int .i64 i3)])]:List PV)⟩] (fun x F' H'=>match x with | .norm=>ygW a0 Q n F' H' | .exit i=>Q (.exit i) F' H' | .ret=>Q .ret F' H')=ybP a0 (yhP Q) (yhQ Q) (n+1) i0 i1 i2 i3 l4 i5 i6:=by kernel_rfl
theorem ytv (e:List (Nat×EffF)) (_:EG e):LpOk (E e) (yfq yad) yfH:=(yag (by kernel_rfl))
theorem ysr (e:List (Nat×EffF)) (he:EG e):∀ F H Q,yfq yad 68674300 F H Q→LoopT (E e) yfH F H Q:=by
 intro F H Q h
 have go:=LoopT.intro (yaC (ywG e he) 10) (ytv e he) (ygW yad Q) (by
   intro F H h
   unfold ygW ydC at h
   split at h
   · obtain ⟨hg,k⟩:=yai.1 h
     clear h
     have h:=k
     clear k
     try simp only [Bool.and_eq_true,decide_eq_true_eq] at hg
     have g0:=hg;have g0:=Nat.eq_of_beq_eq_true g0;subst g0;exact h
   · exact h) (by
   intro n F H h
   unfold ygW ydC at h
   split at h
   · obtain ⟨hg,k⟩:=yai.1 h
     clear h
     have h:=k
     clear k
     try simp only [Bool.and_eq_true,decide_eq_true_eq] at hg
     have g0:=hg;have g0:=Nat.eq_of_beq_eq_true g0;subst g0;exact (yqJ ..).mpr h
   · exact h.elim)
 have h:ydC F H _:=h
 unfold ydC at h
 split at h
 · obtain ⟨hg,n,h⟩:=yai.1 h;exact go n _ _ (yai.2 ⟨hg,h⟩)
 · exact h.elim
theorem ywH (e:List (Nat×EffF)) (he:EG e):SEOk (ypy e yad):=yam ⟨(ye0 e he),trivial⟩ ⟨⟨by kernel_rfl,by kernel_rfl,rfl,fun as=>yab (by kernel_rfl) as,he.num _ (by kernel_rfl),(yag (by kernel_rfl))⟩,⟨by kernel_rfl,by kernel_rfl,rfl,fun as=>yab (by kernel_rfl) as,he.num _ (by kernel_rfl),(ya8 (l:=[(68674300,yfH)]) ⟨ysr e he,trivial⟩ (by kernel_rfl))⟩,⟨by kernel_rfl,by kernel_rfl,rfl,fun as=>yab (by kernel_rfl) as,he.num _ (by kernel_rfl),(yag (by kernel_rfl))⟩,trivial⟩ he.ok
theorem yxX (e:List (Nat×EffF)) (a0 p0 p1 p2 p3 p4 K):WP (ypy e a0) 11 yyO [(.agg [(.int .i64 p0),(.int .i64 p1),(.int .i64 p2),(.int .i64 p3)]),(.eptr [(.data p4)] 0 0)] K=ykF a0 p0 p1 p2 p3 p4 (fun r0=>K (.bool r0)):=by kernel_rfl
theorem ykG (e:List (Nat×EffF)) (he:EG e):OkF (E e) ypw ybZ:=by
 intro as K h
 unfold ypw yhA at h
 split at h
 · exact WP_ok (ywH e he) (yag (by kernel_rfl)) (by kernel_rfl) (by kernel_rfl) (fun _=>yab (by kernel_rfl) _) (he.num _ (by kernel_rfl)) ((yxX ..).mpr h)
 · exact h.elim
abbrev ybc:Type:=List PV→List PV→(Bool→Prop)→Prop
def ycl (a0:ydM) (x0:List PV→List PV→Int→Int→Bool→Prop) (x1:List PV→Int→Prop):Nat→List PV→List PV→Int→Int→Prop
 | 0,_,_,_,_=>False
 | n+1,l0,l1,i2,i3 =>
 (cbr (decide (i3<i2))
 (asr (decide ((0:Int)≤i3))
 (asr (decide (i3<(((List.length l1):Nat):Int)))
 (lt (List.getD l1 (i3.toNat) .nils) (fun yr6 =>
 (asr (conf (.agg [.i .i64,.i .i64,.i .i64,.i .i64]) yr6)
 (a0 (intOfV (cellAt yr6 0)) (intOfV (cellAt yr6 1)) (intOfV (cellAt yr6 2)) (intOfV (cellAt yr6 3)) l0 (fun yb7 =>
 (cbr yb7
 (x1 l0 i3)
 (lt (IntKind.i64.wrap (i3+(1:Int))) (fun yi8 =>
 (ycl a0 x0 x1 n l0 l1 i2 yi8)))))))))))
 (x0 l0 l1 i2 i3 false))
def ynN (a0:ydM) (p0 p1:List PV) (K:Bool→Prop):Prop :=
 (jn (fun (yj258:List PV→Int→Prop) =>
 (∃ n:Nat,ycl a0
 (fun yl266 _ _ _ _=>(yj258 yl266 (-1:Int)))
 (fun yl271 yi272=>(yj258 yl271 yi272))
 n p1 p0 (((List.length p0):Nat):Int) (0:Int)))
 (fun _ yi257=>(K (decide (yi257≥(0:Int))))))
def yah (p0 p1:List PV) (K:Bool→Prop):Prop:=ynN ybw p0 p1 K
def yjK (w:ybc) (as:List PV) (K:PV→Prop):Prop :=
 match as with
 | [(.data p0),(.data p1)]=>w p0 p1 (fun r0=>K (.bool r0))
 | _=>False
def yss (as:List PV) (K:PV→Prop):Prop:=yjK yah as K
def yeD (F:Frm) (H:Hp) (A0:List PV→List PV→Int→Int→Prop):Prop :=
 match F,H with
 | [(0,.v (.data l1)),(1,.v (.fn (.func q0) [] [(.ptr 0 1 0 0)])),(7,.v (.int .i64 i2)),(8,.v (.int .i64 i3))],[⟨false,false,1,[(.data l0)]⟩]=>asr (Nat.beq q0 ybZ) (A0 l0 l1 i2 i3)
 | _,_=>False
def yjL (Q:Ex→Frm→Hp→Prop):List PV→List PV→Int→Int→Bool→Prop:=(fun l0 l1 i2 i3 b4=>Q (.exit 0) [(0,.v (.data l1)),(1,.v (.fn (.func ybZ) [] [(.ptr 0 1 0 0)])),(7,.v (.int .i64 i2)),(8,.v (.int .i64 i3)),(9,.v (.bool b4))] [⟨false,false,1,([(.data l0)]:List PV)⟩])
def yjM (Q:Ex→Frm→Hp→Prop):List PV→Int→Prop:=(fun l0 i1=>Q .ret [(4,.v (.int .i64 i1))] [⟨false,false,1,([(.data l0)]:List PV)⟩])
def yid (a0:ydM) (Q:Ex→Frm→Hp→Prop) (n:Nat) (F:Frm) (H:Hp):Prop:=yeD F H (fun l0 l1 i2 i3=>ycl a0 (yjL Q) (yjM Q) n l0 l1 i2 i3)
def yhh (a0:ydM):LP:=fun id F H Q =>
 bif Nat.beq id 68674300 then yeD F H (fun l0 l1 i2 i3=>∃ n:Nat,ycl a0 (yjL Q) (yjM Q) n l0 l1 i2 i3) else
 False
def yst (e:List (Nat×EffF)) (a0:ydM):SE:=⟨(E e),lookS [(ybZ,yhA a0)],lookI [(yaT,ybB)],yhh a0⟩
def ysu (e:List (Nat×EffF)) (a0:ydM):SE:=⟨(E e),lookS [(ybZ,yhA a0)],lookI [(yaT,ybB),(ybV,yfc)],yhh a0⟩
theorem yzf (e:List (Nat×EffF)) (he:EG e):SEOk (yst e ybw):=yam ⟨(ykG e he),trivial⟩ ⟨⟨by kernel_rfl,by kernel_rfl,rfl,fun as=>yab (by kernel_rfl) as,he.num _ (by kernel_rfl),(yag (by kernel_rfl))⟩,trivial⟩ he.ok
theorem ysv (e:List (Nat×EffF)) (a0 Q n l0 l1 i2 i3):WC (E e) (callW (yst e a0) 10) (yhh a0) yfH [(0,.v (.data l1)),(1,.v (.fn (.func ybZ) [] [(.ptr 0 1 0 0)])),(7,.v (.int .i64 i2)),(8,.v (.int .i64 i3))] [⟨false,false,1,([(.data l0)]:List PV)⟩] (fun x F' H'=>match x with | .norm=>yid a0 Q n F' H' | .exit i=>Q (.exit i) F' H' | .ret=>Q .ret F' H')=ycl a0 (yjL Q) (yjM Q) (n+1) l0 l1 i2 i3:=by kernel_rfl
theorem ywI (e:List (Nat×EffF)) (_:EG e):LpOk (E e) (yhh ybw) yfH:=(yag (by kernel_rfl))
theorem yvd (e:List (Nat×EffF)) (he:EG e):∀ F H Q,yhh ybw 68674300 F H Q→LoopT (E e) yfH F H Q:=by
 intro F H Q h
 have go:=LoopT.intro (yaC (yzf e he) 10) (ywI e he) (yid ybw Q) (by
   intro F H h
   unfold yid yeD at h
   split at h
   · obtain ⟨hg,k⟩:=yai.1 h
     clear h
     have h:=k
     clear k
     try simp only [Bool.and_eq_true,decide_eq_true_eq] at hg
     have g0:=hg;have g0:=Nat.eq_of_beq_eq_true g0;subst g0;exact h
   · exact h) (by
   intro n F H h
   unfold yid yeD at h
   split at h
   · obtain ⟨hg,k⟩:=yai.1 h
     clear h
     have h:=k
     clear k
     try simp only [Bool.and_eq_true,decide_eq_true_eq] at hg
     have g0:=hg;have g0:=Nat.eq_of_beq_eq_true g0;subst g0;exact (ysv ..).mpr h
   · exact h.elim)
 have h:yeD F H _:=h
 unfold yeD at h
 split at h
 · obtain ⟨hg,n,h⟩:=yai.1 h;exact go n _ _ (yai.2 ⟨hg,h⟩)
 · exact h.elim
theorem yzg (e:List (Nat×EffF)) (he:EG e):SEOk (ysu e ybw):=yam ⟨(ykG e he),trivial⟩ ⟨⟨by kernel_rfl,by kernel_rfl,rfl,fun as=>yab (by kernel_rfl) as,he.num _ (by kernel_rfl),(yag (by kernel_rfl))⟩,⟨by kernel_rfl,by kernel_rfl,rfl,fun as=>yab (by kernel_rfl) as,he.num _ (by kernel_rfl),(ya8 (l:=[(68674300,yfH)]) ⟨yvd e he,trivial⟩ (by kernel_rfl))⟩,trivial⟩ he.ok
theorem yAP (e:List (Nat×EffF)) (a0 p0 p1 K):WP (ysu e a0) 11 yBJ [(.data p0),(.data p1)] K=ynN a0 p0 p1 (fun r0=>K (.bool r0)):=by kernel_rfl
theorem ynO (e:List (Nat×EffF)) (he:EG e):OkF (E e) yss ygf:=by
 intro as K h
 unfold yss yjK at h
 split at h
 · exact WP_ok (yzg e he) (yag (by kernel_rfl)) (by kernel_rfl) (by kernel_rfl) (fun _=>yab (by kernel_rfl) _) (he.num _ (by kernel_rfl)) ((yAP ..).mpr h)
 · exact h.elim
abbrev ytw:Type:=Int→Int→Int→Int→Int→Int→Int→Int→(Int→Prop)→Prop
def yhi (a0:ybJ) (p0 p1 _ _ p4 p5 _ _:Int) (K:Int→Prop):Prop :=
 (a0 p0 p1 p4 p5 (fun yi2 _ =>
 (K yi2)))
def yhR (p0 p1 p2 p3 p4 p5 p6 p7:Int) (K:Int→Prop):Prop:=yhi ybK p0 p1 p2 p3 p4 p5 p6 p7 K
def ylE (w:ytw) (as:List PV) (K:PV→Prop):Prop :=
 match as with
 | [(.agg [(.int .i64 p0),(.int .i64 p1),(.int .i64 p2),(.int .i64 p3)]),(.agg [(.int .i64 p4),(.int .i64 p5),(.int .i64 p6),(.int .i64 p7)])]=>w p0 p1 p2 p3 p4 p5 p6 p7 (fun r0=>K (.int .i64 r0))
 | _=>False
def ylF (as:List PV) (K:PV→Prop):Prop:=ylE yhR as K
def ysw (_:ybJ):LP:=fun _ _ _ _ =>
 False
def ylG (e:List (Nat×EffF)) (a0:ybJ):SE:=⟨(E e),lookS [(ycA,yfO a0)],lookI [],ysw a0⟩
theorem yrp (e:List (Nat×EffF)) (he:EG e):SEOk (ylG e ybK):=yam ⟨(yhs e he),trivial⟩ trivial he.ok
theorem ysx (e:List (Nat×EffF)) (a0 p0 p1 p2 p3 p4 p5 p6 p7 K):WP (ylG e a0) 11 ytc [(.agg [(.int .i64 p0),(.int .i64 p1),(.int .i64 p2),(.int .i64 p3)]),(.agg [(.int .i64 p4),(.int .i64 p5),(.int .i64 p6),(.int .i64 p7)])] K=yhi a0 p0 p1 p2 p3 p4 p5 p6 p7 (fun r0=>K (.int .i64 r0)):=by kernel_rfl
theorem ysy (e:List (Nat×EffF)) (he:EG e):OkF (E e) ylF ych:=by
 intro as K h
 unfold ylF ylE at h
 split at h
 · exact WP_ok (yrp e he) (yag (by kernel_rfl)) (by kernel_rfl) (by kernel_rfl) (fun _=>yab (by kernel_rfl) _) (he.num _ (by kernel_rfl)) ((ysx ..).mpr h)
 · exact h.elim
abbrev yaG:Type:=List PV→List PV→List PV→List PV→(Bool→Prop)→Prop
def ybs (a0:yap) (a1:yao) (x14451100_0:List PV→Int→List PV→Int→Int→Bool→Prop):Nat→List PV→Int→List PV→Int→Int→Prop
 | 0,_,_,_,_,_=>False
 | n14451100+1,l0,i1,l2,i3,i4 =>
 (cbr (decide (i4<i3))
 (asr (decide ((0:Int)≤i4))
 (asr (decide (i4<(((List.length l2):Nat):Int)))
 (lt (List.getD l2 (i4.toNat) .nils) (fun yr5 =>
 (asr (conf (.one (.d)) yr5)
 (lt (IntKind.i64.wrap (i1+(((List.length (datOfV yr5)):Nat):Int))) (fun yi7 =>
 (cbr (decide (yi7<(0:Int)))
 False
 (lt (IntKind.i64.wrap (i4+(1:Int))) (fun yi8 =>
 (ybs a0 a1 x14451100_0 n14451100 l0 yi7 l2 i3 yi8)))))))))))
 (x14451100_0 l0 i1 l2 i3 i4 false))
def yaZ (a0:yap) (a1:yao) (x14451101_1:List PV→Nat→List PV→Int→Int→Bool→Prop):Nat→List PV→Nat→List PV→Int→Int→Prop
 | 0,_,_,_,_,_=>False
 | n14451101+1,l0,n1,l3,i4,i5 =>
 (cbr (decide (i5<i4))
 (asr (decide ((0:Int)≤i5))
 (asr (decide (i5<(((List.length l3):Nat):Int)))
 (lt (List.getD l3 (i5.toNat) .nils) (fun yr48 =>
 (asr (conf (.one (.d)) yr48)
 (asr (headOk 4 (datOfV yr48))
 (asr (decide ((List.length l0)=(List.length l0)))
 (asr (decide ((0+n1)≤(List.length l0)))
 (cbr (List.isEmpty (datOfV yr48))
 (lt (IntKind.i64.wrap (i5+(1:Int))) (fun yi49 =>
 (asr (decide ((List.length l0)=List.length l0))
 (yaZ a0 a1 x14451101_1 n14451101 l0 n1 l3 i4 yi49))))
 (asr (decide (((0+n1)+(List.length (datOfV yr48)))≤(List.length l0)))
 (lt (IntKind.i64.wrap (i5+(1:Int))) (fun yi50 =>
 (asr (decide ((List.length l0)=List.length ((List.take (0+n1) l0)++((datOfV yr48)++(List.drop ((0+n1)+(List.length (datOfV yr48))) l0)))))
 (yaZ a0 a1 x14451101_1 n14451101 ((List.take (0+n1) l0)++((datOfV yr48)++(List.drop ((0+n1)+(List.length (datOfV yr48))) l0))) (n1+(List.length (datOfV yr48))) l3 i4 yi50))))))))))))))
 (x14451101_1 l0 n1 l3 i4 i5 false))
def ybt (a0:yap) (a1:yao) (x14451101_0:List PV→Int→Int→Bool→Prop) (x14451101_1:List PV→Nat→List PV→Int→Int→Bool→Prop):Nat→List PV→Int→Int→Prop
 | 0,_,_,_=>False
 | n14451101+1,l0,i1,i2 =>
 (cbr (decide (i2<i1))
 (asr (decide ((0:Int)≤i2))
 (asr (decide (i2<(((List.length l0):Nat):Int)))
 (lt (List.getD l0 (i2.toNat) .nils) (fun yr42 =>
 (asr (conf (.one (.d)) yr42)
 (asr (headOk 4 (datOfV yr42))
 (cbr (List.isEmpty (datOfV yr42))
 (lt (IntKind.i64.wrap (i2+(1:Int))) (fun yi43 =>
 (ybt a0 a1 x14451101_0 x14451101_1 n14451101 l0 i1 yi43)))
 (asr (decide (((List.length (datOfV yr42))+64)*(32+1)≤room))
 (lt (IntKind.i64.wrap (i2+(1:Int))) (fun yi44 =>
 (asr (decide ((List.length (datOfV yr42))=List.length (datOfV yr42)))
 (yaZ a0 a1 x14451101_1 n14451101 (datOfV yr42) (List.length (datOfV yr42)) l0 i1 yi44))))))))))))
 (x14451101_0 l0 i1 i2 false))
def ybu (a0:yap) (a1:yao) (x93107500_0:List PV→List PV→List PV→List PV→List PV→Int→Int→Nat→Int→Int→Bool→Prop) (x93107500_1:List PV→Bool→Prop):Nat→List PV→List PV→List PV→List PV→List PV→Int→Int→Nat→Int→Int→Prop
 | 0,_,_,_,_,_,_,_,_,_,_=>False
 | n93107500+1,l0,l1,l2,l3,l4,i5,i6,n7,i9,i10 =>
 (cbr (decide (i10<i9))
 (jn (fun (yj233:Int→Int→Prop) =>
 (asr (decide ((0:Int)≤i10))
 (asr (decide (i10<((n7:Nat):Int)))
 (asr (decide ((List.length l0)=(List.length l0)))
 (asr (decide ((0+(i10.toNat))<(List.length l0)))
 (lt (List.getD l0 (0+(i10.toNat)) .nils) (fun yr236 =>
 (asr (conf (.agg [.i .i64,.i .i64,.i .i64,.i .i64]) yr236)
 (a1 i5 i6 (intOfV (cellAt yr236 0)) (intOfV (cellAt yr236 1)) (fun yb240 =>
 (cbr yb240
 (x93107500_1 l0 true)
 (a1 i5 i6 (intOfV (cellAt yr236 2)) (intOfV (cellAt yr236 3)) (fun yb242 =>
 (cbr yb242
 (yj233 (intOfV (cellAt yr236 2)) (intOfV (cellAt yr236 3)))
 (yj233 i5 i6)))))))))))))))
 (fun yi231 yi232=>(lt (IntKind.i64.wrap (i10+(1:Int))) (fun yi234 =>
 (asr (decide ((List.length l0)=List.length l0))
 (ybu a0 a1 x93107500_0 x93107500_1 n93107500 l0 l1 l2 l3 l4 yi231 yi232 n7 i9 yi234))))))
 (x93107500_0 l0 l1 l2 l3 l4 i5 i6 n7 i9 i10 false))
def ydc (_:yap) (_:yao) (x93107500_2:List PV→List PV→List PV→List PV→Int→Int→Int→Int→Bool→Prop):Nat→List PV→List PV→List PV→List PV→Int→Int→Int→Int→Prop
 | 0,_,_,_,_,_,_,_,_=>False
 | _+1,l0,l1,l2,l3,i4,i5,i6,i7 =>
 (cbr (decide (i7<i6))
 False
 (x93107500_2 l0 l1 l2 l3 i4 i5 i6 i7 false))
def yip (a0:yap) (a1:yao) (p0 p1 p2 p3:List PV) (K:Bool→Prop):Prop :=
 (jn (fun (yj218:List PV→Nat→Prop) =>
 (∃ n14451100:Nat,ybs a0 a1
 (fun yl283 yi284 _ _ _ _=>(cbr (decide (yi284<(0:Int)))
 False
 (jn (fun yj306 =>
 (lt (IntKind.i64.wrap (yi284-(0:Int))) (fun yi358 =>
 (cbr (decide (yi358>(0:Int)))
 (asr (decide ((0:Int)≤yi358))
 (cbr (decide ((yi358.toNat)=0))
 yj306
 (asr (decide (((List.length (List.replicate (yi358.toNat) ((.agg [(.int .i64 (0)),(.int .i64 (0)),(.int .i64 (0)),(.int .i64 (0))]):PV)))+64)*(32+1)≤room))
 (asr ((decide ((0:Int)≤(((List.length (List.replicate (yi358.toNat) ((.agg [(.int .i64 (0)),(.int .i64 (0)),(.int .i64 (0)),(.int .i64 (0))]):PV))):Nat):Int)))||(decide ((0:Int)≤(((List.length (List.replicate (yi358.toNat) ((.agg [(.int .i64 (0)),(.int .i64 (0)),(.int .i64 (0)),(.int .i64 (0))]):PV))):Nat):Int))))
 (asr (decide ((List.length (List.replicate (yi358.toNat) ((.agg [(.int .i64 (0)),(.int .i64 (0)),(.int .i64 (0)),(.int .i64 (0))]):PV)))=List.length (List.replicate (yi358.toNat) ((.agg [(.int .i64 (0)),(.int .i64 (0)),(.int .i64 (0)),(.int .i64 (0))]):PV))))
 (∃ n14451101:Nat,yaZ a0 a1
 (fun yl365 yn366 _ _ _ _=>(yj218 yl365 yn366))
 n14451101 (List.replicate (yi358.toNat) ((.agg [(.int .i64 (0)),(.int .i64 (0)),(.int .i64 (0)),(.int .i64 (0))]):PV)) 0 yl283 (((List.length yl283):Nat):Int) (0:Int)))))))
 yj306))))
 (∃ n14451101:Nat,ybt a0 a1
 (fun _ _ _ _=>(a0 (0:Int) (fun yi323 yi324 =>
 (∃ n93107500:Nat,ydc a0 a1
 (fun yl334 _ _ _ yi338 yi339 _ _ _=>(asr (decide ((0:Int)<(((List.length yl334):Nat):Int)))
 (lt (List.getD yl334 0 .nils) (fun yr347 =>
 (asr (conf (.agg [.i .i64,.d,.d]) yr347)
 (a0 (intOfV (cellAt yr347 0)) (fun yi348 yi349 =>
 (a1 yi338 yi339 yi348 yi349 (fun yb350 =>
 (K yb350))))))))))
 n93107500 p0 p1 p2 p3 yi323 yi324 (0:Int) (0:Int)))))
 (fun yl351 yn352 _ _ _ _=>(yj218 yl351 yn352))
 n14451101 yl283 (((List.length yl283):Nat):Int) (0:Int)))))
 n14451100 p1 (0:Int) p1 (((List.length p1):Nat):Int) (0:Int)))
 (fun yl216 yn217=>(asr (Srt.cond yrj.s yl216 0 yn217 (List.length yl216) 4 false)
 (a0 (0:Int) (fun yi221 yi222 =>
 (asr (decide ((List.length yl216)=List.length (List.take 0 yl216++(Srt.sorted yrj.s yrj.srt (List.take yn217 (List.drop 0 yl216))++List.drop (0+yn217) yl216))))
 (∃ n93107500:Nat,ybu a0 a1
 (fun _ yl257 _ _ _ yi261 yi262 _ _ _ _=>(asr (decide ((0:Int)<(((List.length yl257):Nat):Int)))
 (lt (List.getD yl257 0 .nils) (fun yr271 =>
 (asr (conf (.agg [.i .i64,.d,.d]) yr271)
 (a0 (intOfV (cellAt yr271 0)) (fun yi272 yi273 =>
 (a1 yi261 yi262 yi272 yi273 (fun yb274 =>
 (K yb274))))))))))
 (fun _ yb276=>(K yb276))
 n93107500 (List.take 0 yl216++(Srt.sorted yrj.s yrj.srt (List.take yn217 (List.drop 0 yl216))++List.drop (0+yn217) yl216)) p0 p1 p2 p3 yi221 yi222 yn217 ((yn217:Nat):Int) (0:Int))))))))
def yac (p0 p1 p2 p3:List PV) (K:Bool→Prop):Prop:=yip yak yad p0 p1 p2 p3 K
def yfW (w:yaG) (as:List PV) (K:PV→Prop):Prop :=
 match as with
 | [(.eptr [(.agg [(.data p0),(.data p1),(.data p2),(.data p3)])] 0 0)]=>w p0 p1 p2 p3 (fun r0=>K (.bool r0))
 | _=>False
def ynP (as:List PV) (K:PV→Prop):Prop:=yfW yac as K
def ycW (F:Frm) (H:Hp) (A0:List PV→Int→List PV→Int→Int→Prop):Prop :=
 match F,H with
 | [(0,.v (.data l0)),(3,.v (.int .i64 i1)),(9,.v (.data l2)),(10,.v (.int .i64 i3)),(11,.v (.int .i64 i4))],[]=>(A0 l0 i1 l2 i3 i4)
 | _,_=>False
def ycX (F:Frm) (H:Hp) (A0:List PV→Int→Int→Prop) (A1:List PV→Nat→List PV→Int→Int→Prop):Prop :=
 match F,H with
 | [(6,.v .nils),(25,.v (.data l0)),(26,.v (.int .i64 i1)),(27,.v (.int .i64 i2))],[]=>(A0 l0 i1 i2)
 | [(6,.v (.own 0 0 n1 t2 none)),(25,.v (.data l3)),(26,.v (.int .i64 i4)),(27,.v (.int .i64 i5))],[⟨false,true,4,l0⟩]=>asr (decide (t2=List.length l0)) (A1 l0 n1 l3 i4 i5)
 | _,_=>False
def ycY (F:Frm) (H:Hp) (A0:List PV→List PV→List PV→List PV→List PV→Int→Int→Nat→Int→Int→Prop) (A1:List PV→List PV→List PV→List PV→Int→Int→Int→Int→Prop):Prop :=
 match F,H with
 | [(0,.v (.eptr [(.agg [(.data l1),(.data l2),(.data l3),(.data l4)])] 0 0)),(4,.box (.agg [(.int .i64 i5),(.int .i64 i6)])),(15,.v (.own 0 0 n7 t8 none)),(16,.v (.int .i64 i9)),(17,.v (.int .i64 i10))],[⟨false,true,4,l0⟩]=>asr (decide (t8=List.length l0)) (A0 l0 l1 l2 l3 l4 i5 i6 n7 i9 i10)
 | [(0,.v (.eptr [(.agg [(.data l0),(.data l1),(.data l2),(.data l3)])] 0 0)),(4,.box (.agg [(.int .i64 i4),(.int .i64 i5)])),(15,.v .nils),(16,.v (.int .i64 i6)),(17,.v (.int .i64 i7))],[]=>(A1 l0 l1 l2 l3 i4 i5 i6 i7)
 | _,_=>False
def ygI (Q:Ex→Frm→Hp→Prop):List PV→Int→List PV→Int→Int→Bool→Prop:=(fun l0 i1 l2 i3 i4 b5=>Q (.exit 0) [(0,.v (.data l0)),(3,.v (.int .i64 i1)),(9,.v (.data l2)),(10,.v (.int .i64 i3)),(11,.v (.int .i64 i4)),(12,.v (.bool b5))] [])
def ygJ (Q:Ex→Frm→Hp→Prop):List PV→Int→Int→Bool→Prop:=(fun l0 i1 i2 b3=>Q (.exit 2) [(6,.v .nils),(25,.v (.data l0)),(26,.v (.int .i64 i1)),(27,.v (.int .i64 i2)),(28,.v (.bool b3))] [])
def ycn (Q:Ex→Frm→Hp→Prop):List PV→Nat→List PV→Int→Int→Bool→Prop:=(fun l0 n1 l3 i4 i5 b6=>Q (.exit 2) [(6,.v (.own 0 0 n1 (List.length l0) none)),(25,.v (.data l3)),(26,.v (.int .i64 i4)),(27,.v (.int .i64 i5)),(28,.v (.bool b6))] [⟨false,true,4,l0⟩])
def ygK (Q:Ex→Frm→Hp→Prop):List PV→List PV→List PV→List PV→List PV→Int→Int→Nat→Int→Int→Bool→Prop:=(fun l0 l1 l2 l3 l4 i5 i6 n7 i9 i10 b11=>Q (.exit 0) [(0,.v (.eptr [(.agg [(.data l1),(.data l2),(.data l3),(.data l4)])] 0 0)),(4,.box (.agg [(.int .i64 i5),(.int .i64 i6)])),(15,.v (.own 0 0 n7 (List.length l0) none)),(16,.v (.int .i64 i9)),(17,.v (.int .i64 i10)),(18,.v (.bool b11))] [⟨false,true,4,l0⟩])
def ygL (Q:Ex→Frm→Hp→Prop):List PV→Bool→Prop:=(fun l0 b1=>Q .ret [(2,.v (.bool b1))] [⟨false,true,4,l0⟩])
def ygM (Q:Ex→Frm→Hp→Prop):List PV→List PV→List PV→List PV→Int→Int→Int→Int→Bool→Prop:=(fun l0 l1 l2 l3 i4 i5 i6 i7 b8=>Q (.exit 0) [(0,.v (.eptr [(.agg [(.data l0),(.data l1),(.data l2),(.data l3)])] 0 0)),(4,.box (.agg [(.int .i64 i4),(.int .i64 i5)])),(15,.v .nils),(16,.v (.int .i64 i6)),(17,.v (.int .i64 i7)),(18,.v (.bool b8))] [])
def yff (a0:yap) (a1:yao) (Q:Ex→Frm→Hp→Prop) (n:Nat) (F:Frm) (H:Hp):Prop:=ycW F H (fun l0 i1 l2 i3 i4=>ybs a0 a1 (ygI Q) n l0 i1 l2 i3 i4)
def ydS (a0:yap) (a1:yao) (Q:Ex→Frm→Hp→Prop) (n:Nat) (F:Frm) (H:Hp):Prop:=ycX F H (fun l0 i1 i2=>ybt a0 a1 (ygJ Q) (ycn Q) n l0 i1 i2) (fun l0 n1 l3 i4 i5=>yaZ a0 a1 (ycn Q) n l0 n1 l3 i4 i5)
def ydT (a0:yap) (a1:yao) (Q:Ex→Frm→Hp→Prop) (n:Nat) (F:Frm) (H:Hp):Prop:=ycY F H (fun l0 l1 l2 l3 l4 i5 i6 n7 i9 i10=>ybu a0 a1 (ygK Q) (ygL Q) n l0 l1 l2 l3 l4 i5 i6 n7 i9 i10) (fun l0 l1 l2 l3 i4 i5 i6 i7=>ydc a0 a1 (ygM Q) n l0 l1 l2 l3 i4 i5 i6 i7)
def ya1 (a0:yap) (a1:yao):LP:=fun id F H Q =>
 bif Nat.beq id 14451100 then ycW F H (fun l0 i1 l2 i3 i4=>∃ n:Nat,ybs a0 a1 (ygI Q) n l0 i1 l2 i3 i4) else
 bif Nat.beq id 14451101 then ycX F H (fun l0 i1 i2=>∃ n:Nat,ybt a0 a1 (ygJ Q) (ycn Q) n l0 i1 i2) (fun l0 n1 l3 i4 i5=>∃ n:Nat,yaZ a0 a1 (ycn Q) n l0 n1 l3 i4 i5) else
 bif Nat.beq id 93107500 then ycY F H (fun l0 l1 l2 l3 l4 i5 i6 n7 i9 i10=>∃ n:Nat,ybu a0 a1 (ygK Q) (ygL Q) n l0 l1 l2 l3 l4 i5 i6 n7 i9 i10) (fun l0 l1 l2 l3 i4 i5 i6 i7=>∃ n:Nat,ydc a0 a1 (ygM Q) n l0 l1 l2 l3 i4 i5 i6 i7) else
 False
def ydk (a0:yap) (a1:yao):SE:=⟨(E ef0),lookS [(ybx,ycU a0),(ybi,ydn a1)],lookI [(ycS,yg3)],ya1 a0 a1⟩
def ynQ (a0:yap) (a1:yao):SE:=⟨(E ef0),lookS [(ybx,ycU a0),(ybi,ydn a1)],lookI [(ydJ,ylM),(ycS,yg3)],ya1 a0 a1⟩
theorem yhS:SEOk (ydk yak yad):=yam ⟨(yen ef0 effG0),(ye0 ef0 effG0),trivial⟩ ⟨⟨by kernel_rfl,by kernel_rfl,rfl,fun as=>yab (by kernel_rfl) as,effG0.num _ (by kernel_rfl),(yag (by kernel_rfl))⟩,trivial⟩ effG0.ok
theorem yo0 (a0 a1 Q n l0 i1 l2 i3 i4):WC (E ef0) (callW (ydk a0 a1) 10) (ya1 a0 a1) ynr [(0,.v (.data l0)),(3,.v (.int .i64 i1)),(9,.v (.data l2)),(10,.v (.int .i64 i3)),(11,.v (.int .i64 i4))] [] (fun x F' H'=>match x with | .norm=>yff a0 a1 Q n F' H' | .exit i=>Q (.exit i) F' H' | .ret=>Q .ret F' H')=ybs a0 a1 (ygI Q) (n+1) l0 i1 l2 i3 i4:=by kernel_rfl
theorem yrq:LpOk (E ef0) (ya1 yak yad) ynr:=(yag (by kernel_rfl))
theorem yqK:∀ F H Q,ya1 yak yad 14451100 F H Q→LoopT (E ef0) ynr F H Q:=by
 intro F H Q h
 have go:=LoopT.intro (yaC (yhS) 10) (yrq) (yff yak yad Q) (by
   intro F H h
   unfold yff ycW at h
   split at h
   · exact h
   · exact h) (by
   intro n F H h
   unfold yff ycW at h
   split at h
   · exact (yo0 ..).mpr h
   · exact h.elim)
 have h:ycW F H _:=h
 unfold ycW at h
 split at h
 · obtain ⟨n,h⟩:=h;exact go n _ _ h
 · exact h.elim
theorem yo1 (a0 a1 Q n l0 i1 i2):WC (E ef0) (callW (ydk a0 a1) 10) (ya1 a0 a1) ykg [(6,.v .nils),(25,.v (.data l0)),(26,.v (.int .i64 i1)),(27,.v (.int .i64 i2))] [] (fun x F' H'=>match x with | .norm=>ydS a0 a1 Q n F' H' | .exit i=>Q (.exit i) F' H' | .ret=>Q .ret F' H')=ybt a0 a1 (ygJ Q) (ycn Q) (n+1) l0 i1 i2:=by kernel_rfl
theorem yo2 (a0 a1 Q n l0 n1 l3 i4 i5):WC (E ef0) (callW (ydk a0 a1) 10) (ya1 a0 a1) ykg [(6,.v (.own 0 0 n1 (List.length l0) none)),(25,.v (.data l3)),(26,.v (.int .i64 i4)),(27,.v (.int .i64 i5))] [⟨false,true,4,l0⟩] (fun x F' H'=>match x with | .norm=>ydS a0 a1 Q n F' H' | .exit i=>Q (.exit i) F' H' | .ret=>Q .ret F' H')=yaZ a0 a1 (ycn Q) (n+1) l0 n1 l3 i4 i5:=by kernel_rfl
theorem yrr:LpOk (E ef0) (ya1 yak yad) ykg:=(yag (by kernel_rfl))
theorem yqL:∀ F H Q,ya1 yak yad 14451101 F H Q→LoopT (E ef0) ykg F H Q:=by
 intro F H Q h
 have go:=LoopT.intro (yaC (yhS) 10) (yrr) (ydS yak yad Q) (by
   intro F H h
   unfold ydS ycX at h
   split at h
   · exact h
   · obtain ⟨hg,k⟩:=yai.1 h
     clear h
     have h:=k
     clear k
     try simp only [decide_eq_true_eq] at hg
     have g0:=hg;subst g0;exact h
   · exact h) (by
   intro n F H h
   unfold ydS ycX at h
   split at h
   · exact (yo1 ..).mpr h
   · obtain ⟨hg,k⟩:=yai.1 h
     clear h
     have h:=k
     clear k
     try simp only [decide_eq_true_eq] at hg
     have g0:=hg;subst g0;exact (yo2 ..).mpr h
   · exact h.elim)
 have h:ycX F H _ _:=h
 unfold ycX at h
 split at h
 · obtain ⟨n,h⟩:=h;exact go n _ _ h
 · obtain ⟨hg,n,h⟩:=yai.1 h;exact go n _ _ (yai.2 ⟨hg,h⟩)
 · exact h.elim
theorem yo3 (a0 a1 Q n l0 l1 l2 l3 l4 i5 i6 n7 i9 i10):WC (E ef0) (callW (ydk a0 a1) 10) (ya1 a0 a1) ykh [(0,.v (.eptr [(.agg [(.data l1),(.data l2),(.data l3),(.data l4)])] 0 0)),(4,.box (.agg [(.int .i64 i5),(.int .i64 i6)])),(15,.v (.own 0 0 n7 (List.length l0) none)),(16,.v (.int .i64 i9)),(17,.v (.int .i64 i10))] [⟨false,true,4,l0⟩] (fun x F' H'=>match x with | .norm=>ydT a0 a1 Q n F' H' | .exit i=>Q (.exit i) F' H' | .ret=>Q .ret F' H')=ybu a0 a1 (ygK Q) (ygL Q) (n+1) l0 l1 l2 l3 l4 i5 i6 n7 i9 i10:=by kernel_rfl
theorem yo4 (a0 a1 Q n l0 l1 l2 l3 i4 i5 i6 i7):WC (E ef0) (callW (ydk a0 a1) 10) (ya1 a0 a1) ykh [(0,.v (.eptr [(.agg [(.data l0),(.data l1),(.data l2),(.data l3)])] 0 0)),(4,.box (.agg [(.int .i64 i4),(.int .i64 i5)])),(15,.v .nils),(16,.v (.int .i64 i6)),(17,.v (.int .i64 i7))] [] (fun x F' H'=>match x with | .norm=>ydT a0 a1 Q n F' H' | .exit i=>Q (.exit i) F' H' | .ret=>Q .ret F' H')=ydc a0 a1 (ygM Q) (n+1) l0 l1 l2 l3 i4 i5 i6 i7:=by kernel_rfl
theorem yrs:LpOk (E ef0) (ya1 yak yad) ykh:=(yag (by kernel_rfl))
theorem yqM:∀ F H Q,ya1 yak yad 93107500 F H Q→LoopT (E ef0) ykh F H Q:=by
 intro F H Q h
 have go:=LoopT.intro (yaC (yhS) 10) (yrs) (ydT yak yad Q) (by
   intro F H h
   unfold ydT ycY at h
   split at h
   · obtain ⟨hg,k⟩:=yai.1 h
     clear h
     have h:=k
     clear k
     try simp only [decide_eq_true_eq] at hg
     have g0:=hg;subst g0;exact h
   · exact h
   · exact h) (by
   intro n F H h
   unfold ydT ycY at h
   split at h
   · obtain ⟨hg,k⟩:=yai.1 h
     clear h
     have h:=k
     clear k
     try simp only [decide_eq_true_eq] at hg
     have g0:=hg;subst g0;exact (yo3 ..).mpr h
   · exact (yo4 ..).mpr h
   · exact h.elim)
 have h:ycY F H _ _:=h
 unfold ycY at h
 split at h
 · obtain ⟨hg,n,h⟩:=yai.1 h;exact go n _ _ (yai.2 ⟨hg,h⟩)
 · obtain ⟨n,h⟩:=h;exact go n _ _ h
 · exact h.elim
theorem ytx:SEOk (ynQ yak yad):=yam ⟨(yen ef0 effG0),(ye0 ef0 effG0),trivial⟩ ⟨⟨by kernel_rfl,by kernel_rfl,rfl,fun as=>yab (by kernel_rfl) as,effG0.num _ (by kernel_rfl),(ya8 (l:=[(14451100,ynr),(14451101,ykg)]) ⟨yqK,yqL,trivial⟩ (by kernel_rfl))⟩,⟨by kernel_rfl,by kernel_rfl,rfl,fun as=>yab (by kernel_rfl) as,effG0.num _ (by kernel_rfl),(yag (by kernel_rfl))⟩,trivial⟩ effG0.ok
theorem yve (a0 a1 p0 p1 p2 p3 K):WP (ynQ a0 a1) 11 yvK [(.eptr [(.agg [(.data p0),(.data p1),(.data p2),(.data p3)])] 0 0)] K=yip a0 a1 p0 p1 p2 p3 (fun r0=>K (.bool r0)):=by kernel_rfl
theorem yiq:OkF (E ef0) ynP ycT:=by
 intro as K h
 unfold ynP yfW at h
 split at h
 · exact WP_ok (ytx) (ya8 (l:=[(93107500,ykh)]) ⟨yqM,trivial⟩ (by kernel_rfl)) (by kernel_rfl) (by kernel_rfl) (fun _=>yab (by kernel_rfl) _) (effG0.num _ (by kernel_rfl)) ((yve ..).mpr h)
 · exact h.elim
abbrev yav:Type:=List PV→List PV→List PV→List PV→Int→(Int→Int→Bool→Prop)→Prop
def yaI (a0:ybc) (a1:yaG) (a2:yau) (a3:ybn) (a4:yao) (x97930200_0:List PV→List PV→List PV→List PV→List PV→List PV→List PV→List PV→Int→Int→Int→Int→Int→Bool→Prop) (x97930200_1:List PV→List PV→List PV→List PV→Int→Int→Bool→Prop):Nat→List PV→List PV→List PV→List PV→List PV→List PV→List PV→List PV→Int→Int→Int→Int→Int→Prop
 | 0,_,_,_,_,_,_,_,_,_,_,_,_,_=>False
 | n97930200+1,l0,l1,l2,l3,l4,l5,l6,l7,i8,i9,i10,i11,i12 =>
 (cbr (decide (i12<i11))
 (jn (fun (yj60:Bool→Prop) =>
 (cbr (decide (i8<i12))
 (asr (decide ((0:Int)≤i8))
 (asr (decide (i8<(((List.length l1):Nat):Int)))
 (lt (List.getD l1 (i8.toNat) .nils) (fun yr62 =>
 (asr (conf (.one (.d)) yr62)
 (asr (decide ((0:Int)≤i12))
 (asr (decide (i12<(((List.length l1):Nat):Int)))
 (lt (List.getD l1 (i12.toNat) .nils) (fun yr63 =>
 (asr (conf (.one (.d)) yr63)
 (a0 (datOfV yr62) (datOfV yr63) (fun yb64 =>
 (yj60 yb64)))))))))))))
 (yj60 false)))
 (fun yb59=>(cbr yb59
 (x97930200_1 l0 l1 l2 l3 i8 i12 true)
 (lt (IntKind.i64.wrap (i12+(1:Int))) (fun yi61 =>
 (yaI a0 a1 a2 a3 a4 x97930200_0 x97930200_1 n97930200 l0 l1 l2 l3 l4 l5 l6 l7 i8 i9 i10 i11 yi61))))))
 (x97930200_0 l0 l1 l2 l3 l4 l5 l6 l7 i8 i9 i10 i11 i12 false))
def yaJ (a0:ybc) (a1:yaG) (a2:yau) (a3:ybn) (a4:yao) (x97930200_1:List PV→List PV→List PV→List PV→Int→Int→Bool→Prop) (x97930200_2:List PV→List PV→List PV→List PV→List PV→List PV→List PV→List PV→Int→Int→Int→Int→Int→Bool→Prop):Nat→List PV→List PV→List PV→List PV→List PV→List PV→List PV→List PV→Int→Int→Int→Int→Int→Prop
 | 0,_,_,_,_,_,_,_,_,_,_,_,_,_=>False
 | n97930200+1,l0,l1,l2,l3,l4,l5,l6,l7,i8,i9,i10,i11,i12 =>
 (cbr (decide (i12<i11))
 (asr (decide ((0:Int)≤i8))
 (asr (decide (i8<(((List.length l0):Nat):Int)))
 (lt (List.getD l0 (i8.toNat) .nils) (fun yr429 =>
 (asr (conf (.agg [.i .i64,.d,.d]) yr429)
 (a2 (intOfV (cellAt yr429 0)) (datOfV (cellAt yr429 1)) (datOfV (cellAt yr429 2)) (fun yi430 _ =>
 (a3 yi430 (((List.length l0):Nat):Int) (fun yi435 yi436 _ =>
 (jn (fun (yj442:Bool→Prop) =>
 (cbr (i8 == i12)
 (asr (decide ((0:Int)≤i8))
 (asr (decide (i8<(((List.length l2):Nat):Int)))
 (lt (List.getD l2 (i8.toNat) .nils) (fun yr444 =>
 (asr (conf (.one (.d)) yr444)
 (asr (decide ((0:Int)≤i8))
 (asr (decide (i8<(((List.length (datOfV yr444)):Nat):Int)))
 (lt (List.getD (datOfV yr444) (i8.toNat) .nils) (fun yr445 =>
 (asr (conf (.agg [.i .i64,.i .i64]) yr445)
 (a4 (intOfV (cellAt yr445 0)) (intOfV (cellAt yr445 1)) yi435 yi436 (fun yb446 =>
 (yj442 yb446)))))))))))))
 (yj442 false)))
 (fun yb441=>(cbr yb441
 (x97930200_1 l0 l1 l2 l3 i8 i12 true)
 (lt (IntKind.i64.wrap (i12+(1:Int))) (fun yi443 =>
 (yaJ a0 a1 a2 a3 a4 x97930200_1 x97930200_2 n97930200 l0 l1 l2 l3 l4 l5 l6 l7 i8 i9 i10 i11 yi443)))))))))))))))
 (x97930200_2 l0 l1 l2 l3 l4 l5 l6 l7 i8 i9 i10 i11 i12 false))
def yaK (a0:ybc) (a1:yaG) (a2:yau) (a3:ybn) (a4:yao) (x97930200_1:List PV→List PV→List PV→List PV→Int→Int→Bool→Prop) (x97930200_3:List PV→List PV→List PV→List PV→List PV→List PV→List PV→List PV→Int→Int→Int→Int→Int→Bool→Prop):Nat→List PV→List PV→List PV→List PV→List PV→List PV→List PV→List PV→Int→Int→Int→Int→Int→Prop
 | 0,_,_,_,_,_,_,_,_,_,_,_,_,_=>False
 | n97930200+1,l0,l1,l2,l3,l4,l5,l6,l7,i8,i9,i10,i11,i12 =>
 (cbr (decide (i12<i11))
 (asr (decide ((0:Int)≤i8))
 (asr (decide (i8<(((List.length l2):Nat):Int)))
 (lt (List.getD l2 (i8.toNat) .nils) (fun yr735 =>
 (asr (conf (.one (.d)) yr735)
 (asr (decide ((0:Int)≤i8))
 (asr (decide (i8<(((List.length (datOfV yr735)):Nat):Int)))
 (lt (List.getD (datOfV yr735) (i8.toNat) .nils) (fun yr736 =>
 (asr (conf (.agg [.i .i64,.i .i64]) yr736)
 (asr (decide ((0:Int)≤i8))
 (asr (decide (i8<(((List.length l2):Nat):Int)))
 (lt (List.getD l2 (i8.toNat) .nils) (fun yr737 =>
 (asr (conf (.one (.d)) yr737)
 (asr (decide ((0:Int)≤i12))
 (asr (decide (i12<(((List.length (datOfV yr737)):Nat):Int)))
 (lt (List.getD (datOfV yr737) (i12.toNat) .nils) (fun yr738 =>
 (asr (conf (.agg [.i .i64,.i .i64]) yr738)
 (a4 (intOfV (cellAt yr736 0)) (intOfV (cellAt yr736 1)) (intOfV (cellAt yr738 0)) (intOfV (cellAt yr738 1)) (fun yb739 =>
 (cbr yb739
 (x97930200_1 l0 l1 l2 l3 i8 i12 true)
 (lt (IntKind.i64.wrap (i12+(1:Int))) (fun yi740 =>
 (yaK a0 a1 a2 a3 a4 x97930200_1 x97930200_3 n97930200 l0 l1 l2 l3 l4 l5 l6 l7 i8 i9 i10 i11 yi740))))))))))))))))))))))))))
 (x97930200_3 l0 l1 l2 l3 l4 l5 l6 l7 i8 i9 i10 i11 i12 false))
def yaL (a0:ybc) (a1:yaG) (a2:yau) (a3:ybn) (a4:yao) (x97930200_1:List PV→List PV→List PV→List PV→Int→Int→Bool→Prop) (x97930200_4:List PV→List PV→List PV→List PV→List PV→List PV→List PV→List PV→Int→Int→Int→Int→Int→Bool→Prop):Nat→List PV→List PV→List PV→List PV→List PV→List PV→List PV→List PV→Int→Int→Int→Int→Int→Prop
 | 0,_,_,_,_,_,_,_,_,_,_,_,_,_=>False
 | n97930200+1,l0,l1,l2,l3,l4,l5,l6,l7,i8,i9,i10,i11,i12 =>
 (cbr (decide (i12<i11))
 (jn (fun (yj999:Bool→Prop) =>
 (cbr (i12 ==(0:Int))
 (asr (decide ((0:Int)≤i8))
 (asr (decide (i8<(((List.length l3):Nat):Int)))
 (lt (List.getD l3 (i8.toNat) .nils) (fun yr1001 =>
 (asr (conf (.agg [.i .i64,.i .i64]) yr1001)
 (asr (decide ((0:Int)<(((List.length l3):Nat):Int)))
 (lt (List.getD l3 0 .nils) (fun yr1002 =>
 (asr (conf (.agg [.i .i64,.i .i64]) yr1002)
 (yj999 (!(((intOfV (cellAt yr1001 0)) ==(intOfV (cellAt yr1002 0)))&&(((intOfV (cellAt yr1001 1)) ==(intOfV (cellAt yr1002 1)))&&true)))))))))))))
 (yj999 false)))
 (fun yb998=>(cbr yb998
 (x97930200_1 l0 l1 l2 l3 i8 i12 true)
 (lt (IntKind.i64.wrap (i12+(1:Int))) (fun yi1000 =>
 (yaL a0 a1 a2 a3 a4 x97930200_1 x97930200_4 n97930200 l0 l1 l2 l3 l4 l5 l6 l7 i8 i9 i10 i11 yi1000))))))
 (x97930200_4 l0 l1 l2 l3 l4 l5 l6 l7 i8 i9 i10 i11 i12 false))
def yaM (a0:ybc) (a1:yaG) (a2:yau) (a3:ybn) (a4:yao) (x97930200_1:List PV→List PV→List PV→List PV→Int→Int→Bool→Prop) (x97930200_5:List PV→List PV→List PV→List PV→List PV→List PV→List PV→List PV→Int→Int→Int→Int→Int→Bool→Prop):Nat→List PV→List PV→List PV→List PV→List PV→List PV→List PV→List PV→Int→Int→Int→Int→Int→Prop
 | 0,_,_,_,_,_,_,_,_,_,_,_,_,_=>False
 | n97930200+1,l0,l1,l2,l3,l4,l5,l6,l7,i8,i9,i10,i11,i12 =>
 (cbr (decide (i12<i11))
 (jn (fun (yj1934:Bool→Prop) =>
 (cbr (i8 == i12)
 (asr (decide ((0:Int)≤i8))
 (asr (decide (i8<(((List.length l1):Nat):Int)))
 (lt (List.getD l1 (i8.toNat) .nils) (fun yr1936 =>
 (asr (conf (.one (.d)) yr1936)
 (yj1934 ((((List.length (datOfV yr1936)):Nat):Int) !=(1:Int))))))))
 (yj1934 false)))
 (fun yb1933=>(cbr yb1933
 (x97930200_1 l0 l1 l2 l3 i8 i12 true)
 (lt (IntKind.i64.wrap (i12+(1:Int))) (fun yi1935 =>
 (yaM a0 a1 a2 a3 a4 x97930200_1 x97930200_5 n97930200 l0 l1 l2 l3 l4 l5 l6 l7 i8 i9 i10 i11 yi1935))))))
 (x97930200_5 l0 l1 l2 l3 l4 l5 l6 l7 i8 i9 i10 i11 i12 false))
def yaN (a0:ybc) (a1:yaG) (a2:yau) (a3:ybn) (a4:yao) (x97930201_0:List PV→List PV→List PV→List PV→List PV→List PV→List PV→List PV→Int→Int→Bool→Prop) (x97930201_1:List PV→List PV→List PV→List PV→Int→Int→Bool→Prop):Nat→List PV→List PV→List PV→List PV→List PV→List PV→List PV→List PV→Int→Int→Prop
 | 0,_,_,_,_,_,_,_,_,_,_=>False
 | n97930201+1,l0,l1,l2,l3,l4,l5,l6,l7,i8,i9 =>
 (cbr (decide (i9<i8))
 (∃ n97930200:Nat,yaI a0 a1 a2 a3 a4
 (fun yl86 yl87 yl88 yl89 yl90 yl91 yl92 yl93 _ yi95 yi96 _ _ _=>(lt (IntKind.i64.wrap (yi96+(1:Int))) (fun yi100 =>
 (yaN a0 a1 a2 a3 a4 x97930201_0 x97930201_1 n97930201 yl86 yl87 yl88 yl89 yl90 yl91 yl92 yl93 yi95 yi100))))
 (fun yl101 yl102 yl103 yl104 yi105 yi106 yb107=>(x97930201_1 yl101 yl102 yl103 yl104 yi105 yi106 yb107))
 n97930200 l0 l1 l2 l3 l4 l5 l6 l7 i9 i8 i9 (((List.length l4):Nat):Int) (0:Int))
 (x97930201_0 l0 l1 l2 l3 l4 l5 l6 l7 i8 i9 false))
end Go.Pf.Vc
