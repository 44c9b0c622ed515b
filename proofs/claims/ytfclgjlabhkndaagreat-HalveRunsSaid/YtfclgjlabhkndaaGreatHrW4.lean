/- Part 4. -/
import Derived.Test.YtfclgjlabhkndaaGreatHrW3
noncomputable section
namespace Go.Pf.Vc
open Go Go.Pf
set_option maxRecDepth 100000
def ylz (a0:yan) (a1:yah) (a2:yac) (a3:yae) (a4:yal) (a5:yaq) (a6:yaj) (a7:yai) (a8:yak) (Q:Qx):List St:=[⟨(pS hN (fX 4 pt19 (fX 8 pt30 (fX 9 pt7 (fV 10 vNs (fV 11 vNs (fV 18 pt2 (fV 21 vNs (fV 148 vNs pt39)))))))) fN),yki a0 a1 a2 a3 a4 a5 a6 a7 a8 (ytJ Q)⟩,⟨(pS pt20 (fX 4 pt19 (fX 8 pt30 (fX 9 pt7 (fV 10 vNs (fV 11 vNs pt40))))) fN),ydz a0 a1 a2 a3 a4 a5 a6 a7 a8 (ytK Q) (yko Q) (ygI Q) (ykp Q) (ygJ Q)⟩,⟨(pS pt41 (fX 4 pt19 (fX 8 pt30 (fX 9 pt7 (fV 10 pt42 (fV 11 vNs pt40))))) fN),ya6 a0 a1 a2 a3 a4 a5 a6 a7 a8 (yko Q) (ygI Q)⟩,⟨(pS pt43 (fX 4 pt19 (fX 8 pt30 (fX 9 pt7 (fV 10 pt42 (fV 11 pt44 pt40))))) fN),ya5 a0 a1 a2 a3 a4 a5 a6 a7 a8 (ygI Q)⟩,⟨(pS pt41 (fX 4 pt19 (fX 8 pt30 (fX 9 pt7 (fV 10 vNs (fV 11 pt42 pt40))))) fN),ygx a0 a1 a2 a3 a4 a5 a6 a7 a8 (ykp Q) (ygJ Q)⟩,⟨(pS pt43 (fX 4 pt19 (fX 8 pt30 (fX 9 pt7 (fV 10 pt44 (fV 11 pt42 pt40))))) fN),ygw a0 a1 a2 a3 a4 a5 a6 a7 a8 (ygJ Q)⟩]
def pt45:Pat Frm:=fV 1 pt2 (fV 2 pt2 (fV 6 pt2 (fV 7 pt2 fN)))
def pt46:VPt:=vW 1 (nK 0) nV nV
def pt47:VPt:=vW 2 (nK 0) nV nV
def ylA (a0:yan) (a1:yah) (a2:yac) (a3:yae) (a4:yal) (a5:yaq) (a6:yaj) (a7:yai) (a8:yak) (Q:Qx):List St:=[⟨(pS hN (fV 0 vNs pt45) fN),ykj a0 a1 a2 a3 a4 a5 a6 a7 a8 (ytL Q)⟩,⟨(pS pt20 (fV 0 vNs pt45) fN),ykk a0 a1 a2 a3 a4 a5 a6 a7 a8 (ytM Q)⟩,⟨(pS pt41 (fV 0 pt46 pt45) fN),ygy a0 a1 a2 a3 a4 a5 a6 a7 a8 (ytN Q)⟩,⟨(pS pt41 (fV 0 vNs pt45) fN),ykl a0 a1 a2 a3 a4 a5 a6 a7 a8 (ytO Q)⟩,⟨(pS pt43 (fV 0 pt46 pt45) fN),ybi a0 a1 a2 a3 a4 a5 a6 a7 a8 (ytP Q)⟩,⟨(pS pt43 (fV 0 pt47 pt45) fN),ybj a0 a1 a2 a3 a4 a5 a6 a7 a8 (ytQ Q)⟩]
def pt48:Pat Frm:=fV 1 pt2 (fV 2 pt2 (fV 3 pt34 pt10))
def ylB (a0:yan) (a1:yah) (a2:yac) (a3:yae) (a4:yal) (a5:yaq) (a6:yaj) (a7:yai) (a8:yak) (Q:Qx):List St:=[⟨(pS hN (fV 0 vNs pt48) fN),ygz a0 a1 a2 a3 a4 a5 a6 a7 a8 (ytR Q)⟩,⟨(pS pt20 (fV 0 pt21 pt48) fN),ya7 a0 a1 a2 a3 a4 a5 a6 a7 a8 (ytS Q)⟩]
def pt49:Pat Frm:=fV 1 pt2 (fV 2 pt2 (fV 6 pt2 fN))
def ylC (a0:yan) (a1:yah) (a2:yac) (a3:yae) (a4:yal) (a5:yaq) (a6:yaj) (a7:yai) (a8:yak) (Q:Qx):List St:=[⟨(pS hN (fV 0 vNs pt49) fN),ygA a0 a1 a2 a3 a4 a5 a6 a7 a8 (ytT Q)⟩,⟨(pS pt20 (fV 0 vNs pt49) fN),ygB a0 a1 a2 a3 a4 a5 a6 a7 a8 (ytU Q)⟩,⟨(pS pt41 (fV 0 pt46 pt49) fN),ygC a0 a1 a2 a3 a4 a5 a6 a7 a8 (ytV Q)⟩,⟨(pS pt41 (fV 0 vNs pt49) fN),ygD a0 a1 a2 a3 a4 a5 a6 a7 a8 (ytW Q)⟩,⟨(pS pt43 (fV 0 pt46 pt49) fN),ybk a0 a1 a2 a3 a4 a5 a6 a7 a8 (ytX Q)⟩,⟨(pS pt43 (fV 0 pt47 pt49) fN),ybl a0 a1 a2 a3 a4 a5 a6 a7 a8 (ytY Q)⟩]
def pt50:Pat Frm:=fV 1 pt2 (fV 2 pt2 (fV 3 pt2 (fV 8 vB (fV 9 vB fN))))
def ylD (a0:yan) (a1:yah) (a2:yac) (a3:yae) (a4:yal) (a5:yaq) (a6:yaj) (a7:yai) (a8:yak) (Q:Qx):List St:=[⟨(pS hN (fV 0 vNs pt50) fN),ygE a0 a1 a2 a3 a4 a5 a6 a7 a8 (ytZ Q)⟩,⟨(pS pt20 (fV 0 vNs pt50) fN),ygF a0 a1 a2 a3 a4 a5 a6 a7 a8 (yt0 Q)⟩,⟨(pS pt41 (fV 0 pt46 pt50) fN),ygG a0 a1 a2 a3 a4 a5 a6 a7 a8 (ykq Q)⟩,⟨(pS pt41 (fV 0 vNs pt50) fN),ygH a0 a1 a2 a3 a4 a5 a6 a7 a8 (ykq Q)⟩,⟨(pS pt43 (fV 0 pt46 pt50) fN),ycn a0 a1 a2 a3 a4 a5 a6 a7 a8 (ykr Q)⟩,⟨(pS pt43 (fV 0 pt47 pt50) fN),yco a0 a1 a2 a3 a4 a5 a6 a7 a8 (ykr Q)⟩]
def ybq (a0:yan) (a1:yah) (a2:yac) (a3:yae) (a4:yal) (a5:yaq) (a6:yaj) (a7:yai) (a8:yak):LP:=lpS [(42112300,ylu a0 a1 a2 a3 a4 a5 a6 a7 a8),(42112301,ylv a0 a1 a2 a3 a4 a5 a6 a7 a8),(34804800,ylw a0 a1 a2 a3 a4 a5 a6 a7 a8),(44419400,ylx a0 a1 a2 a3 a4 a5 a6 a7 a8),(34804802,yly a0 a1 a2 a3 a4 a5 a6 a7 a8),(42112302,ylz a0 a1 a2 a3 a4 a5 a6 a7 a8),(58428500,ylA a0 a1 a2 a3 a4 a5 a6 a7 a8),(44419401,ylB a0 a1 a2 a3 a4 a5 a6 a7 a8),(58428501,ylC a0 a1 a2 a3 a4 a5 a6 a7 a8),(82372100,ylD a0 a1 a2 a3 a4 a5 a6 a7 a8)]
def ybQ (e:Es) (a0:yan) (a1:yah) (a2:yac) (a3:yae) (a4:yal) (a5:yaq) (a6:yaj) (a7:yai) (a8:yak):SE:=⟨(E e),yh1 [(ycQ,ys4.pw a0),(ydZ,yB0.pw a1),(ycR,ykJ.pw a2),(ydB,yjm.pw a3),(ye0,yqf.pw a4),(ye2,yAv.pw a5),(ylX,yru.pw a6),(yaY,yvp.pw a7),(yc5,ywC.pw a8)],yh2 [(ya9,ybD),(ye3,ygZ)],ybq a0 a1 a2 a3 a4 a5 a6 a7 a8,fun _=>none⟩
def yo5 (e:Es) (a0:yan) (a1:yah) (a2:yac) (a3:yae) (a4:yal) (a5:yaq) (a6:yaj) (a7:yai) (a8:yak):SE:=⟨(E e),yh1 [(ycQ,ys4.pw a0),(ydZ,yB0.pw a1),(ycR,ykJ.pw a2),(ydB,yjm.pw a3),(ye0,yqf.pw a4),(ye2,yAv.pw a5),(ylX,yru.pw a6),(yaY,yvp.pw a7),(yc5,ywC.pw a8)],yh2 [(ya9,ybD),(ych,yc7),(yaN,yba),(ye3,ygZ),(yby,ybz)],ybq a0 a1 a2 a3 a4 a5 a6 a7 a8,fun _=>none⟩
def yo6 (e:Es) (a0:yan) (a1:yah) (a2:yac) (a3:yae) (a4:yal) (a5:yaq) (a6:yaj) (a7:yai) (a8:yak):SE:=⟨(E e),yh1 [(ycQ,ys4.pw a0),(ydZ,yB0.pw a1),(ycR,ykJ.pw a2),(ydB,yjm.pw a3),(ye0,yqf.pw a4),(ye2,yAv.pw a5),(ylX,yru.pw a6),(yaY,yvp.pw a7),(yc5,ywC.pw a8)],yh2 [(ya9,ybD),(ych,yc7),(yaN,yba),(ye3,ygZ),(ycf,yik),(yby,ybz)],ybq a0 a1 a2 a3 a4 a5 a6 a7 a8,fun _=>none⟩
theorem ybX (e:Es) (he:EG e):SEOk (Uni (E e)) (ybQ e yaU ya0 yaL yaS yaR yay ydp yaw yao):=yas (Sub.uni _) ⟨(ydt e he),(ye5 e he),(yeS e he),(ygv e he),(yhm e he),(ykZ e he),(ysN e he),(yhc e he),(yhU e he),trivial⟩ ⟨⟨by kernel_rfl,by kernel_rfl,rfl,fun az=>ybs (by kernel_rfl) az,he.num _ (by kernel_rfl),by kernel_rfl,(yam (by kernel_rfl))⟩,⟨by kernel_rfl,by kernel_rfl,rfl,fun az=>ybs (by kernel_rfl) az,he.num _ (by kernel_rfl),by kernel_rfl,(yam (by kernel_rfl))⟩,trivial⟩ he.ok
theorem yrV (e:Es) (a0 a1 a2 a3 a4 a5 a6 a7 a8):ybM (ybQ e a0 a1 a2 a3 a4 a5 a6 a7 a8) 5 a yrb false (ylu a0 a1 a2 a3 a4 a5 a6 a7 a8):=fun _=>⟨fun _=>by kernel_rfl,fun _ _=>by kernel_rfl,trivial⟩
theorem yrW (e:Es) (he:EG e):LpT (Uni (E e)) (ybq yaU ya0 yaL yaS yaR yay ydp yaw yao) [] 42112300 (.loop 42112300 yrb):=fun _ _ _=>ysB.st (Sub.uni _) (yaD (ybX e he) 5) (YOk.no _ _) (yam (by kernel_rfl)) (yrV e _ _ _ _ _ _ _ _ _ _)
theorem yrX (e:Es) (a0 a1 a2 a3 a4 a5 a6 a7 a8):ybM (ybQ e a0 a1 a2 a3 a4 a5 a6 a7 a8) 5 a yrc false (ylv a0 a1 a2 a3 a4 a5 a6 a7 a8):=fun _=>⟨fun _=>by kernel_rfl,fun _ _=>by kernel_rfl,fun _=>by kernel_rfl,fun _ _=>by kernel_rfl,trivial⟩
theorem yrY (e:Es) (he:EG e):LpT (Uni (E e)) (ybq yaU ya0 yaL yaS yaR yay ydp yaw yao) [] 42112301 (.loop 42112301 yrc):=fun _ _ _=>ysB.st (Sub.uni _) (yaD (ybX e he) 5) (YOk.no _ _) (yam (by kernel_rfl)) (yrX e _ _ _ _ _ _ _ _ _ _)
theorem yrZ (e:Es) (a0 a1 a2 a3 a4 a5 a6 a7 a8):ybM (ybQ e a0 a1 a2 a3 a4 a5 a6 a7 a8) 5 a yjh false (ylw a0 a1 a2 a3 a4 a5 a6 a7 a8):=fun _=>⟨fun _=>by kernel_rfl,fun _ _=>by kernel_rfl,fun _=>by kernel_rfl,fun _ _=>by kernel_rfl,trivial⟩
theorem yjx (e:Es) (he:EG e):LpT (Uni (E e)) (ybq yaU ya0 yaL yaS yaR yay ydp yaw yao) [] 34804800 (.loop 34804800 yjh):=fun _ _ _=>ysB.st (Sub.uni _) (yaD (ybX e he) 5) (YOk.no _ _) (yam (by kernel_rfl)) (yrZ e _ _ _ _ _ _ _ _ _ _)
theorem yr0 (e:Es) (a0 a1 a2 a3 a4 a5 a6 a7 a8):ybM (ybQ e a0 a1 a2 a3 a4 a5 a6 a7 a8) 5 a yjg false (ylx a0 a1 a2 a3 a4 a5 a6 a7 a8):=fun _=>⟨fun _=>by kernel_rfl,fun _ _=>by kernel_rfl,fun _=>by kernel_rfl,fun _ _=>by kernel_rfl,trivial⟩
theorem yfR (e:Es) (he:EG e):LpT (Uni (E e)) (ybq yaU ya0 yaL yaS yaR yay ydp yaw yao) [] 44419400 (.loop 44419400 yjg):=fun _ _ _=>ysB.st (Sub.uni _) (yaD (ybX e he) 5) (YOk.no _ _) (yam (by kernel_rfl)) (yr0 e _ _ _ _ _ _ _ _ _ _)
theorem yr1 (e:Es) (a0 a1 a2 a3 a4 a5 a6 a7 a8):ybM (ybQ e a0 a1 a2 a3 a4 a5 a6 a7 a8) 5 a yji false (yly a0 a1 a2 a3 a4 a5 a6 a7 a8):=fun _=>⟨fun _=>by kernel_rfl,fun _ _=>by kernel_rfl,fun _=>by kernel_rfl,fun _ _=>by kernel_rfl,trivial⟩
theorem yjy (e:Es) (he:EG e):LpT (Uni (E e)) (ybq yaU ya0 yaL yaS yaR yay ydp yaw yao) [] 34804802 (.loop 34804802 yji):=fun _ _ _=>ysB.st (Sub.uni _) (yaD (ybX e he) 5) (YOk.no _ _) (yam (by kernel_rfl)) (yr1 e _ _ _ _ _ _ _ _ _ _)
theorem yr2 (e:Es) (a0 a1 a2 a3 a4 a5 a6 a7 a8):ybM (ybQ e a0 a1 a2 a3 a4 a5 a6 a7 a8) 5 a yrd false (ylz a0 a1 a2 a3 a4 a5 a6 a7 a8):=fun _=>⟨fun _=>by kernel_rfl,fun _ _=>by kernel_rfl,fun _=>by kernel_rfl,fun _ _=>by kernel_rfl,fun _=>by kernel_rfl,fun _ _=>by kernel_rfl,fun _=>by kernel_rfl,fun _ _=>by kernel_rfl,fun _=>by kernel_rfl,fun _ _=>by kernel_rfl,fun _=>by kernel_rfl,fun _ _=>by kernel_rfl,trivial⟩
theorem yr3 (e:Es) (he:EG e):LpT (Uni (E e)) (ybq yaU ya0 yaL yaS yaR yay ydp yaw yao) [] 42112302 (.loop 42112302 yrd):=fun _ _ _=>ysB.st (Sub.uni _) (yaD (ybX e he) 5) (YOk.no _ _) (yam (by kernel_rfl)) (yr2 e _ _ _ _ _ _ _ _ _ _)
theorem yr4 (e:Es) (a0 a1 a2 a3 a4 a5 a6 a7 a8):ybM (ybQ e a0 a1 a2 a3 a4 a5 a6 a7 a8) 5 a yjj false (ylA a0 a1 a2 a3 a4 a5 a6 a7 a8):=fun _=>⟨fun _=>by kernel_rfl,fun _ _=>by kernel_rfl,fun _=>by kernel_rfl,fun _ _=>by kernel_rfl,fun _=>by kernel_rfl,fun _ _=>by kernel_rfl,fun _=>by kernel_rfl,fun _ _=>by kernel_rfl,fun _=>by kernel_rfl,fun _ _=>by kernel_rfl,fun _=>by kernel_rfl,fun _ _=>by kernel_rfl,trivial⟩
theorem yfS (e:Es) (he:EG e):LpT (Uni (E e)) (ybq yaU ya0 yaL yaS yaR yay ydp yaw yao) [] 58428500 (.loop 58428500 yjj):=fun _ _ _=>ysB.st (Sub.uni _) (yaD (ybX e he) 5) (YOk.no _ _) (yam (by kernel_rfl)) (yr4 e _ _ _ _ _ _ _ _ _ _)
theorem yr5 (e:Es) (a0 a1 a2 a3 a4 a5 a6 a7 a8):ybM (ybQ e a0 a1 a2 a3 a4 a5 a6 a7 a8) 5 a ymh false (ylB a0 a1 a2 a3 a4 a5 a6 a7 a8):=fun _=>⟨fun _=>by kernel_rfl,fun _ _=>by kernel_rfl,fun _=>by kernel_rfl,fun _ _=>by kernel_rfl,trivial⟩
theorem yjz (e:Es) (he:EG e):LpT (Uni (E e)) (ybq yaU ya0 yaL yaS yaR yay ydp yaw yao) [] 44419401 (.loop 44419401 ymh):=fun _ _ _=>ysB.st (Sub.uni _) (yaD (ybX e he) 5) (YOk.no _ _) (yaW (l:=[(44419400,.loop 44419400 yjg)]) ⟨yfR e he,trivial⟩ (by kernel_rfl)) (yr5 e _ _ _ _ _ _ _ _ _ _)
theorem yr8 (e:Es) (a0 a1 a2 a3 a4 a5 a6 a7 a8):ybM (ybQ e a0 a1 a2 a3 a4 a5 a6 a7 a8) 5 a ymi false (ylC a0 a1 a2 a3 a4 a5 a6 a7 a8):=fun _=>⟨fun _=>by kernel_rfl,fun _ _=>by kernel_rfl,fun _=>by kernel_rfl,fun _ _=>by kernel_rfl,fun _=>by kernel_rfl,fun _ _=>by kernel_rfl,fun _=>by kernel_rfl,fun _ _=>by kernel_rfl,fun _=>by kernel_rfl,fun _ _=>by kernel_rfl,fun _=>by kernel_rfl,fun _ _=>by kernel_rfl,trivial⟩
theorem yjA (e:Es) (he:EG e):LpT (Uni (E e)) (ybq yaU ya0 yaL yaS yaR yay ydp yaw yao) [] 58428501 (.loop 58428501 ymi):=fun _ _ _=>ysB.st (Sub.uni _) (yaD (ybX e he) 5) (YOk.no _ _) (yaW (l:=[(58428500,.loop 58428500 yjj)]) ⟨yfS e he,trivial⟩ (by kernel_rfl)) (yr8 e _ _ _ _ _ _ _ _ _ _)
theorem yw7 (e:Es) (he:EG e):SEOk (Uni (E e)) (yo5 e yaU ya0 yaL yaS yaR yay ydp yaw yao):=yas (Sub.uni _) ⟨(ydt e he),(ye5 e he),(yeS e he),(ygv e he),(yhm e he),(ykZ e he),(ysN e he),(yhc e he),(yhU e he),trivial⟩ ⟨⟨by kernel_rfl,by kernel_rfl,rfl,fun az=>ybs (by kernel_rfl) az,he.num _ (by kernel_rfl),by kernel_rfl,(yam (by kernel_rfl))⟩,⟨by kernel_rfl,by kernel_rfl,rfl,fun az=>ybs (by kernel_rfl) az,he.num _ (by kernel_rfl),by kernel_rfl,(yaW (l:=[(34804800,.loop 34804800 yjh),(34804802,.loop 34804802 yji)]) ⟨yjx e he,yjy e he,trivial⟩ (by kernel_rfl))⟩,⟨by kernel_rfl,by kernel_rfl,rfl,fun az=>ybs (by kernel_rfl) az,he.num _ (by kernel_rfl),by kernel_rfl,(yaW (l:=[(44419400,.loop 44419400 yjg),(44419401,.loop 44419401 ymh)]) ⟨yfR e he,yjz e he,trivial⟩ (by kernel_rfl))⟩,⟨by kernel_rfl,by kernel_rfl,rfl,fun az=>ybs (by kernel_rfl) az,he.num _ (by kernel_rfl),by kernel_rfl,(yam (by kernel_rfl))⟩,⟨by kernel_rfl,by kernel_rfl,rfl,fun az=>ybs (by kernel_rfl) az,he.num _ (by kernel_rfl),by kernel_rfl,(yaW (l:=[(58428500,.loop 58428500 yjj),(58428501,.loop 58428501 ymi)]) ⟨yfS e he,yjA e he,trivial⟩ (by kernel_rfl))⟩,trivial⟩ he.ok
theorem yr9 (e:Es) (a0 a1 a2 a3 a4 a5 a6 a7 a8):ybM (yo5 e a0 a1 a2 a3 a4 a5 a6 a7 a8) 5 a ymj false (ylD a0 a1 a2 a3 a4 a5 a6 a7 a8):=fun _=>⟨fun _=>by kernel_rfl,fun _ _=>by kernel_rfl,fun _=>by kernel_rfl,fun _ _=>by kernel_rfl,fun _=>by kernel_rfl,fun _ _=>by kernel_rfl,fun _=>by kernel_rfl,fun _ _=>by kernel_rfl,fun _=>by kernel_rfl,fun _ _=>by kernel_rfl,fun _=>by kernel_rfl,fun _ _=>by kernel_rfl,trivial⟩
theorem ysa (e:Es) (he:EG e):LpT (Uni (E e)) (ybq yaU ya0 yaL yaS yaR yay ydp yaw yao) [] 82372100 (.loop 82372100 ymj):=fun _ _ _=>ysB.st (Sub.uni _) (yaD (yw7 e he) 5) (YOk.no _ _) (yam (by kernel_rfl)) (yr9 e _ _ _ _ _ _ _ _ _ _)
theorem yw8 (e:Es) (he:EG e):SEOk (Uni (E e)) (yo6 e yaU ya0 yaL yaS yaR yay ydp yaw yao):=yas (Sub.uni _) ⟨(ydt e he),(ye5 e he),(yeS e he),(ygv e he),(yhm e he),(ykZ e he),(ysN e he),(yhc e he),(yhU e he),trivial⟩ ⟨⟨by kernel_rfl,by kernel_rfl,rfl,fun az=>ybs (by kernel_rfl) az,he.num _ (by kernel_rfl),by kernel_rfl,(yam (by kernel_rfl))⟩,⟨by kernel_rfl,by kernel_rfl,rfl,fun az=>ybs (by kernel_rfl) az,he.num _ (by kernel_rfl),by kernel_rfl,(yaW (l:=[(34804800,.loop 34804800 yjh),(34804802,.loop 34804802 yji)]) ⟨yjx e he,yjy e he,trivial⟩ (by kernel_rfl))⟩,⟨by kernel_rfl,by kernel_rfl,rfl,fun az=>ybs (by kernel_rfl) az,he.num _ (by kernel_rfl),by kernel_rfl,(yaW (l:=[(44419400,.loop 44419400 yjg),(44419401,.loop 44419401 ymh)]) ⟨yfR e he,yjz e he,trivial⟩ (by kernel_rfl))⟩,⟨by kernel_rfl,by kernel_rfl,rfl,fun az=>ybs (by kernel_rfl) az,he.num _ (by kernel_rfl),by kernel_rfl,(yam (by kernel_rfl))⟩,⟨by kernel_rfl,by kernel_rfl,rfl,fun az=>ybs (by kernel_rfl) az,he.num _ (by kernel_rfl),by kernel_rfl,(yaW (l:=[(82372100,.loop 82372100 ymj)]) ⟨ysa e he,trivial⟩ (by kernel_rfl))⟩,⟨by kernel_rfl,by kernel_rfl,rfl,fun az=>ybs (by kernel_rfl) az,he.num _ (by kernel_rfl),by kernel_rfl,(yaW (l:=[(58428500,.loop 58428500 yjj),(58428501,.loop 58428501 ymi)]) ⟨yfS e he,yjA e he,trivial⟩ (by kernel_rfl))⟩,trivial⟩ he.ok
theorem yza (e:Es) (a0 a1 a2 a3 a4 a5 a6 a7 a8):EqW (yo6 e a0 a1 a2 a3 a4 a5 a6 a7 a8) 6 yhl ytw (yjw a0 a1 a2 a3 a4 a5 a6 a7 a8):=fun _ _=>by kernel_rfl
theorem yzb (e:Es) (he:EG e):OkF (E e) (ytw.pw yaz) yhk:=okU he (yza e _ _ _ _ _ _ _ _ _) (yw8 e he) ynm.flat (yaW (l:=[(42112300,.loop 42112300 yrb),(42112301,.loop 42112301 yrc),(42112302,.loop 42112302 yrd)]) ⟨yrW e he,yrY e he,yr3 e he,trivial⟩ (by kernel_rfl))
def ybK (a0:yaZ) (a1:yac) (a2:ybI) (a:Ls→Ls→Ls→Ls→Int→Int→Int→Int→Int→Int→Bool→Prop):Nat→Ls→Ls→Ls→Ls→Int→Int→Int→Int→Int→Int→Prop
 | 0,_,_,_,_,_,_,_,_,_,_=>False
 | b+1,l0,l1,l2,l3,i6,i7,i8,i9,i10,i11 =>
 (cbr (decide (i11<i10))
 (asr (decide ((List.length l0)=(List.length l0)))
 (asr (decide ((0+(List.length l0))≤(List.length l0)))
 (asr (!(decide (((0+(List.length l0))+1)≤(List.length l0))))
 (asr (decide ((List.length l0)=(List.length l0)))
 (asr (decide ((((List.length l0)+1)+64)*(8+1)≤room))
 (lt (IntKind.i64.wrap (i11+(1:Int))) (fun c =>
 (asr (decide ((List.length (l0++([(.int .i64 i11)]:Ls)))=List.length (l0++([(.int .i64 i11)]:Ls)))&&decide ((List.length (l0++([(.int .i64 i11)]:Ls)))=List.length (l0++([(.int .i64 i11)]:Ls))))
 (ybK a0 a1 a2 a b (l0++([(.int .i64 i11)]:Ls)) l1 l2 l3 i6 i7 i8 i9 i10 c)))))))))
 (a l0 l1 l2 l3 i6 i7 i8 i9 i10 i11 false))
def yei (a0:yaZ) (a1:yac) (a2:ybI) (a:Ls→Ls→Ls→Int→Int→Int→Int→Int→Int→Bool→Prop) (b:Ls→Ls→Ls→Ls→Int→Int→Int→Int→Int→Int→Bool→Prop):Nat→Ls→Ls→Ls→Int→Int→Int→Int→Int→Int→Prop
 | 0,_,_,_,_,_,_,_,_,_=>False
 | c+1,l0,l1,l2,i3,i4,i5,i6,i7,i8 =>
 (cbr (decide (i8<i7))
 (lt (IntKind.i64.wrap (i8+(1:Int))) (fun d =>
 (asr (decide (1=List.length ([(.int .i64 i8)]:Ls))&&decide (1=List.length ([(.int .i64 i8)]:Ls)))
 (ybK a0 a1 a2 b c ([(.int .i64 i8)]:Ls) l0 l1 l2 i3 i4 i5 i6 i7 d))))
 (a l0 l1 l2 i3 i4 i5 i6 i7 i8 false))
def yfC (a0:yaZ) (a1:yac) (a2:ybI) (h:Ls→Ls→Ls→Nat→Nat→Nat→Ls→Ls→Nat→Nat→Bool→Prop) (j:Ls→Ls→Ls→Int→Prop):Nat→Ls→Ls→Ls→Nat→Nat→Nat→Ls→Ls→Nat→Nat→Prop
 | 0,_,_,_,_,_,_,_,_,_,_=>False
 | k+1,l0,l1,l2,n3,n4,n5,l6,l7,n8,n9 =>
 (cbr (decide (((n8:Nat):Int)>(0:Int)))
 (lt (IntKind.i64.wrap (((n8:Nat):Int)-(1:Int))) (fun e =>
 (asr (decide ((0:Int)≤e))
 (asr (decide (e<((n8:Nat):Int)))
 (asr (decide ((List.length l2)=n9))
 (asr (decide ((0+(e.toNat))<(List.length l2)))
 (lt (List.getD l2 (0+(e.toNat)) .nils) (fun a =>
 (asr (conf (.agg [.d,.i .i64,.i .i64,.i .i64,.i .i64]) a)
 (lt (IntKind.i64.wrap (((n8:Nat):Int)-(1:Int))) (fun b =>
 (asr (decide ((0:Int)≤b))
 (asr ((decide (b≤((n8:Nat):Int)))||(decide (b≤((n8:Nat):Int))))
 (cbr ((((List.length (yaX (yab a 0))):Nat):Int) ==(1:Int))
 (asr (decide ((0:Int)<(((List.length (yaX (yab a 0))):Nat):Int)))
 (lt (List.getD (yaX (yab a 0)) 0 .nils) (fun c =>
 (asr (conf zI c)
 (asr (decide ((0:Int)≤(yaa c)))
 (asr (decide ((yaa c)<((n3:Nat):Int)))
 (asr (decide ((List.length l0)=n4))
 (asr (decide ((0+((yaa c).toNat))<(List.length l0)))
 (lt (List.getD l0 (0+((yaa c).toNat)) .nils) (fun p =>
 (asr (conf zD p)
 (yfC a0 a1 a2 h j k (List.set l0 (0+((yaa c).toNat)) (.data ([(.agg [(.int .i64 (yaa (yab a 1))),(.int .i64 (yaa (yab a 2))),(.int .i64 (yaa (yab a 3))),(.int .i64 (yaa (yab a 4)))])]:Ls))) l1 l2 n3 n4 n5 l6 l7 ((b-(0:Int)).toNat) n9))))))))))))
 (a2 l6 l7 (yaX (yab a 0)) (yaa (yab a 1)) (yaa (yab a 2)) (yaa (yab a 3)) (yaa (yab a 4)) (fun q r f g l m n =>
 (cbr (n !=(0:Int))
 (j l0 l1 l2 n)
 (jn (fun (o:Ls→Nat→Prop) =>
 (asr (decide ((List.length l2)=n9))
 (asr (decide ((0+((b-(0:Int)).toNat))≤n9))
 (cbr (decide (((0+((b-(0:Int)).toNat))+2)≤n9))
 (o ((List.take (0+((b-(0:Int)).toNat)) l2)++(([(.agg [(.data m),(.int .i64 f),(.int .i64 g),(.int .i64 (yaa (yab a 3))),(.int .i64 (yaa (yab a 4)))]),(.agg [(.data l),(.int .i64 (yaa (yab a 1))),(.int .i64 (yaa (yab a 2))),(.int .i64 f),(.int .i64 g)])]:Ls)++(List.drop ((0+((b-(0:Int)).toNat))+2) l2))) n9)
 (asr (decide (((b-(0:Int)).toNat)≤n9))
 (asr (decide (((((b-(0:Int)).toNat)+2)+64)*(56+1)≤room))
 (o ((List.take ((b-(0:Int)).toNat) l2)++([(.agg [(.data m),(.int .i64 f),(.int .i64 g),(.int .i64 (yaa (yab a 3))),(.int .i64 (yaa (yab a 4)))]),(.agg [(.data l),(.int .i64 (yaa (yab a 1))),(.int .i64 (yaa (yab a 2))),(.int .i64 f),(.int .i64 g)])]:Ls)) (((b-(0:Int)).toNat)+2))))))))
 (fun s t=>(yfC a0 a1 a2 h j k l0 l1 s n3 n4 n5 q r (((b-(0:Int)).toNat)+2) t))))))))))))))))))))
 (h l0 l1 l2 n3 n4 n5 l6 l7 n8 n9 false))
def yfD (a0:yaZ) (a1:yac) (a2:ybI) (k:Ls→Ls→Nat→Nat→Nat→Ls→Ls→Nat→Nat→Bool→Prop) (l:Ls→Ls→Int→Prop) (m:Ls→Ls→Ls→Nat→Nat→Nat→Ls→Ls→Nat→Nat→Bool→Prop) (n:Ls→Ls→Ls→Int→Prop):Nat→Ls→Ls→Nat→Nat→Nat→Ls→Ls→Nat→Nat→Prop
 | 0,_,_,_,_,_,_,_,_,_=>False
 | o+1,l0,l1,n2,n3,n4,l5,l6,n7,n9 =>
 (cbr (decide (((n7:Nat):Int)>(0:Int)))
 (lt (IntKind.i64.wrap (((n7:Nat):Int)-(1:Int))) (fun j =>
 (asr (decide ((0:Int)≤j))
 (asr (decide (j<((n7:Nat):Int)))
 (asr (decide ((List.length l1)=(List.length l1)))
 (asr (decide ((0+(j.toNat))<(List.length l1)))
 (lt (List.getD l1 (0+(j.toNat)) .nils) (fun a =>
 (asr (conf (.agg [.d,.i .i64,.i .i64,.i .i64,.i .i64]) a)
 (lt (IntKind.i64.wrap (((n7:Nat):Int)-(1:Int))) (fun b =>
 (asr (decide ((0:Int)≤b))
 (asr ((decide (b≤((n7:Nat):Int)))||(decide (b≤((n9:Nat):Int))))
 (cbr ((((List.length (yaX (yab a 0))):Nat):Int) ==(1:Int))
 (asr (decide ((0:Int)<(((List.length (yaX (yab a 0))):Nat):Int)))
 (lt (List.getD (yaX (yab a 0)) 0 .nils) (fun f =>
 (asr (conf zI f)
 (asr (decide ((0:Int)≤(yaa f)))
 (asr (decide ((yaa f)<((n2:Nat):Int)))
 (asr (decide ((List.length l0)=n3))
 (asr (decide ((0+((yaa f).toNat))<(List.length l0)))
 (lt (List.getD l0 (0+((yaa f).toNat)) .nils) (fun s =>
 (asr (conf zD s)
 (asr (decide ((List.length l1)=List.length l1))
 (yfD a0 a1 a2 k l m n o (List.set l0 (0+((yaa f).toNat)) (.data ([(.agg [(.int .i64 (yaa (yab a 1))),(.int .i64 (yaa (yab a 2))),(.int .i64 (yaa (yab a 3))),(.int .i64 (yaa (yab a 4)))])]:Ls))) l1 n2 n3 n4 l5 l6 ((b-(0:Int)).toNat) (n9-0))))))))))))))
 (a2 l5 l6 (yaX (yab a 0)) (yaa (yab a 1)) (yaa (yab a 2)) (yaa (yab a 3)) (yaa (yab a 4)) (fun p q c e g h r =>
 (cbr (r !=(0:Int))
 (l l0 l1 r)
 (asr (decide ((List.length l1)=(List.length l1)))
 (asr (decide ((0+((b-(0:Int)).toNat))≤(List.length l1)))
 (cbr (decide ((((b-(0:Int)).toNat)+2)≤(n9-0)))
 (asr (decide ((List.length l1)=List.length ((List.take (0+((b-(0:Int)).toNat)) l1)++(([(.agg [(.data h),(.int .i64 c),(.int .i64 e),(.int .i64 (yaa (yab a 3))),(.int .i64 (yaa (yab a 4)))]),(.agg [(.data g),(.int .i64 (yaa (yab a 1))),(.int .i64 (yaa (yab a 2))),(.int .i64 c),(.int .i64 e)])]:Ls)++(List.drop ((0+((b-(0:Int)).toNat))+2) l1)))))
 (yfD a0 a1 a2 k l m n o l0 ((List.take (0+((b-(0:Int)).toNat)) l1)++(([(.agg [(.data h),(.int .i64 c),(.int .i64 e),(.int .i64 (yaa (yab a 3))),(.int .i64 (yaa (yab a 4)))]),(.agg [(.data g),(.int .i64 (yaa (yab a 1))),(.int .i64 (yaa (yab a 2))),(.int .i64 c),(.int .i64 e)])]:Ls)++(List.drop ((0+((b-(0:Int)).toNat))+2) l1))) n2 n3 n4 p q (((b-(0:Int)).toNat)+2) (n9-0)))
 (asr (decide (((List.length ((List.take ((b-(0:Int)).toNat) l1)++([(.agg [(.data h),(.int .i64 c),(.int .i64 e),(.int .i64 (yaa (yab a 3))),(.int .i64 (yaa (yab a 4)))]),(.agg [(.data g),(.int .i64 (yaa (yab a 1))),(.int .i64 (yaa (yab a 2))),(.int .i64 c),(.int .i64 e)])]:Ls)))+64)*(56+1)≤room))
 (yfC a0 a1 a2 m n o l0 l1 ((List.take ((b-(0:Int)).toNat) l1)++([(.agg [(.data h),(.int .i64 c),(.int .i64 e),(.int .i64 (yaa (yab a 3))),(.int .i64 (yaa (yab a 4)))]),(.agg [(.data g),(.int .i64 (yaa (yab a 1))),(.int .i64 (yaa (yab a 2))),(.int .i64 c),(.int .i64 e)])]:Ls)) n2 n3 n4 p q (List.length ((List.take ((b-(0:Int)).toNat) l1)++([(.agg [(.data h),(.int .i64 c),(.int .i64 e),(.int .i64 (yaa (yab a 3))),(.int .i64 (yaa (yab a 4)))]),(.agg [(.data g),(.int .i64 (yaa (yab a 1))),(.int .i64 (yaa (yab a 2))),(.int .i64 c),(.int .i64 e)])]:Ls))) (List.length ((List.take ((b-(0:Int)).toNat) l1)++([(.agg [(.data h),(.int .i64 c),(.int .i64 e),(.int .i64 (yaa (yab a 3))),(.int .i64 (yaa (yab a 4)))]),(.agg [(.data g),(.int .i64 (yaa (yab a 1))),(.int .i64 (yaa (yab a 2))),(.int .i64 c),(.int .i64 e)])]:Ls)))))))))))))))))))))))))
 (k l0 l1 n2 n3 n4 l5 l6 n7 n9 false))
def yaE (a0:yaZ) (a1:yac) (a2:ybI) (h:Ls→Ls→Ls→Ls→Nat→Nat→Nat→Ls→Ls→Nat→Nat→Bool→Prop) (j:Ls→Ls→Ls→Ls→Int→Prop):Nat→Ls→Ls→Ls→Ls→Nat→Nat→Nat→Ls→Ls→Nat→Nat→Prop
 | 0,_,_,_,_,_,_,_,_,_,_,_=>False
 | k+1,l0,l1,l2,l3,n4,n5,n6,l7,l8,n9,n10 =>
 (cbr (decide (((n9:Nat):Int)>(0:Int)))
 (lt (IntKind.i64.wrap (((n9:Nat):Int)-(1:Int))) (fun e =>
 (asr (decide ((0:Int)≤e))
 (asr (decide (e<((n9:Nat):Int)))
 (asr (decide ((List.length l3)=n10))
 (asr (decide ((0+(e.toNat))<(List.length l3)))
 (lt (List.getD l3 (0+(e.toNat)) .nils) (fun a =>
 (asr (conf (.agg [.d,.i .i64,.i .i64,.i .i64,.i .i64]) a)
 (lt (IntKind.i64.wrap (((n9:Nat):Int)-(1:Int))) (fun b =>
 (asr (decide ((0:Int)≤b))
 (asr ((decide (b≤((n9:Nat):Int)))||(decide (b≤((n9:Nat):Int))))
 (cbr ((((List.length (yaX (yab a 0))):Nat):Int) ==(1:Int))
 (asr (decide ((0:Int)<(((List.length (yaX (yab a 0))):Nat):Int)))
 (lt (List.getD (yaX (yab a 0)) 0 .nils) (fun c =>
 (asr (conf zI c)
 (asr (decide ((0:Int)≤(yaa c)))
 (asr (decide ((yaa c)<((n4:Nat):Int)))
 (asr (decide ((List.length l1)=n5))
 (asr (decide ((0+((yaa c).toNat))<(List.length l1)))
 (lt (List.getD l1 (0+((yaa c).toNat)) .nils) (fun p =>
 (asr (conf zD p)
 (yaE a0 a1 a2 h j k l0 (List.set l1 (0+((yaa c).toNat)) (.data ([(.agg [(.int .i64 (yaa (yab a 1))),(.int .i64 (yaa (yab a 2))),(.int .i64 (yaa (yab a 3))),(.int .i64 (yaa (yab a 4)))])]:Ls))) l2 l3 n4 n5 n6 l7 l8 ((b-(0:Int)).toNat) n10))))))))))))
 (a2 l7 l8 (yaX (yab a 0)) (yaa (yab a 1)) (yaa (yab a 2)) (yaa (yab a 3)) (yaa (yab a 4)) (fun q r f g l m n =>
 (cbr (n !=(0:Int))
 (j l0 l1 l2 l3 n)
 (jn (fun (o:Ls→Nat→Prop) =>
 (asr (decide ((List.length l3)=n10))
 (asr (decide ((0+((b-(0:Int)).toNat))≤n10))
 (cbr (decide (((0+((b-(0:Int)).toNat))+2)≤n10))
 (o ((List.take (0+((b-(0:Int)).toNat)) l3)++(([(.agg [(.data m),(.int .i64 f),(.int .i64 g),(.int .i64 (yaa (yab a 3))),(.int .i64 (yaa (yab a 4)))]),(.agg [(.data l),(.int .i64 (yaa (yab a 1))),(.int .i64 (yaa (yab a 2))),(.int .i64 f),(.int .i64 g)])]:Ls)++(List.drop ((0+((b-(0:Int)).toNat))+2) l3))) n10)
 (asr (decide (((b-(0:Int)).toNat)≤n10))
 (asr (decide (((((b-(0:Int)).toNat)+2)+64)*(56+1)≤room))
 (o ((List.take ((b-(0:Int)).toNat) l3)++([(.agg [(.data m),(.int .i64 f),(.int .i64 g),(.int .i64 (yaa (yab a 3))),(.int .i64 (yaa (yab a 4)))]),(.agg [(.data l),(.int .i64 (yaa (yab a 1))),(.int .i64 (yaa (yab a 2))),(.int .i64 f),(.int .i64 g)])]:Ls)) (((b-(0:Int)).toNat)+2))))))))
 (fun s t=>(yaE a0 a1 a2 h j k l0 l1 l2 s n4 n5 n6 q r (((b-(0:Int)).toNat)+2) t))))))))))))))))))))
 (h l0 l1 l2 l3 n4 n5 n6 l7 l8 n9 n10 false))
def ya8 (a0:yaZ) (a1:yac) (a2:ybI) (k:Ls→Ls→Ls→Nat→Nat→Nat→Ls→Ls→Nat→Nat→Bool→Prop) (l:Ls→Ls→Ls→Int→Prop) (m:Ls→Ls→Ls→Ls→Nat→Nat→Nat→Ls→Ls→Nat→Nat→Bool→Prop) (n:Ls→Ls→Ls→Ls→Int→Prop):Nat→Ls→Ls→Ls→Nat→Nat→Nat→Ls→Ls→Nat→Nat→Prop
 | 0,_,_,_,_,_,_,_,_,_,_=>False
 | o+1,l0,l1,l2,n3,n4,n5,l6,l7,n8,n10 =>
 (cbr (decide (((n8:Nat):Int)>(0:Int)))
 (lt (IntKind.i64.wrap (((n8:Nat):Int)-(1:Int))) (fun j =>
 (asr (decide ((0:Int)≤j))
 (asr (decide (j<((n8:Nat):Int)))
 (asr (decide ((List.length l2)=(List.length l2)))
 (asr (decide ((0+(j.toNat))<(List.length l2)))
 (lt (List.getD l2 (0+(j.toNat)) .nils) (fun a =>
 (asr (conf (.agg [.d,.i .i64,.i .i64,.i .i64,.i .i64]) a)
 (lt (IntKind.i64.wrap (((n8:Nat):Int)-(1:Int))) (fun b =>
 (asr (decide ((0:Int)≤b))
 (asr ((decide (b≤((n8:Nat):Int)))||(decide (b≤((n10:Nat):Int))))
 (cbr ((((List.length (yaX (yab a 0))):Nat):Int) ==(1:Int))
 (asr (decide ((0:Int)<(((List.length (yaX (yab a 0))):Nat):Int)))
 (lt (List.getD (yaX (yab a 0)) 0 .nils) (fun f =>
 (asr (conf zI f)
 (asr (decide ((0:Int)≤(yaa f)))
 (asr (decide ((yaa f)<((n3:Nat):Int)))
 (asr (decide ((List.length l1)=n4))
 (asr (decide ((0+((yaa f).toNat))<(List.length l1)))
 (lt (List.getD l1 (0+((yaa f).toNat)) .nils) (fun s =>
 (asr (conf zD s)
 (asr (decide ((List.length l2)=List.length l2))
 (ya8 a0 a1 a2 k l m n o l0 (List.set l1 (0+((yaa f).toNat)) (.data ([(.agg [(.int .i64 (yaa (yab a 1))),(.int .i64 (yaa (yab a 2))),(.int .i64 (yaa (yab a 3))),(.int .i64 (yaa (yab a 4)))])]:Ls))) l2 n3 n4 n5 l6 l7 ((b-(0:Int)).toNat) (n10-0))))))))))))))
 (a2 l6 l7 (yaX (yab a 0)) (yaa (yab a 1)) (yaa (yab a 2)) (yaa (yab a 3)) (yaa (yab a 4)) (fun p q c e g h r =>
 (cbr (r !=(0:Int))
 (l l0 l1 l2 r)
 (asr (decide ((List.length l2)=(List.length l2)))
 (asr (decide ((0+((b-(0:Int)).toNat))≤(List.length l2)))
 (cbr (decide ((((b-(0:Int)).toNat)+2)≤(n10-0)))
 (asr (decide ((List.length l2)=List.length ((List.take (0+((b-(0:Int)).toNat)) l2)++(([(.agg [(.data h),(.int .i64 c),(.int .i64 e),(.int .i64 (yaa (yab a 3))),(.int .i64 (yaa (yab a 4)))]),(.agg [(.data g),(.int .i64 (yaa (yab a 1))),(.int .i64 (yaa (yab a 2))),(.int .i64 c),(.int .i64 e)])]:Ls)++(List.drop ((0+((b-(0:Int)).toNat))+2) l2)))))
 (ya8 a0 a1 a2 k l m n o l0 l1 ((List.take (0+((b-(0:Int)).toNat)) l2)++(([(.agg [(.data h),(.int .i64 c),(.int .i64 e),(.int .i64 (yaa (yab a 3))),(.int .i64 (yaa (yab a 4)))]),(.agg [(.data g),(.int .i64 (yaa (yab a 1))),(.int .i64 (yaa (yab a 2))),(.int .i64 c),(.int .i64 e)])]:Ls)++(List.drop ((0+((b-(0:Int)).toNat))+2) l2))) n3 n4 n5 p q (((b-(0:Int)).toNat)+2) (n10-0)))
 (asr (decide (((List.length ((List.take ((b-(0:Int)).toNat) l2)++([(.agg [(.data h),(.int .i64 c),(.int .i64 e),(.int .i64 (yaa (yab a 3))),(.int .i64 (yaa (yab a 4)))]),(.agg [(.data g),(.int .i64 (yaa (yab a 1))),(.int .i64 (yaa (yab a 2))),(.int .i64 c),(.int .i64 e)])]:Ls)))+64)*(56+1)≤room))
 (yaE a0 a1 a2 m n o l0 l1 l2 ((List.take ((b-(0:Int)).toNat) l2)++([(.agg [(.data h),(.int .i64 c),(.int .i64 e),(.int .i64 (yaa (yab a 3))),(.int .i64 (yaa (yab a 4)))]),(.agg [(.data g),(.int .i64 (yaa (yab a 1))),(.int .i64 (yaa (yab a 2))),(.int .i64 c),(.int .i64 e)])]:Ls)) n3 n4 n5 p q (List.length ((List.take ((b-(0:Int)).toNat) l2)++([(.agg [(.data h),(.int .i64 c),(.int .i64 e),(.int .i64 (yaa (yab a 3))),(.int .i64 (yaa (yab a 4)))]),(.agg [(.data g),(.int .i64 (yaa (yab a 1))),(.int .i64 (yaa (yab a 2))),(.int .i64 c),(.int .i64 e)])]:Ls))) (List.length ((List.take ((b-(0:Int)).toNat) l2)++([(.agg [(.data h),(.int .i64 c),(.int .i64 e),(.int .i64 (yaa (yab a 3))),(.int .i64 (yaa (yab a 4)))]),(.agg [(.data g),(.int .i64 (yaa (yab a 1))),(.int .i64 (yaa (yab a 2))),(.int .i64 c),(.int .i64 e)])]:Ls)))))))))))))))))))))))))
 (k l0 l1 l2 n3 n4 n5 l6 l7 n8 n10 false))
def yiy (a0:yaZ) (a1:yac) (a2:ybI) (p0:Ls) (K:Ls→Ls→Int→Prop):Prop :=
 (a0 p0 (fun A B e =>
 (cbr (e !=(0:Int))
 (K ([]:Ls) ([]:Ls) e)
 (asr (decide ((0:Int)<(((List.length p0):Nat):Int)))
 (lt (List.getD p0 0 .nils) (fun f =>
 (asr (conf zK f)
 (a1 (yaa (yab f 0)) (fun C D =>
 (a1 (0:Int) (fun E F =>
 (∃ G:Nat,yei a0 a1 a2
 (fun b H I g h i j _ _ _=>(asr (decide ((0:Int)≤(((List.length b):Nat):Int)))
 (asr (decide ((((List.length b):Nat):Int)≤(((List.length b):Nat):Int)))
 (asr (decide (((List.length b)+64)*(24+1)≤room))
 (asr (decide (1=List.length ([(.agg [(.data ([]:Ls)),(.int .i64 g),(.int .i64 h),(.int .i64 i),(.int .i64 j)])]:Ls)))
 (∃ d:Nat,yfD a0 a1 a2
 (fun k _ l m _ _ J _ _ _=>(asr (decide ((List.length k)=m))
 (asr (decide ((0+l)≤m))
 (K (List.take l k) J (0:Int)))))
 (fun _ _ L=>(K ([]:Ls) ([]:Ls) L))
 (fun n _ _ o p _ _ M _ _ _=>(asr (decide ((List.length n)=p))
 (asr (decide ((0+o)≤p))
 (K (List.take o n) M (0:Int)))))
 (fun _ _ _ N=>(K ([]:Ls) ([]:Ls) N))
 d (List.replicate (List.length b) ((.data []):PV)) ([(.agg [(.data ([]:Ls)),(.int .i64 g),(.int .i64 h),(.int .i64 i),(.int .i64 j)])]:Ls) (List.length b) (List.length b) (List.length b) H I 1 1))))))
 (fun a c O Q q r s t _ _ _=>(asr (decide ((0:Int)≤(((List.length c):Nat):Int)))
 (asr (decide ((((List.length c):Nat):Int)≤(((List.length c):Nat):Int)))
 (asr (decide (((List.length c)+64)*(24+1)≤room))
 (asr (decide ((List.length a)=(List.length a)))
 (asr (decide ((0+(List.length a))≤(List.length a)))
 (asr (decide (1=List.length ([(.agg [(.data (List.take (List.length a) a)),(.int .i64 q),(.int .i64 r),(.int .i64 s),(.int .i64 t)])]:Ls)))
 (∃ d:Nat,ya8 a0 a1 a2
 (fun _ u _ v w _ _ R _ _ _=>(asr (decide ((List.length u)=w))
 (asr (decide ((0+v)≤w))
 (K (List.take v u) R (0:Int)))))
 (fun _ _ _ S=>(K ([]:Ls) ([]:Ls) S))
 (fun _ x _ _ y z _ _ T _ _ _=>(asr (decide ((List.length x)=z))
 (asr (decide ((0+y)≤z))
 (K (List.take y x) T (0:Int)))))
 (fun _ _ _ _ U=>(K ([]:Ls) ([]:Ls) U))
 d a (List.replicate (List.length c) ((.data []):PV)) ([(.agg [(.data (List.take (List.length a) a)),(.int .i64 q),(.int .i64 r),(.int .i64 s),(.int .i64 t)])]:Ls) (List.length c) (List.length c) (List.length c) O Q 1 1))))))))
 G p0 A B E F C D (((List.length p0):Nat):Int) (0:Int)))))))))))))
def yga:yaZ:=yiy yfJ yaL yaz
def yw9 (Q:Qx):Ls→Ls→Ls→Int→Int→Int→Int→Int→Int→Bool→Prop:=(fun l0 l1 l2 i3 i4 i5 i6 i7 i8 b9=>Q (.exit 0) [(0,.v (.data l0)),(2,.box (.agg [.nils])),(5,.box (.agg [(.data l1),(.data l2)])),(6,.box (.agg [.nils,(.int .i64 i3),(.int .i64 i4),(.int .i64 i5),(.int .i64 i6)])),(32,.v (.int .i64 i7)),(33,.v (.int .i64 i8)),(34,.v (.bool b9))] [])
def ynE (Q:Qx):Ls→Ls→Ls→Ls→Int→Int→Int→Int→Int→Int→Bool→Prop:=(fun l0 l1 l2 l3 i6 i7 i8 i9 i10 i11 b12=>Q (.exit 0) [(0,.v (.data l1)),(2,.box (.agg [.nils])),(5,.box (.agg [(.data l2),(.data l3)])),(6,.box (.agg [(.own 0 0 (List.length l0) (List.length l0) none),(.int .i64 i6),(.int .i64 i7),(.int .i64 i8),(.int .i64 i9)])),(32,.v (.int .i64 i10)),(33,.v (.int .i64 i11)),(34,.v (.bool b12))] [⟨false,true,1,l0⟩])
def yxa (Q:Qx):Ls→Ls→Nat→Nat→Nat→Ls→Ls→Nat→Nat→Bool→Prop:=(fun l0 l1 n2 n3 n4 l5 l6 n7 n9 b10=>Q (.exit 2) [(2,.box (.agg [(.own 0 0 n2 n3 (some n4))])),(5,.box (.agg [(.data l5),(.data l6)])),(8,.v (.own 1 0 n7 (List.length l1) (some n9))),(51,.v (.bool b10))] [⟨false,true,1,l0⟩,⟨false,true,5,l1⟩])
def yxb (Q:Qx):Ls→Ls→Int→Prop:=(fun l0 l1 i2=>Q .ret [(2,.box (.agg [.nils])),(3,.v .nils),(4,.v (.int .i64 i2))] [⟨false,true,1,l0⟩,⟨false,true,5,l1⟩])
def ynF (Q:Qx):Ls→Ls→Ls→Nat→Nat→Nat→Ls→Ls→Nat→Nat→Bool→Prop:=(fun l0 l1 l2 n3 n4 n5 l6 l7 n8 n9 b10=>Q (.exit 2) [(2,.box (.agg [(.own 0 0 n3 n4 (some n5))])),(5,.box (.agg [(.data l6),(.data l7)])),(8,.v (.own 2 0 n8 n9 none)),(51,.v (.bool b10))] [⟨false,true,1,l0⟩,⟨false,true,5,l1⟩,⟨false,true,5,l2⟩])
def ynG (Q:Qx):Ls→Ls→Ls→Int→Prop:=(fun l0 l1 l2 i3=>Q .ret [(2,.box (.agg [.nils])),(3,.v .nils),(4,.v (.int .i64 i3))] [⟨false,true,1,l0⟩,⟨false,true,5,l1⟩,⟨false,true,5,l2⟩])
def yxc (Q:Qx):Ls→Ls→Ls→Nat→Nat→Nat→Ls→Ls→Nat→Nat→Bool→Prop:=(fun l0 l1 l2 n3 n4 n5 l6 l7 n8 n10 b11=>Q (.exit 2) [(2,.box (.agg [(.own 1 0 n3 n4 (some n5))])),(5,.box (.agg [(.data l6),(.data l7)])),(8,.v (.own 2 0 n8 (List.length l2) (some n10))),(51,.v (.bool b11))] [⟨true,true,1,l0⟩,⟨false,true,1,l1⟩,⟨false,true,5,l2⟩])
def yxd (Q:Qx):Ls→Ls→Ls→Int→Prop:=(fun l0 l1 l2 i3=>Q .ret [(2,.box (.agg [.nils])),(3,.v .nils),(4,.v (.int .i64 i3))] [⟨true,true,1,l0⟩,⟨false,true,1,l1⟩,⟨false,true,5,l2⟩])
def ynH (Q:Qx):Ls→Ls→Ls→Ls→Nat→Nat→Nat→Ls→Ls→Nat→Nat→Bool→Prop:=(fun l0 l1 l2 l3 n4 n5 n6 l7 l8 n9 n10 b11=>Q (.exit 2) [(2,.box (.agg [(.own 1 0 n4 n5 (some n6))])),(5,.box (.agg [(.data l7),(.data l8)])),(8,.v (.own 3 0 n9 n10 none)),(51,.v (.bool b11))] [⟨true,true,1,l0⟩,⟨false,true,1,l1⟩,⟨false,true,5,l2⟩,⟨false,true,5,l3⟩])
def ynI (Q:Qx):Ls→Ls→Ls→Ls→Int→Prop:=(fun l0 l1 l2 l3 i4=>Q .ret [(2,.box (.agg [.nils])),(3,.v .nils),(4,.v (.int .i64 i4))] [⟨true,true,1,l0⟩,⟨false,true,1,l1⟩,⟨false,true,5,l2⟩,⟨false,true,5,l3⟩])
def yo7 (a0:yaZ) (a1:yac) (a2:ybI) (Q:Qx):List St:=[⟨(pS hN (fV 0 vD (fX 2 pt32 (fX 5 pt19 (fX 6 (vA (lC vNs pt26)) (fV 32 pt2 (fV 33 pt2 fN)))))) fN),yei a0 a1 a2 (yw9 Q) (ynE Q)⟩,⟨(pS pt31 (fV 0 vD (fX 2 pt32 (fX 5 pt19 (fX 6 (vA (lC pt21 pt26)) (fV 32 pt2 (fV 33 pt2 fN)))))) fN),ybK a0 a1 a2 (ynE Q)⟩]
def pt51:HPt:=hB false true 1 rA (hB false true 5 rA hN)
def pt52:VPt:=vA (lC (vO 0 (nK 0) nV nV nV) lN)
def pt53:HPt:=hB false true 1 rA (hB false true 5 rA (hB false true 5 rA hN))
def pt54:VPt:=vA (lC (vO 1 (nK 0) nV nV nV) lN)
def yo8 (a0:yaZ) (a1:yac) (a2:ybI) (Q:Qx):List St:=[⟨(pS pt51 (fX 2 pt52 (fX 5 pt19 (fV 8 (vO 1 (nK 0) nV (nT 1) nV) fN))) fN),yfD a0 a1 a2 (yxa Q) (yxb Q) (ynF Q) (ynG Q)⟩,⟨(pS pt53 (fX 2 pt52 (fX 5 pt19 (fV 8 pt47 fN))) fN),yfC a0 a1 a2 (ynF Q) (ynG Q)⟩,⟨(pS (hB true true 1 rA pt51) (fX 2 pt54 (fX 5 pt19 (fV 8 (vO 2 (nK 0) nV (nT 2) nV) fN))) fN),ya8 a0 a1 a2 (yxc Q) (yxd Q) (ynH Q) (ynI Q)⟩,⟨(pS (hB true true 1 rA pt53) (fX 2 pt54 (fX 5 pt19 (fV 8 (vW 3 (nK 0) nV nV) fN))) fN),yaE a0 a1 a2 (ynH Q) (ynI Q)⟩]
def ync (a0:yaZ) (a1:yac) (a2:ybI):LP:=lpS [(682800,yo7 a0 a1 a2),(682801,yo8 a0 a1 a2)]
def yiz (e:Es) (a0:yaZ) (a1:yac) (a2:ybI):SE:=sE (E e) [(ylY,ywa.pw a0),(ycR,ykJ.pw a1),(yhk,ytw.pw a2)] (ync a0 a1 a2)
theorem yk1 (e:Es) (he:EG e):SEOk (Uni (E e)) (yiz e yfJ yaL yaz):=yas (Sub.uni _) ⟨(yEs e he),(yeS e he),(yzb e he),trivial⟩ trivial he.ok
theorem yvs (e:Es) (a0 a1 a2):ybM (yiz e a0 a1 a2) 5 a yyu false (yo7 a0 a1 a2):=fun _=>⟨fun _=>by kernel_rfl,fun _ _=>by kernel_rfl,fun _=>by kernel_rfl,fun _ _=>by kernel_rfl,trivial⟩
theorem yvt (e:Es) (he:EG e):LpT (Uni (E e)) (ync yfJ yaL yaz) [] 682800 (.loop 682800 yyu):=fun _ _ _=>ysB.st (Sub.uni _) (yaD (yk1 e he) 5) (YOk.no _ _) (yam (by kernel_rfl)) (yvs e _ _ _ _)
theorem yvu (e:Es) (a0 a1 a2):ybM (yiz e a0 a1 a2) 5 a yyv false (yo8 a0 a1 a2):=fun _=>⟨fun _=>by kernel_rfl,fun _ _=>by kernel_rfl,fun _=>by kernel_rfl,fun _ _=>by kernel_rfl,fun _=>by kernel_rfl,fun _ _=>by kernel_rfl,fun _=>by kernel_rfl,fun _ _=>by kernel_rfl,trivial⟩
theorem yvv (e:Es) (he:EG e):LpT (Uni (E e)) (ync yfJ yaL yaz) [] 682801 (.loop 682801 yyv):=fun _ _ _=>ysB.st (Sub.uni _) (yaD (yk1 e he) 5) (YOk.no _ _) (yam (by kernel_rfl)) (yvu e _ _ _ _)
theorem yC6 (e:Es) (a0 a1 a2):EqW (yiz e a0 a1 a2) 6 yn9 yyU (yiy a0 a1 a2):=fun _ _=>by kernel_rfl
theorem yC7 (e:Es) (he:EG e):OkF (E e) (yyU.pw yga) yjU:=okU he (yC6 e _ _ _) (yk1 e he) ynm.flat (yaW (l:=[(682800,.loop 682800 yyu),(682801,.loop 682801 yyv)]) ⟨yvt e he,yvv e he,trivial⟩ (by kernel_rfl))
abbrev yxe:Type:=Ls→Int→(Bool→Prop)→Prop
def yhd (a0:yg9) (a1:yac) (a2:yac) (a3:yaZ) (a4:yaZ) (a5:ybx) (a6:ybx) (p0:Ls) (p1:Int) (K:Bool→Prop):Prop :=
 (a0 p0 (fun b =>
 (cbr b
 (K true)
 (a1 p1 (fun c d =>
 (a2 p1 (fun e f =>
 (a3 p0 (fun g h i =>
 (a4 p0 (fun j k l =>
 (jn (fun (a:Bool→Prop) =>
 (cbr (c == e)
 (cbr (d == f)
 (a5 g j (fun m =>
 (cbr m
 (a6 h k (fun n =>
 (cbr n
 (a (i == l))
 (a false))))
 (a false))))
 (a false))
 (a false)))
 (fun o=>(K o))))))))))))))
def yfE:yxe:=yhd yc3 yhu yf8 yga yf9 yeR ycC
def yvw:Sg:=⟨(lC vD pt3),Bool→Prop,fun K=>(fun r0=>K (.bool r0))⟩
def yvx (e:Es) (a0:yg9) (a1:yac) (a2:yac) (a3:yaZ) (a4:yaZ) (a5:ybx) (a6:ybx):SE:=sE (E e) [(yeY,ytn.pw a0),(yhj,ytq.pw a1),(yjQ,ytq.pw a2),(yjU,yyU.pw a3),(ypu,yyU.pw a4),(ymg,yEX.pw a5),(ygm,ynx.pw a6)] lp0
theorem yvy (e:Es) (a0 a1 a2 a3 a4 a5 a6):EqW (yvx e a0 a1 a2 a3 a4 a5 a6) 6 ywx yvw (yhd a0 a1 a2 a3 a4 a5 a6):=fun _ _=>by kernel_rfl
theorem yvz (e:Es) (he:EG e):OkF (E e) (yvw.pw yfE) yhP:=okU he (yvy e _ _ _ _ _ _ _) (yas (Sub.uni _) ⟨(yka e he),(yy5 e he),(yts e he),(yC7 e he),(yyY e he),(ywm e he),(ynz e he),trivial⟩ trivial he.ok) ynm.flat (yam (by kernel_rfl))
def I64 (n:Int):Prop:=-9223372036854775808≤n∧n≤9223372036854775807
def U64 (n:Int):Prop:=0≤n∧n≤18446744073709551615
theorem yh6 (n:Int):IntKind.u64.wrap n=n % 18446744073709551616:=by
 simp only [IntKind.wrap,IntKind.signed,IntKind.bits,Bool.false_and,qAu,if_false]
 rfl
theorem yL8 (n:Int):IntKind.i64.wrap n=if n % 18446744073709551616≥9223372036854775808 then n % 18446744073709551616-18446744073709551616 else n % 18446744073709551616:=by
 have e1:(2:Int) ^ 64=18446744073709551616:=rfl
 have e2:(2:Int) ^ (64-1)=9223372036854775808:=rfl
 simp only [IntKind.wrap,IntKind.signed,IntKind.bits,Bool.true_and,e1,e2]
 by_cases h:n % 18446744073709551616≥9223372036854775808 <;> simp [h]
theorem wu64 {n:Int} (h:U64 n):IntKind.u64.wrap n=n:=by
 unfold U64 at h
 rw [yh6]
 omega
theorem wi64 {n:Int} (h:I64 n):IntKind.i64.wrap n=n:=by
 unfold I64 at h
 rw [yL8]
 split <;> omega
theorem yag {x y:Prop}:cbr true x y=x:=rfl
theorem yad {x y:Prop}:cbr false x y=y:=rfl
theorem yaG {x:Prop}:asr true x=x:=rfl
theorem yhv {p:Int} (h:I64 p) (K:Int→Prop):ydq p K=K (p.natAbs:Int):=by
 unfold I64 at h
 unfold ydq ykB
 by_cases hp:p<0
 ·have e:IntKind.u64.wrap ((0:Int)-IntKind.u64.wrap p)=(p.natAbs:Int):=by
   rw [yh6,yh6]
   omega
  rw [decide_eq_true hp,yag,e]
 ·rw [decide_eq_false hp,yad,wu64 ⟨by omega,by omega⟩]
  congr 1
  omega
theorem yE0 (x:Int→Int→Bool→Prop):∀ (n a b:Nat),b<n→yeh x n (a:Int) (b:Int)=x ((Nat.gcd a b:Nat):Int) 0 false
 | 0,a,b,h=>by omega
 | n+1,a,b,h=>by
  unfold yeh
  by_cases hb:b=0
  ·subst hb
   simp [cbr]
  ·have h1:(b:Int)>0:=by omega
   have h2:¬((b:Int)=0):=by omega
   rw [decide_eq_true h1,yag,decide_eq_false h2,qA3,yaG]
   have e:Int.tmod (a:Int) (b:Int)=((a % b:Nat):Int):=by rw [Int.tmod_eq_emod_of_nonneg (by omega)];omega
   rw [e,yE0 x n b (a % b) (by have:=Nat.mod_lt a (show b>0 by omega);omega)]
   rw [Nat.gcd_comm a b,Nat.gcd_rec b a,Nat.gcd_comm]
theorem yvA (a b:Nat) (K:Int→Prop) (h:K ((Nat.gcd a b:Nat):Int)):ycu (a:Int) (b:Int) K:=by
 unfold ycu ymm
 exact ⟨b+1,by rw [yE0 _ (b+1) a b (by omega)];exact h⟩
def RV (n d:Int):Prop:=1≤d∧d≤1000000000000000000∧-1000000000000000000≤n∧n≤1000000000000000000∧Nat.gcd n.natAbs d.natAbs=1
instance (n d:Int):Decidable (RV n d):=by unfold RV;infer_instance
def chk (n d:Int):Int:=if RV n d then 0 else 8
theorem yzc {n d:Int} (hn:I64 n) (hd:I64 d) {K:Int→Prop} (h:K (chk n d)):ybA n d K:=by
 unfold ybA yjk
 by_cases h1:d<1
 ·have e:chk n d=8:=if_neg fun h=>by have:=h.1;omega
  rw [decide_eq_true h1,yag,← e];exact h
 ·have hd':=hd;have hn':=hn
  unfold I64 at hd' hn'
  have ed:IntKind.u64.wrap d=((d.natAbs:Nat):Int):=by rw [wu64 ⟨by omega,by omega⟩];omega
  rw [decide_eq_false h1,yad,yhv hn,ed]
  by_cases h2:((if ((d.natAbs:Nat):Int)>((n.natAbs:Nat):Int) then ((d.natAbs:Nat):Int) else ((n.natAbs:Nat):Int))>1000000000000000000)
  ·have e:chk n d=8:=if_neg fun h=>by
    obtain ⟨a1,a2,a3,a4,_⟩:=h
    revert h2;split <;> omega
   rw [decide_eq_true h2,yag,← e];exact h
  ·rw [decide_eq_false h2,yad,yhv hn]
   refine yvA _ _ _ ?_
   have h3:0<Nat.gcd n.natAbs d.natAbs:=qBb _ (by omega)
   have h4:d≤1000000000000000000∧-1000000000000000000≤n∧n≤1000000000000000000:=by
    revert h2;split <;> omega
   by_cases h5:((Nat.gcd n.natAbs d.natAbs:Nat):Int)>1
   ·have e:chk n d=8:=if_neg fun h=>by have:=h.2.2.2.2;omega
    rw [decide_eq_true h5,yag,← e];exact h
   ·have e:chk n d=0:=if_pos ⟨by omega,h4.1,h4.2.1,h4.2.2,by omega⟩
    rw [decide_eq_false h5,yad,← e];exact h
theorem ynd {p:Int} (h:U64 p):IntKind.u64.wrap (BitVec.ofInt IntKind.u64.bits p&&&BitVec.ofInt IntKind.u64.bits (4294967295:Int)).toNat=p % 4294967296:=by
 unfold U64 at h
 have e1:(BitVec.ofInt 64 p).toNat=p.toNat:=by
  rw [BitVec.toNat_ofInt];omega
 have e2:(BitVec.ofInt 64 (4294967295:Int)).toNat=4294967295:=rfl
 have e3:(BitVec.ofInt IntKind.u64.bits p&&&BitVec.ofInt IntKind.u64.bits (4294967295:Int)).toNat=p.toNat % 4294967296:=by
  show (BitVec.ofInt 64 p&&&BitVec.ofInt 64 (4294967295:Int)).toNat=_
  rw [BitVec.toNat_and,e1,e2]
  exact Nat.and_two_pow_sub_one_eq_mod p.toNat 32
 rw [e3,yh6]
 omega
theorem yJm (p:Int):Int.fdiv p 4294967296=p / 4294967296:=by
 rw [Int.fdiv_eq_ediv_of_nonneg _ (by omega)]
theorem yjB {a b:Int} (ha:U64 a) (hb:U64 b) (K:Int→Int→Prop):ye4 a b K=K (a*b / 18446744073709551616) (a*b % 18446744073709551616):=by
 unfold ye4 yrz
 simp only [yJm]
 rw [ynd ha,ynd hb]
 unfold U64 at ha hb
 have ha':=ha;have hb':=hb
 obtain ⟨x1,hx1⟩:∃ x,x=a / 4294967296:=⟨_,rfl⟩
 obtain ⟨x0,hx0⟩:∃ x,x=a % 4294967296:=⟨_,rfl⟩
 obtain ⟨y1,hy1⟩:∃ x,x=b / 4294967296:=⟨_,rfl⟩
 obtain ⟨y0,hy0⟩:∃ x,x=b % 4294967296:=⟨_,rfl⟩
 rw [← hx1,← hx0,← hy1,← hy0]
 have b1:0≤x1∧x1≤4294967295:=by omega
 have b2:0≤x0∧x0≤4294967295:=by omega
 have b3:0≤y1∧y1≤4294967295:=by omega
 have b4:0≤y0∧y0≤4294967295:=by omega
 have pb:∀ x y:Int,0≤x∧x≤4294967295→0≤y∧y≤4294967295→0≤x*y∧x*y≤18446744065119617025:=by
  intro x y hx hy
  refine ⟨qBc hx.1 hy.1,?_⟩
  have:=qCb hx.2 hy.2 hy.1 (by omega:(0:Int)≤4294967295)
  omega
 have p1:=pb x1 y1 b1 b3
 have p2:=pb x1 y0 b1 b4
 have p3:=pb x0 y1 b2 b3
 have p4:=pb x0 y0 b2 b4
 have ea:a=x1*4294967296+x0:=by omega
 have eb:b=y1*4294967296+y0:=by omega
 have eab:a*b=x1*y1*18446744073709551616+x1*y0*4294967296+x0*y1*4294967296+x0*y0:=by
  rw [ea,eb];grind
 obtain ⟨P,hP⟩:∃ x,x=x1*y1:=⟨_,rfl⟩
 obtain ⟨Q,hQ⟩:∃ x,x=x1*y0:=⟨_,rfl⟩
 obtain ⟨R,hR⟩:∃ x,x=x0*y1:=⟨_,rfl⟩
 obtain ⟨S,hS⟩:∃ x,x=x0*y0:=⟨_,rfl⟩
 rw [← hP] at p1;rw [← hQ] at p2;rw [← hR] at p3;rw [← hS] at p4
 rw [← hP,← hQ,← hR,← hS] at eab ⊢
 have w1:IntKind.u64.wrap S=S:=wu64 ⟨by omega,by omega⟩
 have w2:IntKind.u64.wrap Q=Q:=wu64 ⟨by omega,by omega⟩
 have w3:IntKind.u64.wrap R=R:=wu64 ⟨by omega,by omega⟩
 have w4:IntKind.u64.wrap P=P:=wu64 ⟨by omega,by omega⟩
 rw [w1,w2,w3,w4]
 have w5:IntKind.u64.wrap (Q+S / 4294967296)=Q+S / 4294967296:=wu64 ⟨by omega,by omega⟩
 rw [w5,ynd ⟨by omega,by omega⟩]
 have w6:IntKind.u64.wrap ((Q+S / 4294967296) % 4294967296+R)=(Q+S / 4294967296) % 4294967296+R:=wu64 ⟨by omega,by omega⟩
 rw [w6]
 have w7:IntKind.u64.wrap (P+(Q+S / 4294967296) / 4294967296)=P+(Q+S / 4294967296) / 4294967296:=by
  have:a*b / 18446744073709551616≤18446744073709551615:=by
   have h1:a*b≤18446744073709551615*18446744073709551615:=by
    have:=qCb ha'.2 hb'.2 hb'.1 (by omega:(0:Int)≤18446744073709551615)
    exact this
   omega
  exact wu64 ⟨by omega,by omega⟩
 rw [w7]
 have hab:a*b≤18446744073709551615*18446744073709551615:=qCb ha'.2 hb'.2 hb'.1 (by omega:(0:Int)≤18446744073709551615)
 rw [eab] at hab ⊢
 rw [yh6,yh6]
 congr 1
 omega
theorem yLH {a b:Int} {K:Int→Prop} (h:K (if a=0 then b else a)):yed [.int .i64 a,.int .i64 b] K:=by
 unfold yed yff
 refine ⟨3,?_⟩
 have e1:IntKind.i64.wrap 1=1:=by decide
 have e2:IntKind.i64.wrap 2=2:=by decide
 by_cases ha:a=0
 ·by_cases hb:b=0
  ·simp [ybL,yag,yad,yaG,conf,ynl,yaa,e1,e2,ha,hb] at h ⊢;exact h
  ·have e3:(b != 0)=true:=by simpa using hb
   simp [ybL,yag,yad,yaG,conf,ynl,yaa,e1,e2,ha,e3] at h ⊢;exact h
 ·have e3:(a != 0)=true:=by simpa using ha
  simp [ybL,yag,yad,yaG,conf,ynl,yaa,e1,e2,ha,e3] at h ⊢;exact h
def chk2 (a b c d:Int):Int:=if chk a b=0 then chk c d else chk a b
theorem yo9 {a b c d:Int} (ha:I64 a) (hb:I64 b) (hc:I64 c) (hd:I64 d) {K:Int→Prop} (h:K (chk2 a b c d)):ycT a b c d K:=by
 unfold ycT yjl
 exact yzc ha hb (yzc hc hd (yLH h))
def cmp3 (a b:Int):Int:=if a<b then -1 else if a>b then 1 else 0
theorem yC8 (a b:Int) (K:Int→Prop):ydM a b K=K (cmp3 a b):=by
 unfold ydM yeL
 simp only [ygn,yfH,bne_self_eq_false,yad,cmp3]
 by_cases h:a<b
 ·simp [h,yag]
 ·by_cases h2:a>b
  ·simp [h,h2,yag,yad]
  ·simp [h,h2,yad]
theorem yt1 (a b:Int) (K:Int→Prop):ydr a b K=K (cmp3 a b):=by
 unfold ydr yeq
 simp only [yfI,yfh,bne_self_eq_false,yad,cmp3]
 by_cases h:a<b
 ·simp [h,yag]
 ·by_cases h2:a>b
  ·simp [h,h2,yag,yad]
  ·simp [h,h2,yad]
theorem yKz {a b:Int} {K:Int→Prop} (h:K (if a=0 then b else a)):yim [.int .i64 a,.int .i64 b] K:=by
 unfold yim ykC
 refine ⟨3,?_⟩
 have e1:IntKind.i64.wrap 1=1:=by decide
 have e2:IntKind.i64.wrap 2=2:=by decide
 by_cases ha:a=0
 ·by_cases hb:b=0
  ·simp [ycY,yag,yad,yaG,conf,ynl,yaa,e1,e2,ha,hb] at h ⊢;exact h
  ·have e3:(b != 0)=true:=by simpa using hb
   simp [ycY,yag,yad,yaG,conf,ynl,yaa,e1,e2,ha,e3] at h ⊢;exact h
 ·have e3:(a != 0)=true:=by simpa using ha
  simp [ycY,yag,yad,yaG,conf,ynl,yaa,e1,e2,ha,e3] at h ⊢;exact h
theorem ye9 {a b c d:Int}:chk2 a b c d=0↔RV a b∧RV c d:=by
 unfold chk2 chk
 by_cases h1:RV a b <;> by_cases h2:RV c d <;> simp [h1,h2]
def cmpR (a b c d:Int):Int:=cmp3 (a*d) (c*b)
theorem yIl {x y:Int} (_:0≤x) (_:0≤y):(if cmp3 (x / 18446744073709551616) (y / 18446744073709551616)=0 then cmp3 (x % 18446744073709551616) (y % 18446744073709551616) else cmp3 (x / 18446744073709551616) (y / 18446744073709551616))=cmp3 x y:=by
 unfold cmp3
 split <;> rename_i h <;> revert h <;> repeat' split <;> intro h <;> omega
theorem U64.abs {n:Int} (h:I64 n):U64 ((n.natAbs:Nat):Int):=by unfold I64 at h;unfold U64;omega
theorem yLI {a b c d:Int} (ha:I64 a) (hb:I64 b) (hc:I64 c) (hd:I64 d) {K:Int→Int→Prop} (h:K (if chk2 a b c d=0 then cmpR a b c d else 0) (chk2 a b c d)):ya0 a b c d K:=by
 unfold ya0 ymq
 refine yo9 ha hb hc hd ?_
 by_cases hk:chk2 a b c d=0
 ·rw [if_pos hk] at h
  rw [hk] at h ⊢
  obtain ⟨⟨b1,b2,a1,a2,_⟩,d1,d2,c1,c2,_⟩:=ye9.1 hk
  simp only [bne_self_eq_false,yad]
  by_cases hs:decide (a<0)=decide (c<0)
  ·have e:(decide (a<0) != decide (c<0))=false:=by rw [hs];simp
   rw [e,yad,yhv ha,wu64 ⟨by omega,by omega⟩,yjB (U64.abs ha) ⟨by omega,by omega⟩,yhv hc,wu64 ⟨by omega,by omega⟩,yjB (U64.abs hc) ⟨by omega,by omega⟩,yt1,yt1]
   refine yKz ?_
   have p1:0≤((a.natAbs:Nat):Int)*d:=qBc (by omega) (by omega)
   have p2:0≤((c.natAbs:Nat):Int)*b:=qBc (by omega) (by omega)
   rw [yIl p1 p2]
   by_cases hneg:a<0
   ·have hcn:c<0:=by simpa [hneg] using hs.symm
    rw [decide_eq_true hneg,yag]
    have e1:((a.natAbs:Nat):Int)*d=-(a*d):=by
     rw [show ((a.natAbs:Nat):Int)=-a by omega,Int.neg_mul]
    have e2:((c.natAbs:Nat):Int)*b=-(c*b):=by
     rw [show ((c.natAbs:Nat):Int)=-c by omega,Int.neg_mul]
    have e3:IntKind.i64.wrap (0-cmp3 (((a.natAbs:Nat):Int)*d) (((c.natAbs:Nat):Int)*b))=cmpR a b c d:=by
     rw [e1,e2]
     unfold cmpR cmp3
     rw [wi64 (by unfold I64;repeat' split <;> omega)]
     repeat' split <;> omega
    rw [e3];exact h
   ·have hcn:¬c<0:=by simpa [hneg] using hs.symm
    rw [decide_eq_false hneg,yad,show ((a.natAbs:Nat):Int)=a by omega,show ((c.natAbs:Nat):Int)=c by omega]
    exact h
  ·have e:(decide (a<0) != decide (c<0))=true:=by simpa using hs
   rw [e,yag,yC8]
   have e2:cmp3 a c=cmpR a b c d:=by
    unfold cmpR cmp3
    by_cases hneg:a<0
    ·have hcn:¬c<0:=by intro hcn;simp [hneg,hcn] at hs
     have q1:a*d<0:=qB6 hneg (by omega)
     have q2:0≤c*b:=qBc (by omega) (by omega)
     rw [if_pos (by omega),if_pos (by omega)]
    ·have hcn:c<0:=by
      by_cases hcn:c<0
      ·exact hcn
      ·simp [hneg,hcn] at hs
     have q1:c*b<0:=qB6 hcn (by omega)
     have q2:0≤a*d:=qBc (by omega) (by omega)
     rw [if_neg (by omega),if_pos (by omega),if_neg (by omega),if_pos (by omega)]
   rw [e2];exact h
 ·rw [if_neg hk] at h
  have e:(chk2 a b c d != 0)=true:=by simpa using hk
  rw [e,yag];exact h
def blen (x:Nat):Nat:=if x=0 then 0 else x.log2+1
theorem yHl (x:Nat):x<2 ^ blen x:=by
 unfold blen
 split
 ·rename_i h;subst h;decide
 ·exact Nat.lt_log2_self
theorem yxn {x:Nat} (h:x≠0):2 ^ (blen x-1)≤x:=by
 unfold blen
 rw [if_neg h]
 exact Nat.log2_self_le h
theorem yKA {x m:Nat} (h1:2 ^ m≤x) (h2:x<2 ^ (m+1)):blen x=m+1:=by
 have hx:x≠0:=by have:=Nat.two_pow_pos m;omega
 unfold blen
 rw [if_neg hx]
 congr 1
 have a:=Nat.log2_self_le hx
 have b:=Nat.lt_log2_self (n:=x)
 have c1:¬(x.log2<m):=fun h=>by
  have:=Nat.pow_le_pow_right (show 0<2 by omega) (show x.log2+1≤m by omega)
  omega
 have c2:¬(m<x.log2):=fun h=>by
  have:=Nat.pow_le_pow_right (show 0<2 by omega) (show m+1≤x.log2 by omega)
  omega
 omega
theorem yJn {x k:Nat} (h:2 ^ k≤x):blen x=k+blen (x / 2 ^ k):=by
 have hp:=Nat.two_pow_pos k
 have hq:x / 2 ^ k≠0:=by
  have:=Nat.div_pos h hp
  omega
 have h1:=yxn hq
 have h2:=yHl (x / 2 ^ k)
 obtain ⟨m,hm⟩:∃ m,blen (x / 2 ^ k)=m+1:=⟨blen (x / 2 ^ k)-1,by
  have:blen (x / 2 ^ k)≠0:=by unfold blen;rw [if_neg hq];omega
  omega⟩
 rw [hm] at h1 h2 ⊢
 rw [Nat.add_sub_cancel] at h1
 have:=yKA (x:=x) (m:=k+m) (by
   rw [Nat.pow_add]
   calc 2 ^ k*2 ^ m≤2 ^ k*(x / 2 ^ k):=Nat.mul_le_mul_left _ h1
    _≤x:=Nat.mul_div_le _ _) (by
   rw [show k+m+1=k+(m+1) by omega,Nat.pow_add]
   rw [Nat.mul_comm]
   exact (Nat.div_lt_iff_lt_mul hp).1 h2)
 omega
theorem yLJ:∀ x:Nat,x<256→yaa (List.getD ygk x .nils)=(blen x:Int):=by decide +kernel
theorem wu8 {n:Int} (h0:0≤n) (h1:n<256):IntKind.u8.wrap n=n:=by
 have e1:(2:Int) ^ 8=256:=rfl
 simp only [IntKind.wrap,IntKind.signed,IntKind.bits,Bool.false_and,qAu,if_false,e1]
 omega
theorem yKB {n:Int} (h0:0≤n) (h1:n<256):yaa (List.getD ygk (IntKind.u8.wrap n).toNat .nils)=(blen n.toNat:Int):=by
 rw [wu8 h0 h1]
 exact yLJ n.toNat (by omega)
theorem yL9 {n:Nat} (h:n<256):blen n≤8:=by
 by_cases h0:n=0
 ·subst h0;decide
 ·have:=yxn h0
  have h2:blen n-1<8:=by
   refine Nat.lt_of_not_le fun hc=>?_
   have:=Nat.pow_le_pow_right (show 0<2 by omega) hc
   omega
  omega
theorem ywn {n k:Int} (h0:0≤n) (h1:n<256) (hk:0≤k∧k≤56) {m:Int} (hm:m=k+blen n.toNat) {K:Int→Prop} (h:K m) :
  asr (decide ((0:Int)≤(IntKind.u8.wrap n))) (asr (decide ((IntKind.u8.wrap n)<(256:Int))) (K (IntKind.i64.wrap (k+(IntKind.i64.wrap (yaa (List.getD ygk ((IntKind.u8.wrap n).toNat) .nils))))))):=by
 have hb:=yL9 (n:=n.toNat) (by omega)
 have e1:IntKind.i64.wrap (blen n.toNat:Int)=blen n.toNat:=wi64 (by unfold I64;omega)
 have e2:IntKind.i64.wrap (k+blen n.toNat:Int)=k+blen n.toNat:=wi64 (by unfold I64;omega)
 rw [yKB h0 h1,wu8 h0 h1,decide_eq_true h0,yaG,decide_eq_true h1,yaG,e1,e2,← hm]
 exact h
theorem ywo (p q:Int) (hq:0≤q):Int.fdiv p q=p / q:=Int.fdiv_eq_ediv_of_nonneg _ hq
theorem yE1 {p:Int} (hp:U64 p) {K:Int→Prop} (h:K (blen p.toNat:Int)):yg0 p K:=by
 unfold U64 at hp
 unfold yg0 yrt
 simp only [ywo _ 4294967296 (by omega),ywo _ 65536 (by omega),ywo _ 256 (by omega)]
 have key:∀ (k:Nat) (q:Int),2 ^ k≤p.toNat→q=p / (2 ^ k:Nat)→(blen p.toNat:Int)=k+blen q.toNat:=by
  intro k q hk hq
  have e:q.toNat=p.toNat / 2 ^ k:=by
   rw [hq]
   obtain ⟨m,rfl⟩:∃ m:Nat,p=m:=⟨p.toNat,by omega⟩
   rw [← qA0,qAh,qAh]
  rw [e]
  have:=yJn hk
  omega
 by_cases h1:p≥4294967296
 ·rw [decide_eq_true h1,yag]
  by_cases h2:p / 4294967296≥65536
  ·rw [decide_eq_true h2,yag]
   by_cases h3:p / 4294967296 / 65536≥256
   ·rw [decide_eq_true h3,yag]
    exact ywn (by omega) (by omega) (by omega) (key 56 _ (by omega) (by omega)) h
   ·rw [decide_eq_false h3,yad]
    exact ywn (by omega) (by omega) (by omega) (key 48 _ (by omega) (by omega)) h
  ·rw [decide_eq_false h2,yad]
   by_cases h3:p / 4294967296≥256
   ·rw [decide_eq_true h3,yag]
    exact ywn (by omega) (by omega) (by omega) (key 40 _ (by omega) (by omega)) h
   ·rw [decide_eq_false h3,yad]
    exact ywn (by omega) (by omega) (by omega) (key 32 _ (by omega) (by omega)) h
 ·rw [decide_eq_false h1,yad]
  by_cases h2:p≥65536
  ·rw [decide_eq_true h2,yag]
   by_cases h3:p / 65536≥256
   ·rw [decide_eq_true h3,yag]
    exact ywn (by omega) (by omega) (by omega) (key 24 _ (by omega) (by omega)) h
   ·rw [decide_eq_false h3,yad]
    exact ywn (by omega) (by omega) (by omega) (key 16 _ (by omega) (by omega)) h
  ·rw [decide_eq_false h2,yad]
   by_cases h3:p≥256
   ·rw [decide_eq_true h3,yag]
    exact ywn (by omega) (by omega) (by omega) (key 8 _ (by omega) (by omega)) h
   ·rw [decide_eq_false h3,yad]
    exact ywn (by omega) (by omega) (by omega) (by simp) h
theorem yt2 {p:Int} (hp:U64 p) {K:Int→Prop} (h:K (64-blen p.toNat:Int)):ybG p K:=by
 unfold ybG yfi
 refine yE1 hp ?_
 have hb:blen p.toNat≤64:=by
  unfold U64 at hp
  by_cases h0:p.toNat=0
  ·rw [h0];decide
  ·have:=yxn h0
   have h2:blen p.toNat-1<64:=by
    refine Nat.lt_of_not_le fun hc=>?_
    have:=Nat.pow_le_pow_right (show 0<2 by omega) hc
    omega
   omega
 rw [wi64 (by unfold I64;omega)]
 exact h
structure DI (y a b u un q r:Int):Prop where
 hy:y=a*4294967296+b
 h1:2147483648≤a∧a≤4294967295
 h0:0≤b∧b≤4294967295
 hn:0≤un∧un≤4294967295
 hu:q*a+r=u
 hq:0≤q∧q≤4294967297
 hr:0≤r∧r≤4294967295
 hlt:u<y
 hU:u*4294967296+un<(q+1)*y
def DG (y u un q:Int):Prop:=0≤q∧q≤4294967295∧q*y≤u*4294967296+un∧u*4294967296+un<(q+1)*y
theorem DI.step {y a b u un q r:Int} (h:DI y a b u un q r) {A B C:Prop}
  (hA:DG y u un (q-1)→0≤q-1→q-1≤4294967296→A)
  (hB:DI y a b u un (q-1) (r+a)→B)
  (hC:DG y u un q→C) :
  cbr (decide (q≥(4294967296:Int)))
   (cbr (decide ((IntKind.u64.wrap (r+a))≥(4294967296:Int))) A B)
   (cbr (decide ((IntKind.u64.wrap (q*b))>(IntKind.u64.wrap ((IntKind.u64.wrap ((4294967296:Int)*r))+un))))
    (cbr (decide ((IntKind.u64.wrap (r+a))≥(4294967296:Int))) A B) C):=by
 have h':=h
 obtain ⟨hy,h1,h0,hn,hu,hq,hr,hlt,hU⟩:=h
 have e1:IntKind.u64.wrap (r+a)=r+a:=wu64 ⟨by omega,by omega⟩
 have eq1:q*y=q*a*4294967296+q*b:=by rw [hy];grind
 have eq2:(q-1)*y=q*y-y:=by grind
 have eq3:(q-1)*a=q*a-a:=by grind
 have eq4:(q-1+1)*y=q*y:=by grind
 have eq5:(q-1)*b=q*b-b:=by grind
 have big:u*4294967296+un<q*y→cbr (decide ((IntKind.u64.wrap (r+a))≥(4294967296:Int))) A B:=by
  intro hb
  have q1:0≤q-1:=by
   refine Int.not_lt.1 fun hc=>?_
   have hq0:q=0:=by omega
   subst hq0
   simp at hb hu
   omega
  rw [e1]
  by_cases hc:r+a≥4294967296
  ·rw [decide_eq_true hc,yag]
   have hp:(q-1)*b≤4294967296*4294967295:=qCb (by omega) h0.2 h0.1 (by omega)
   have hle:(q-1)*y≤u*4294967296+un:=by
    have:(q-1)*y=(q-1)*a*4294967296+(q-1)*b:=by rw [hy];grind
    omega
   have hlt32:q-1≤4294967295:=by
    refine Int.not_lt.1 fun hc=>?_
    have:4294967296*y≤(q-1)*y:=qAn (by omega) (by omega)
    omega
   exact hA ⟨q1,hlt32,hle,by rw [eq4];exact hb⟩ q1 (by omega)
  ·rw [decide_eq_false hc,yad]
   exact hB ⟨hy,h1,h0,hn,by rw [eq3];omega,⟨q1,by omega⟩,⟨by omega,by omega⟩,hlt,by rw [eq4];exact hb⟩
 by_cases ha:q≥4294967296
 ·rw [decide_eq_true ha,yag]
  refine big ?_
  have:4294967296*y≤q*y:=qAn (by omega) (by omega)
  omega
 ·rw [decide_eq_false ha,yad]
  have hp:q*b≤4294967295*4294967295:=qCb (by omega) h0.2 h0.1 (by omega)
  have hp0:0≤q*b:=qBc hq.1 h0.1
  have w1:IntKind.u64.wrap (q*b)=q*b:=wu64 ⟨hp0,by omega⟩
  have w2:IntKind.u64.wrap ((4294967296:Int)*r)=4294967296*r:=wu64 ⟨by omega,by omega⟩
  have w3:IntKind.u64.wrap ((4294967296:Int)*r+un)=4294967296*r+un:=wu64 ⟨by omega,by omega⟩
  rw [w1,w2,w3]
  by_cases hb:q*b>4294967296*r+un
  ·rw [decide_eq_true hb,yag]
   exact big (by omega)
  ·rw [decide_eq_false hb,yad]
   exact hC ⟨hq.1,by omega,by omega,hU⟩
theorem yMa (W:Int→(Int→Prop)→Prop) {y a c u un:Int} (s v un0:Int) {x0 x1:Int→Int→Int→Int→Int→Int→Int→Int→Int→Bool→Prop}
  (hx:∀ q r b,DG y u un q→x0 y s a c v un un0 q r b) (hx1:∀ q r b,DG y u un q→x1 y s a c v un un0 q r b) :
  ∀ (n:Nat) (q r:Int) (b:Bool),DI y a c u un q r→4294967296≤r+n*2147483648→ycU W x0 x1 (n+1) y s a c v un un0 q r b:=by
 intro n
 induction n with
 | zero =>
  intro q r b h hn
  have:=h.hr.2
  exact absurd hn (by omega)
 | succ n ih =>
  intro q r b h hn
  unfold ycU
  refine h.step (fun g a1 a2=>?_) (fun g=>?_) (fun g=>hx1 _ _ _ g)
  ·rw [wu64 (n:=q-1) ⟨by omega,by omega⟩]
   exact hx _ _ _ g
  ·have e1:IntKind.u64.wrap (q-1)=q-1:=wu64 ⟨g.hq.1,by have:=g.hq.2;omega⟩
   have e2:IntKind.u64.wrap (r+a)=r+a:=wu64 ⟨g.hr.1,by have:=g.hr.2;omega⟩
   rw [e1,e2]
   exact ih _ _ _ g (by have:=h.h1.1;omega)
theorem yMb (W:Int→(Int→Prop)→Prop) {y a c u un:Int} (s q1 v:Int) {x0 x1:Int→Int→Int→Int→Int→Int→Int→Int→Int→Bool→Prop}
  (hx:∀ q r b,DG y u un q→x0 y s a c un q1 r v q b) (hx1:∀ q r b,DG y u un q→x1 y s a c un q1 r v q b) :
  ∀ (n:Nat) (q r:Int) (b:Bool),DI y a c u un q r→4294967296≤r+n*2147483648→ycV W x0 x1 (n+1) y s a c un q1 r v q b:=by
 intro n
 induction n with
 | zero =>
  intro q r b h hn
  have:=h.hr.2
  exact absurd hn (by omega)
 | succ n ih =>
  intro q r b h hn
  unfold ycV
  refine h.step (fun g a1 a2=>?_) (fun g=>?_) (fun g=>hx1 _ _ _ g)
  ·rw [wu64 (n:=q-1) ⟨by omega,by omega⟩]
   exact hx _ _ _ g
  ·have e1:IntKind.u64.wrap (q-1)=q-1:=wu64 ⟨g.hq.1,by have:=g.hq.2;omega⟩
   have e2:IntKind.u64.wrap (r+a)=r+a:=wu64 ⟨g.hr.1,by have:=g.hr.2;omega⟩
   rw [e1,e2]
   exact ih _ _ _ g (by have:=h.h1.1;omega)
theorem yLK (W:Int→(Int→Prop)→Prop) {y a c u un:Int} (s v un0:Int) {x0 x1:Int→Int→Int→Int→Int→Int→Int→Int→Int→Bool→Prop}
  (hx:∀ q r b,DG y u un q→x0 y s a c v un un0 q r b) (hx1:∀ q r b,DG y u un q→x1 y s a c v un un0 q r b) (q r:Int) (h:DI y a c u un q r):yhn W x0 x1 3 y s a c v un un0 q r:=by
 have:=yMa W s v un0 hx hx1 2 q r true h (by have:=h.hr.1;omega)
 unfold ycU at this
 unfold yhn
 exact this
theorem yLL (W:Int→(Int→Prop)→Prop) {y a c u un:Int} (s q1 v:Int) {x0 x1:Int→Int→Int→Int→Int→Int→Int→Int→Int→Bool→Prop}
  (hx:∀ q r b,DG y u un q→x0 y s a c un q1 r v q b) (hx1:∀ q r b,DG y u un q→x1 y s a c un q1 r v q b) (q r:Int) (h:DI y a c u un q r):yem W x0 x1 3 y s a c un q1 r v q:=by
 have:=yMb W s q1 v hx hx1 2 q r true h (by have:=h.hr.1;omega)
 unfold ycV at this
 unfold yem
 exact this
theorem DI.init {y a b u un:Int} (hy:y=a*4294967296+b) (h1:2147483648≤a∧a≤4294967295) (h0:0≤b∧b≤4294967295) (hn:0≤un∧un≤4294967295)
  (hu:0≤u) (hlt:u<y):DI y a b u un (u / a) (u-u / a*a):=by
 have a1:=Int.mul_ediv_add_emod u a
 have a2:=Int.emod_nonneg u (show a≠0 by omega)
 have a3:=Int.emod_lt_of_pos u (show 0<a by omega)
 have a4:u / a*a=a*(u / a):=Int.mul_comm _ _
 have a5:0≤u / a:=qCc hu (by omega)
 have a6:u / a≤4294967297:=by
  refine Int.not_lt.1 fun hc=>?_
  have:a*4294967298≤a*(u / a):=Int.mul_le_mul_of_nonneg_left (by omega) (by omega)
  omega
 refine ⟨hy,h1,h0,hn,by omega,⟨a5,a6⟩,⟨by omega,by omega⟩,hlt,?_⟩
 have e:(u / a+1)*y=a*(u / a)*4294967296+a*4294967296+(u / a+1)*b:=by
  obtain ⟨t,ht⟩:∃ t,t=u / a:=⟨_,rfl⟩
  rw [← ht,hy];grind
 have:0≤(u / a+1)*b:=qBc (by omega) h0.1
 omega
theorem yJo {a b:Int} {k:Nat} (ha:0≤a) (hb:0≤b∧b<2 ^ k) (hab:a*2 ^ k≤18446744073709551615∧b≤18446744073709551615) (hs:a*2 ^ k+b≤18446744073709551615) :
  IntKind.u64.wrap (BitVec.ofInt IntKind.u64.bits (a*2 ^ k)|||BitVec.ofInt IntKind.u64.bits b).toNat=a*2 ^ k+b:=by
 obtain ⟨x,rfl⟩:∃ x:Nat,a=x:=⟨a.toNat,by omega⟩
 obtain ⟨z,rfl⟩:∃ z:Nat,b=z:=⟨b.toNat,by omega⟩
 have ec:((x:Int)*2 ^ k)=((2 ^ k*x:Nat):Int):=by push_cast;exact Int.mul_comm _ _
 rw [ec] at hab hs ⊢
 have hz:z<2 ^ k:=by have:=hb.2;exact_mod_cast this
 have e:(BitVec.ofInt IntKind.u64.bits ((2 ^ k*x:Nat):Int)|||BitVec.ofInt IntKind.u64.bits (z:Int)).toNat=2 ^ k*x+z:=by
  show (BitVec.ofInt 64 ((2 ^ k*x:Nat):Int)|||BitVec.ofInt 64 (z:Int)).toNat=_
  rw [BitVec.toNat_or,BitVec.toNat_ofInt,BitVec.toNat_ofInt]
  have e1:(((2 ^ k*x:Nat):Int) % (2 ^ 64:Nat)).toNat=2 ^ k*x:=by omega
  have e2:((z:Int) % (2 ^ 64:Nat)).toNat=z:=by omega
  rw [e1,e2,Nat.two_pow_add_eq_or_of_lt hz]
 rw [e,wu64 ⟨by omega,by omega⟩]
 push_cast;rfl
theorem yHm {u un q y:Int} (h0:0≤u*4294967296+un-q*y) (h1:u*4294967296+un-q*y≤18446744073709551615) :
  IntKind.u64.wrap (IntKind.u64.wrap (IntKind.u64.wrap (u*4294967296)+un)-IntKind.u64.wrap (q*y))=u*4294967296+un-q*y:=by
 simp only [yh6]
 omega
theorem ylE {a b:Int} (h:0≤a):Int.tdiv a b=a / b:=Int.tdiv_eq_ediv_of_nonneg h
theorem yLd {a b:Int} (h:0≤a):Int.tmod a b=a % b:=Int.tmod_eq_emod_of_nonneg h
theorem yE2 {h l y:Int} (hh:U64 h) (hl:U64 l) (hy:U64 y) (hlt:h<y) {K:Int→Int→Prop}
  (k:K ((h*18446744073709551616+l) / y) ((h*18446744073709551616+l) % y)):yf1 h l y K:=by
 unfold U64 at hh hl hy
 unfold yf1 yrB
 have b1:(y ==(0:Int))=false:=beq_eq_false_iff_ne.2 (by omega)
 have b2:decide (y≤h)=false:=decide_eq_false (by omega)
 have b3:(!(decide (y=(0:Int))))=true:=by rw [decide_eq_false (by omega)];rfl
 rw [b1,yad,b2,yad,b3]
 by_cases h0:h=0
 ·subst h0
  have:((0:Int) == 0)=true:=rfl
  rw [this,yag,yaG,yaG,ylE hl.1,yLd hl.1]
  have e:(0:Int)*18446744073709551616+l=l:=by omega
  rw [e] at k
  have b4:l / y≤l:=Int.ediv_le_self _ hl.1
  rw [wu64 ⟨qCc hl.1 (by omega),by omega⟩]
  exact k
 ·have b4:(h ==(0:Int))=false:=beq_eq_false_iff_ne.2 h0
  rw [b4,yad]
  refine yt2 ⟨by omega,by omega⟩ ?_
  have hyn:y.toNat≠0:=by omega
  have c1:=yHl y.toNat
  have c2:=yxn hyn
  have c3:blen y.toNat≤64:=by
   refine Nat.le_of_not_lt fun hc=>?_
   have:=Nat.pow_le_pow_right (show 0<2 by omega) (show 64≤blen y.toNat-1 by omega)
   omega
  have c4:1≤blen y.toNat:=by
   refine Nat.le_of_not_lt fun hc=>?_
   have:blen y.toNat=0:=by omega
   rw [this] at c1
   omega
  obtain ⟨m,hm⟩:∃ m,m=64-blen y.toNat:=⟨_,rfl⟩
  have es:(64-(blen y.toNat:Int))=(m:Int):=by omega
  rw [es]
  have m63:m≤63:=by omega
  have e1:IntKind.u64.wrap (m:Int)=m:=wu64 ⟨by omega,by omega⟩
  have e2:IntKind.u64.wrap ((64:Int)-m)=((64-m:Nat):Int):=by
   rw [wu64 ⟨by omega,by omega⟩];omega
  have e3:min ((m:Int)).toNat IntKind.u64.bits=m:=by
   show min ((m:Int)).toNat 64=m
   rw [qAh];omega
  have e4:min (((64-m:Nat):Int)).toNat IntKind.u64.bits=64-m:=by
   show min (((64-m:Nat):Int)).toNat 64=64-m
   rw [qAh];omega
  simp only [e1]
  rw [e2,e3,e4]
  have p64:(2:Int) ^ (64-m)*2 ^ m=18446744073709551616:=by
   rw [← Int.pow_add,show 64-m+m=64 by omega];rfl
  have p63:(2:Int) ^ (63-m)*2 ^ m=9223372036854775808:=by
   rw [← Int.pow_add,show 63-m+m=63 by omega];rfl
  have tp:(0:Int)<2 ^ m:=Int.pow_pos (by omega)
  have tp':(0:Int)<2 ^ (64-m):=Int.pow_pos (by omega)
  have y1:y<(2:Int) ^ (64-m):=by
   have:blen y.toNat=64-m:=by omega
   rw [this] at c1
   have c1':((y.toNat:Nat):Int)<((2 ^ (64-m):Nat):Int):=by exact_mod_cast c1
   push_cast at c1'
   omega
  have y2:(2:Int) ^ (63-m)≤y:=by
   have:blen y.toNat-1=63-m:=by omega
   rw [this] at c2
   have c2':((2 ^ (63-m):Nat):Int)≤((y.toNat:Nat):Int):=by exact_mod_cast c2
   push_cast at c2'
   omega
  have Y1:y*2 ^ m<18446744073709551616:=by
   have:=Int.mul_lt_mul_of_pos_right y1 tp
   omega
  have Y2:9223372036854775808≤y*2 ^ m:=by
   have:=qAn y2 (show (0:Int)≤2 ^ m by omega)
   omega
  have H1:(h+1)*2 ^ m≤y*2 ^ m:=qAn (by omega) (by omega)
  have H2:(h+1)*2 ^ m=h*2 ^ m+2 ^ m:=by grind
  have H0:0≤h*2 ^ m:=qBc hh.1 (by omega)
  have fd:Int.fdiv l (2 ^ (64-m))=l / 2 ^ (64-m):=ywo _ _ (by omega)
  have L1:=Int.mul_ediv_add_emod l (2 ^ (64-m))
  have L2:=Int.emod_nonneg l (show (2:Int) ^ (64-m)≠0 by omega)
  have L3:=Int.emod_lt_of_pos l tp'
  have L4:0≤l / 2 ^ (64-m):=qCc hl.1 (by omega)
  have L5:l / 2 ^ (64-m)<2 ^ m:=by
   refine Int.ediv_lt_of_lt_mul tp' ?_
   rw [Int.mul_comm,p64];omega
  have w1:IntKind.u64.wrap (y*2 ^ m)=y*2 ^ m:=wu64 ⟨by omega,by omega⟩
  have w2:IntKind.u64.wrap (h*2 ^ m)=h*2 ^ m:=wu64 ⟨by omega,by omega⟩
  have w3:IntKind.u64.wrap (BitVec.ofInt IntKind.u64.bits (h*2 ^ m)|||BitVec.ofInt IntKind.u64.bits (l / 2 ^ (64-m))).toNat=h*2 ^ m+l / 2 ^ (64-m) :=
   yJo hh.1 ⟨L4,L5⟩ ⟨by omega,by omega⟩ (by omega)
  have w4:IntKind.u64.wrap (l*2 ^ m)=l % 2 ^ (64-m)*2 ^ m:=by
   have e:l*2 ^ m=(l / 2 ^ (64-m))*18446744073709551616+l % 2 ^ (64-m)*2 ^ m:=by
    rw [← p64]
    obtain ⟨a,ha⟩:∃ a,a=l / 2 ^ (64-m):=⟨_,rfl⟩
    obtain ⟨b,hb⟩:∃ b,b=l % 2 ^ (64-m):=⟨_,rfl⟩
    obtain ⟨t,ht⟩:∃ t,t=(2:Int) ^ m:=⟨_,rfl⟩
    obtain ⟨t',ht'⟩:∃ t,t=(2:Int) ^ (64-m):=⟨_,rfl⟩
    rw [← ha,← hb,← ht'] at L1
    rw [← ha,← hb,← ht,← ht']
    rw [← L1];grind
   have e5:l % 2 ^ (64-m)*2 ^ m<18446744073709551616:=by
    rw [← p64];exact Int.mul_lt_mul_of_pos_right L3 tp
   have e6:0≤l % 2 ^ (64-m)*2 ^ m:=qBc L2 (by omega)
   rw [e,yh6];omega
  have e5:l % 2 ^ (64-m)*2 ^ m<18446744073709551616:=by
   rw [← p64];exact Int.mul_lt_mul_of_pos_right L3 tp
  have e6:0≤l % 2 ^ (64-m)*2 ^ m:=qBc L2 (by omega)
  have eN:(h*18446744073709551616+l)*2 ^ m=(h*2 ^ m+l / 2 ^ (64-m))*18446744073709551616+l % 2 ^ (64-m)*2 ^ m:=by
   rw [← p64]
   obtain ⟨a,ha⟩:∃ a,a=l / 2 ^ (64-m):=⟨_,rfl⟩
   obtain ⟨b,hb⟩:∃ b,b=l % 2 ^ (64-m):=⟨_,rfl⟩
   obtain ⟨t,ht⟩:∃ t,t=(2:Int) ^ m:=⟨_,rfl⟩
   obtain ⟨t',ht'⟩:∃ t,t=(2:Int) ^ (64-m):=⟨_,rfl⟩
   rw [← ha,← hb,← ht'] at L1
   rw [← ha,← hb,← ht,← ht']
   rw [← L1];grind
  have U1:h*2 ^ m+l / 2 ^ (64-m)<y*2 ^ m:=by omega
  have U0:0≤h*2 ^ m+l / 2 ^ (64-m):=by omega
  rw [fd,w1,w2,w3,w4]
  have b5:(!(decide ((m:Int)<0)))=true:=by rw [decide_eq_false (by omega)];rfl
  have b6:(!(decide (((64-m:Nat):Int)<0)))=true:=by rw [decide_eq_false (by omega)];rfl
  rw [b5,b6,yaG,yaG,yaG,yaG]
  generalize h*2 ^ m+l / 2 ^ (64-m)=u at *
  generalize hl0:l % 2 ^ (64-m)*2 ^ m=v at *
  generalize hY:y*2 ^ m=Y at *
  rw [ywo Y _ (by omega),ywo v _ (by omega),ynd ⟨by omega,by omega⟩,ynd ⟨by omega,by omega⟩,ylE U0]
  have b7:(!(decide (Y / 4294967296=(0:Int))))=true:=by rw [decide_eq_false (by omega)];rfl
  rw [b7,yaG]
  obtain ⟨c,hyn1⟩:∃ a,a=Y / 4294967296:=⟨_,rfl⟩
  obtain ⟨d,hyn0⟩:∃ a,a=Y % 4294967296:=⟨_,rfl⟩
  obtain ⟨un1,hun1⟩:∃ a,a=v / 4294967296:=⟨_,rfl⟩
  obtain ⟨un0,hun0⟩:∃ a,a=v % 4294967296:=⟨_,rfl⟩
  rw [← hyn1,← hyn0,← hun1,← hun0]
  have d1:2147483648≤c∧c≤4294967295:=by omega
  have d0:0≤d∧d≤4294967295:=by omega
  have dn1:0≤un1∧un1≤4294967295:=by omega
  have dn0:0≤un0∧un0≤4294967295:=by omega
  have dY:Y=c*4294967296+d:=by omega
  have g1:=DI.init dY d1 d0 dn1 U0 U1
  have x1:IntKind.u64.wrap (u / c)=u / c:=wu64 ⟨g1.hq.1,by have:=g1.hq.2;omega⟩
  have x2:IntKind.u64.wrap (u-IntKind.u64.wrap (u / c*c))=u-u / c*c:=by
   have r1:=g1.hr.1
   have r2:0≤u / c*c:=qBc g1.hq.1 (by omega)
   have r3:=g1.hr.2
   rw [wu64 (n:=u / c*c) ⟨r2,by omega⟩,wu64 ⟨r1,by omega⟩]
  rw [x1,x2]
  have fin:∀ q1:Int,DG Y u un1 q1→∀ (un21:Int),un21=u*4294967296+un1-q1*Y→∀ q0,DG Y un21 un0 q0 →
    K (IntKind.u64.wrap ((IntKind.u64.wrap (q1*(4294967296:Int)))+q0)) (Int.fdiv (IntKind.u64.wrap ((IntKind.u64.wrap ((IntKind.u64.wrap (un21*(4294967296:Int)))+un0))-(IntKind.u64.wrap (q0*Y)))) (2 ^ (min ((m:Int)).toNat IntKind.u64.bits))):=by
   intro q1 G1 un21 e21 q0 G0
   obtain ⟨a1,a2,a3,a4⟩:=G1
   obtain ⟨c1,c2,c3,c4⟩:=G0
   have s1:(q1+1)*Y=q1*Y+Y:=by grind
   have s0:(q0+1)*Y=q0*Y+Y:=by grind
   have w5:IntKind.u64.wrap (q1*4294967296)=q1*4294967296:=wu64 ⟨by omega,by omega⟩
   have w6:IntKind.u64.wrap (q1*4294967296+q0)=q1*4294967296+q0:=wu64 ⟨by omega,by omega⟩
   rw [yHm (by omega) (by omega),w5,w6,e3,ywo _ _ (by omega)]
   have eT:un21*4294967296+un0-q0*Y=(h*18446744073709551616+l-(q1*4294967296+q0)*y)*2 ^ m:=by
    have f1:(q1*4294967296+q0)*Y=q1*Y*4294967296+q0*Y:=by grind
    have f2:(h*18446744073709551616+l-(q1*4294967296+q0)*y)*2 ^ m=(h*18446744073709551616+l)*2 ^ m-(q1*4294967296+q0)*Y:=by
     rw [← hY,Int.sub_mul,Int.mul_assoc (q1*4294967296+q0)]
    rw [f2,f1,eN]
    omega
   rw [eT,Int.mul_ediv_cancel _ (by omega)]
   have r0:0≤h*18446744073709551616+l-(q1*4294967296+q0)*y:=by
    refine Int.not_lt.1 fun hc=>?_
    have:=qB6 hc tp
    omega
   have r1:h*18446744073709551616+l-(q1*4294967296+q0)*y<y:=by
    refine Int.not_le.1 fun hc=>?_
    have:=qAn hc (show (0:Int)≤2 ^ m by omega)
    omega
   obtain ⟨Q,hQ⟩:∃ Q,Q=q1*4294967296+q0:=⟨_,rfl⟩
   rw [← hQ] at r0 r1 ⊢
   have z1:(h*18446744073709551616+l) / y=Q:=by
    have:h*18446744073709551616+l=(h*18446744073709551616+l-Q*y)+Q*y:=by omega
    rw [this,Int.add_mul_ediv_right _ _ (by omega),Int.ediv_eq_zero_of_lt r0 r1];omega
   have z2:(h*18446744073709551616+l) % y=h*18446744073709551616+l-Q*y:=by
    have:=Int.mul_ediv_add_emod (h*18446744073709551616+l) y
    rw [z1,Int.mul_comm] at this
    omega
   rw [z1,z2] at k
   exact k
  have mid:∀ q:Int,DG Y u un1 q→∀ (X:Int→Int→Int→Int→Int→Int→Int→Int→Int→Bool→Prop),(∀ q0 r0 b0,DG Y (u*4294967296+un1-q*Y) un0 q0→X Y m c d un0 q r0 (u*4294967296+un1-q*Y) q0 b0) →
    asr (!(decide (c=(0:Int)))) (∃ n:Nat,yem ybG X X n Y m c d un0 q ((IntKind.u64.wrap ((IntKind.u64.wrap ((IntKind.u64.wrap ((IntKind.u64.wrap (u*(4294967296:Int)))+un1))-(IntKind.u64.wrap (q*Y))))-(IntKind.u64.wrap ((IntKind.u64.wrap (Int.tdiv (IntKind.u64.wrap ((IntKind.u64.wrap ((IntKind.u64.wrap (u*(4294967296:Int)))+un1))-(IntKind.u64.wrap (q*Y)))) c))*c))))) (IntKind.u64.wrap ((IntKind.u64.wrap ((IntKind.u64.wrap (u*(4294967296:Int)))+un1))-(IntKind.u64.wrap (q*Y)))) (IntKind.u64.wrap (Int.tdiv (IntKind.u64.wrap ((IntKind.u64.wrap ((IntKind.u64.wrap (u*(4294967296:Int)))+un1))-(IntKind.u64.wrap (q*Y)))) c))):=by
   intro q G X hX
   obtain ⟨a1,a2,a3,a4⟩:=G
   have s1:(q+1)*Y=q*Y+Y:=by grind
   have b8:(!(decide (c=(0:Int))))=true:=by rw [decide_eq_false (by omega)];rfl
   rw [b8,yaG,yHm (by omega) (by omega),ylE (by omega)]
   have g0:=DI.init dY d1 d0 dn0 (u:=u*4294967296+un1-q*Y) (by omega) (by omega)
   generalize u*4294967296+un1-q*Y=u2 at *
   have x1:IntKind.u64.wrap (u2 / c)=u2 / c:=wu64 ⟨g0.hq.1,by have:=g0.hq.2;omega⟩
   have x2:IntKind.u64.wrap (u2-IntKind.u64.wrap (u2 / c*c))=u2-u2 / c*c:=by
    have r1:=g0.hr.1
    have r2:0≤u2 / c*c:=qBc g0.hq.1 (by omega)
    have r3:=g0.hr.2
    have r4:=g0.hlt
    rw [wu64 (n:=u2 / c*c) ⟨r2,by omega⟩,wu64 ⟨r1,by omega⟩]
   rw [x1,x2]
   exact ⟨3,yLL _ _ _ _ (fun q0 r0 b0 g=>hX q0 r0 b0 g) (fun q0 r0 b0 g=>hX q0 r0 b0 g) _ _ g0⟩
  have leaf:∀ {P:Prop},P→asr (!(decide ((m:Int)<0))) P:=fun p=>by rw [b5,yaG];exact p
  refine ⟨3,yLK _ _ _ _ (fun q r b G=>?_) (fun q r b G=>?_) _ _ g1⟩
  ·exact mid q G _ (fun q0 r0 b0 G0=>leaf (fin q G _ rfl q0 G0))
  ·exact mid q G _ (fun q0 r0 b0 G0=>leaf (fin q G _ rfl q0 G0))
theorem yJp {h l y:Int} (hh:U64 h) (hl:U64 l) (hy:U64 y) (h0:0<y) {K:Int→Prop}
  (k:K ((h*18446744073709551616+l) % y)):yg1 h l y K:=by
 unfold yg1 yrD
 have b3:(!(decide (y=(0:Int))))=true:=by rw [decide_eq_false (by omega)];rfl
 have a1:=Int.emod_nonneg h (show y≠0 by omega)
 have a2:=Int.emod_lt_of_pos h h0
 have hh':=hh
 unfold U64 at hh hy
 rw [b3,yaG,yLd hh.1]
 refine yE2 ⟨a1,by omega⟩ hl ⟨by omega,by omega⟩ a2 ?_
 have e:(h % y*18446744073709551616+l) % y=(h*18446744073709551616+l) % y:=by
  rw [Int.add_emod,Int.mul_emod,Int.emod_emod,← Int.mul_emod,← Int.add_emod]
 rw [e]
 exact k
def outS (s:Bool) (a b:Int) (K:Int→Int→Int→Prop):Prop :=
 if a≤1000000000000000000∧b≤1000000000000000000 then K (if s then -a else a) b 0 else K 0 0 16
theorem ypx {s:Bool} {a b:Int} (ha:0≤a) (hb:0≤b) (K:Int→Int→Int→Prop):ycl s a b K=outS s a b K:=by
 unfold ycl yhQ outS
 by_cases h:a≤1000000000000000000∧b≤1000000000000000000
 ·have e:decide ((if b>a then b else a)>(1000000000000000000:Int))=false:=by
   refine decide_eq_false ?_
   split <;> omega
  have w1:IntKind.i64.wrap a=a:=wi64 ⟨by omega,by omega⟩
  have w2:IntKind.i64.wrap b=b:=wi64 ⟨by omega,by omega⟩
  have w3:IntKind.i64.wrap (0-a)=-a:=by rw [wi64 ⟨by omega,by omega⟩];omega
  rw [e,yad,if_pos h,w1,w2,w3]
  cases s
  ·rfl
  ·rfl
 ·have e:decide ((if b>a then b else a)>(1000000000000000000:Int))=true:=by
   refine decide_eq_true ?_
   split <;> omega
  rw [e,yag,if_neg h]
theorem yKC {n d:Int} (hn:I64 n) (hd:I64 d) {K:Int→Int→Int→Prop}
  (k:if d=0 then K 0 0 18 else outS (decide (n<0) != decide (d<0)) ((n.natAbs / Nat.gcd n.natAbs d.natAbs:Nat):Int) ((d.natAbs / Nat.gcd n.natAbs d.natAbs:Nat):Int) K):yaR n d K:=by
 unfold yaR ykE
 by_cases h:d=0
 ·rw [if_pos h] at k
  have:(d ==(0:Int))=true:=beq_iff_eq.2 h
  rw [this,yag]
  exact k
 ·rw [if_neg h] at k
  have:(d ==(0:Int))=false:=beq_eq_false_iff_ne.2 h
  rw [this,yad,yhv hn,yhv hd]
  refine yvA _ _ _ ?_
  have gp:0<Nat.gcd n.natAbs d.natAbs:=qBb _ (by omega)
  have b3:(!(decide (((Nat.gcd n.natAbs d.natAbs:Nat):Int)=(0:Int))))=true:=by rw [decide_eq_false (by omega)];rfl
  unfold I64 at hn hd
  have u1:n.natAbs / Nat.gcd n.natAbs d.natAbs≤n.natAbs:=qA8 _ _
  have u2:d.natAbs / Nat.gcd n.natAbs d.natAbs≤d.natAbs:=qA8 _ _
  rw [b3,yaG,yaG,ylE (by omega),ylE (by omega),← qA0,← qA0]
  generalize n.natAbs / Nat.gcd n.natAbs d.natAbs=A at *
  generalize d.natAbs / Nat.gcd n.natAbs d.natAbs=B at *
  rw [wu64 (n:=(A:Int)) ⟨by omega,by omega⟩,wu64 (n:=(B:Int)) ⟨by omega,by omega⟩,ypx (by omega) (by omega)]
  exact k
def numM (a c:Int) (b d:Int):Nat:=(a.natAbs / Nat.gcd a.natAbs d.natAbs)*(c.natAbs / Nat.gcd c.natAbs b.natAbs)
def denM (a c:Int) (b d:Int):Nat:=(b.natAbs / Nat.gcd c.natAbs b.natAbs)*(d.natAbs / Nat.gcd a.natAbs d.natAbs)
theorem yGG {a b c d:Int} (ha:I64 a) (hb:I64 b) (hc:I64 c) (hd:I64 d) {K:Int→Int→Int→Prop}
  (k:if chk2 a b c d=0 then outS (decide (a<0) != decide (c<0)) (numM a c b d) (denM a c b d) K else K 0 0 (chk2 a b c d)):ybg a b c d K:=by
 unfold ybg ymu
 refine yo9 ha hb hc hd ?_
 by_cases h:chk2 a b c d=0
 ·rw [if_pos h] at k
  have:(chk2 a b c d !=(0:Int))=false:=by rw [h];rfl
  rw [this,yad,yhv ha,yhv hc]
  obtain ⟨⟨b1,b2,a1,a2,_⟩,d1,d2,c1,c2,_⟩:=ye9.1 h
  have wb:IntKind.u64.wrap b=((b.natAbs:Nat):Int):=by rw [wu64 ⟨by omega,by omega⟩];omega
  have wd:IntKind.u64.wrap d=((d.natAbs:Nat):Int):=by rw [wu64 ⟨by omega,by omega⟩];omega
  rw [wb,wd]
  refine yvA _ _ _ (yvA _ _ _ ?_)
  unfold numM denM at k
  have g1:0<Nat.gcd a.natAbs d.natAbs:=qBb _ (by omega)
  have g2:0<Nat.gcd c.natAbs b.natAbs:=qBb _ (by omega)
  obtain ⟨g3,h3⟩:∃ g,g=Nat.gcd a.natAbs d.natAbs:=⟨_,rfl⟩
  obtain ⟨g4,h4⟩:∃ g,g=Nat.gcd c.natAbs b.natAbs:=⟨_,rfl⟩
  rw [← h3,← h4] at k ⊢
  rw [← h3] at g1;rw [← h4] at g2
  have n3:(!(decide ((g3:Int)=(0:Int))))=true:=by rw [decide_eq_false (by omega)];rfl
  have n4:(!(decide ((g4:Int)=(0:Int))))=true:=by rw [decide_eq_false (by omega)];rfl
  rw [n3,n4,yaG,yaG,ylE (by omega),ylE (by omega),ylE (by omega),ylE (by omega),← qA0,← qA0,← qA0,← qA0]
  have q1:a.natAbs / g3≤a.natAbs:=qA8 _ _
  have q2:c.natAbs / g4≤c.natAbs:=qA8 _ _
  have q3:b.natAbs / g4≤b.natAbs:=qA8 _ _
  have q4:d.natAbs / g3≤d.natAbs:=qA8 _ _
  generalize a.natAbs / g3=A at *
  generalize c.natAbs / g4=C at *
  generalize b.natAbs / g4=B at *
  generalize d.natAbs / g3=D at *
  rw [wu64 (n:=(A:Int)) ⟨by omega,by omega⟩,wu64 (n:=(C:Int)) ⟨by omega,by omega⟩,wu64 (n:=(B:Int)) ⟨by omega,by omega⟩,wu64 (n:=(D:Int)) ⟨by omega,by omega⟩,
   yjB ⟨by omega,by omega⟩ ⟨by omega,by omega⟩,yaG,yaG,yjB ⟨by omega,by omega⟩ ⟨by omega,by omega⟩]
  have m1:A*C≤1000000000000000000*1000000000000000000:=Nat.mul_le_mul (by omega) (by omega)
  have m2:B*D≤1000000000000000000*1000000000000000000:=Nat.mul_le_mul (by omega) (by omega)
  rw [← Int.natCast_mul,← Int.natCast_mul]
  generalize A*C=M at *
  generalize B*D=N at *
  have wm:IntKind.u64.wrap ((M:Int) / 18446744073709551616+(N:Int) / 18446744073709551616)=(M:Int) / 18446744073709551616+(N:Int) / 18446744073709551616:=wu64 ⟨by omega,by omega⟩
  rw [wm]
  by_cases hb:(M:Int) / 18446744073709551616+(N:Int) / 18446744073709551616>0
  ·rw [decide_eq_true hb,yag]
   unfold outS at k
   rw [if_neg (by omega)] at k
   exact k
  ·rw [decide_eq_false hb,yad]
   have eM:(M:Int) % 18446744073709551616=M:=by omega
   have eN:(N:Int) % 18446744073709551616=N:=by omega
   rw [eM,eN]
   by_cases h0:(M:Int)>0
   ·rw [decide_eq_true h0,yag,ypx (by omega) (by omega)]
    exact k
   ·rw [decide_eq_false h0,yad,ypx (by omega) (by omega)]
    have hz:M=0:=by omega
    subst hz
    unfold outS at k ⊢
    by_cases hN:(N:Int)≤1000000000000000000
    ·rw [if_pos ⟨by omega,hN⟩] at k ⊢
     have e:(if (decide (a<0) != decide (c<0))=true then -((0:Nat):Int) else ((0:Nat):Int))=0:=by split <;> rfl
     rw [e] at k
     exact k
    ·rw [if_neg (by omega)] at k ⊢
     exact k
 ·rw [if_neg h] at k
  have:(chk2 a b c d !=(0:Int))=true:=by rw [bne_iff_ne];exact h
  rw [this,yag]
  exact k
theorem RV.swap {c d:Int} (h:RV c d) (h0:0<c):RV d c:=by
 obtain ⟨d1,d2,c1,c2,g⟩:=h
 exact ⟨by omega,c2,by omega,d2,by rw [Nat.gcd_comm];exact g⟩
theorem RV.swapn {c d:Int} (h:RV c d) (h0:c<0):RV (-d) (-c):=by
 obtain ⟨d1,d2,c1,c2,g⟩:=h
 exact ⟨by omega,by omega,by omega,by omega,by rw [Int.natAbs_neg,Int.natAbs_neg,Nat.gcd_comm];exact g⟩
theorem yLM {a b c d:Int} (ha:I64 a) (hb:I64 b) (hc:I64 c) (hd:I64 d) {K:Int→Int→Int→Prop}
  (k:if chk2 a b c d=0 then (if c=0 then K 0 0 18 else outS (decide (a<0) != decide (c<0)) (numM a d b c) (denM a d b c) K) else K 0 0 (chk2 a b c d)):ycx a b c d K:=by
 unfold ycx ymv
 refine yo9 ha hb hc hd ?_
 by_cases h:chk2 a b c d=0
 ·rw [if_pos h] at k
  have:(chk2 a b c d !=(0:Int))=false:=by rw [h];rfl
  rw [this,yad]
  obtain ⟨hab,hcd⟩:=ye9.1 h
  obtain ⟨d1,d2,c1,c2,_⟩:=id hcd
  by_cases h0:c=0
  ·rw [if_pos h0] at k
   have:(c ==(0:Int))=true:=beq_iff_eq.2 h0
   rw [this,yag]
   exact k
  ·rw [if_neg h0] at k
   have:(c ==(0:Int))=false:=beq_eq_false_iff_ne.2 h0
   rw [this,yad]
   by_cases hn:c<0
   ·rw [decide_eq_true hn] at k
    rw [decide_eq_true hn,yag,wi64 (n:=0-d) ⟨by omega,by omega⟩,wi64 (n:=0-c) ⟨by omega,by omega⟩,Int.zero_sub,Int.zero_sub]
    have e:chk2 a b (-d) (-c)=0:=ye9.2 ⟨hab,hcd.swapn hn⟩
    refine yGG ha hb ⟨by omega,by omega⟩ ⟨by omega,by omega⟩ ?_
    rw [if_pos e,decide_eq_true (show -d<0 by omega)]
    unfold numM denM at k ⊢
    rw [Int.natAbs_neg,Int.natAbs_neg]
    exact k
   ·rw [decide_eq_false hn] at k
    rw [decide_eq_false hn,yad]
    have e:chk2 a b d c=0:=ye9.2 ⟨hab,hcd.swap (by omega)⟩
    refine yGG ha hb hd hc ?_
    rw [if_pos e,decide_eq_false (show ¬d<0 by omega)]
    exact k
 ·rw [if_neg h] at k
  have:(chk2 a b c d !=(0:Int))=true:=by rw [bne_iff_ne];exact h
  rw [this,yag]
  exact k
theorem yKD {s:Bool} {hi lo p1 p3:Int} {g:Nat} (hh:U64 hi) (hl:U64 lo) (hg:0<g) (g1:(g:Int)≤1000000000000000000)
   (h1:0≤p1∧p1≤1000000000000000000) (h3:0≤p3∧p3≤1000000000000000000) {K:Int→Int→Int→Prop}
   (k:outS s (((hi*18446744073709551616+lo).toNat / Nat.gcd (hi*18446744073709551616+lo).toNat g:Nat):Int)
    (((p1.toNat / g)*(p3.toNat / Nat.gcd (hi*18446744073709551616+lo).toNat g):Nat):Int) K) :
   (yg1 hi lo (g:Int) (fun (b:Int) =>
 (ycu b (g:Int) (fun (a:Int) =>
 (cbr (decide (hi≥a))
 (K (0:Int) (0:Int) (16:Int))
 (yf1 hi lo a (fun (c:Int) (_:Int) =>
 (asr (!(decide ((g:Int)=(0:Int))))
 (asr (!(decide (a=(0:Int))))
 (ye4 (IntKind.u64.wrap (Int.tdiv (IntKind.u64.wrap p1) (g:Int))) (IntKind.u64.wrap (Int.tdiv (IntKind.u64.wrap p3) a)) (fun (d:Int) (e:Int) =>
 (cbr (decide (d>(0:Int)))
 (K (0:Int) (0:Int) (16:Int))
 (ycl s c e (fun (f:Int) (h:Int) (i:Int) =>
 (K f h i))))))))))))))):=by
  unfold U64 at hh hl
  obtain ⟨X,hX⟩:∃ X:Nat,X=(hi*18446744073709551616+lo).toNat:=⟨_,rfl⟩
  have eX:hi*18446744073709551616+lo=(X:Int):=by omega
  rw [← hX] at k
  refine yJp hh hl ⟨by omega,by omega⟩ (by omega) ?_
  rw [eX,← Int.natCast_emod]
  refine yvA _ _ _ ?_
  have eg:Nat.gcd (X % g) g=Nat.gcd X g:=by rw [Nat.gcd_comm,Nat.gcd_comm X,Nat.gcd_rec g X,Nat.gcd_comm]
  rw [eg]
  have gp:0<Nat.gcd X g:=qBb _ hg
  have gl:Nat.gcd X g≤g:=Nat.le_of_dvd hg (Nat.gcd_dvd_right _ _)
  generalize Nat.gcd X g=G at *
  by_cases hb:hi≥(G:Int)
  ·rw [decide_eq_true hb,yag]
   unfold outS at k
   have:18446744073709551616≤X / G:=by
    rw [Nat.le_div_iff_mul_le gp]
    omega
   rw [if_neg (by omega)] at k
   exact k
  ·rw [decide_eq_false hb,yad]
   refine yE2 hh hl ⟨by omega,by omega⟩ (by omega) ?_
   rw [eX]
   have n3:(!(decide ((g:Int)=(0:Int))))=true:=by rw [decide_eq_false (by omega)];rfl
   have n4:(!(decide ((G:Int)=(0:Int))))=true:=by rw [decide_eq_false (by omega)];rfl
   have e1:IntKind.u64.wrap p1=(p1.toNat:Int):=by rw [wu64 ⟨by omega,by omega⟩];omega
   have e3:IntKind.u64.wrap p3=(p3.toNat:Int):=by rw [wu64 ⟨by omega,by omega⟩];omega
   rw [n3,n4,yaG,yaG,e1,e3,ylE (by omega),ylE (by omega),← qA0,← qA0,← qA0]
   have q1:p1.toNat / g≤p1.toNat:=qA8 _ _
   have q3:p3.toNat / G≤p3.toNat:=qA8 _ _
   generalize p1.toNat / g=A at *
   generalize p3.toNat / G=B at *
   generalize X / G=N at *
   rw [wu64 (n:=(A:Int)) ⟨by omega,by omega⟩,wu64 (n:=(B:Int)) ⟨by omega,by omega⟩,yjB ⟨by omega,by omega⟩ ⟨by omega,by omega⟩,← Int.natCast_mul]
   generalize A*B=D at *
   by_cases hd:((D:Int) / 18446744073709551616)>0
   ·rw [decide_eq_true hd,yag]
    unfold outS at k
    rw [if_neg (by omega)] at k
    exact k
   ·rw [decide_eq_false hd,yad]
    have eD:(D:Int) % 18446744073709551616=D:=by omega
    rw [eD,ypx (by omega) (by omega)]
    exact k
theorem yE3 {p q c:Int} {K:Int→Int→Prop} (hc:c.toNat≤1) (k:K (((p.toNat+q.toNat+c.toNat) % 18446744073709551616:Nat):Int) (((p.toNat+q.toNat+c.toNat) / 18446744073709551616:Nat):Int)):yiE p q c K:=by
 unfold yiE
 rw [decide_eq_true hc,yaG]
 exact k
theorem yE4 {p q c:Int} {K:Int→Int→Prop} (hc:c.toNat≤1) (k:K (((p.toNat+18446744073709551616-q.toNat-c.toNat) % 18446744073709551616:Nat):Int) ((if q.toNat+c.toNat≤p.toNat then 0 else 1:Nat):Int)):yiF p q c K:=by
 unfold yiF
 rw [decide_eq_true hc,yaG]
 have e:(bif Nat.ble (q.toNat+c.toNat) p.toNat then 0 else 1:Nat)=(if q.toNat+c.toNat≤p.toNat then 0 else 1:Nat):=by
  by_cases h:q.toNat+c.toNat≤p.toNat
  ·rw [if_pos h,show Nat.ble (q.toNat+c.toNat) p.toNat=true from Nat.ble_eq_true_of_le h];rfl
  ·rw [if_neg h]
   cases hb:Nat.ble (q.toNat+c.toNat) p.toNat
   ·rfl
   ·exact absurd (qCa hb) h
 rw [e]
 exact k
theorem yJq {X Y:Int} (hx:0≤X) (hy:0≤Y) (hs:X+Y<340282366920938463463374607431768211456) {F:Int→Int→Int→Int→Prop}
  (h:∀ c1 c2,F ((X+Y) % 18446744073709551616) c1 ((X+Y) / 18446744073709551616) c2) :
  yiE (X % 18446744073709551616) (Y % 18446744073709551616) 0 (fun lo c1=>yiE (X / 18446744073709551616) (Y / 18446744073709551616) c1 (fun hi c2=>F lo c1 hi c2)):=by
 obtain ⟨x,rfl⟩:∃ x:Nat,X=x:=⟨X.toNat,by omega⟩
 obtain ⟨y,rfl⟩:∃ y:Nat,Y=y:=⟨Y.toNat,by omega⟩
 refine yE3 (by decide) (yE3 (by omega) ?_)
 have e1:(((((x:Int) % 18446744073709551616).toNat+((y:Int) % 18446744073709551616).toNat+(0:Int).toNat) % 18446744073709551616:Nat):Int)=((x:Int)+y) % 18446744073709551616:=by omega
 have e2:(((((x:Int) / 18446744073709551616).toNat+((y:Int) / 18446744073709551616).toNat+(((((x:Int) % 18446744073709551616).toNat+((y:Int) % 18446744073709551616).toNat+(0:Int).toNat) / 18446744073709551616:Nat):Int).toNat) % 18446744073709551616:Nat):Int)=((x:Int)+y) / 18446744073709551616:=by omega
 rw [e1,e2]
 exact h _ _
theorem yt3 {X Y:Int} (hy:0≤Y) (hxy:Y≤X) (hs:X<340282366920938463463374607431768211456) {F:Int→Int→Int→Int→Prop}
  (h:∀ c1 c2,F ((X-Y) % 18446744073709551616) c1 ((X-Y) / 18446744073709551616) c2) :
  yiF (X % 18446744073709551616) (Y % 18446744073709551616) 0 (fun lo c1=>yiF (X / 18446744073709551616) (Y / 18446744073709551616) c1 (fun hi c2=>F lo c1 hi c2)):=by
 obtain ⟨x,rfl⟩:∃ x:Nat,X=x:=⟨X.toNat,by omega⟩
 obtain ⟨y,rfl⟩:∃ y:Nat,Y=y:=⟨Y.toNat,by omega⟩
 refine yE4 (by decide) (yE4 (by split <;> omega) ?_)
 have e1:(((((x:Int) % 18446744073709551616).toNat+18446744073709551616-((y:Int) % 18446744073709551616).toNat-(0:Int).toNat) % 18446744073709551616:Nat):Int)=((x:Int)-y) % 18446744073709551616:=by omega
 rw [e1]
 by_cases hb:((y:Int) % 18446744073709551616).toNat+(0:Int).toNat≤((x:Int) % 18446744073709551616).toNat
 ·rw [if_pos hb]
  have e2:(((((x:Int) / 18446744073709551616).toNat+18446744073709551616-((y:Int) / 18446744073709551616).toNat-((0:Nat):Int).toNat) % 18446744073709551616:Nat):Int)=((x:Int)-y) / 18446744073709551616:=by omega
  rw [e2]
  exact h _ _
 ·rw [if_neg hb]
  have e2:(((((x:Int) / 18446744073709551616).toNat+18446744073709551616-((y:Int) / 18446744073709551616).toNat-((1:Nat):Int).toNat) % 18446744073709551616:Nat):Int)=((x:Int)-y) / 18446744073709551616:=by omega
  rw [e2]
  exact h _ _
def outA (s:Bool) (Z p1 p3:Int) (g:Nat) (K:Int→Int→Int→Prop):Prop :=
 if Z=0 then K 0 1 0 else outS s ((Z.toNat / Nat.gcd Z.toNat g:Nat):Int) (((p1.toNat / g)*(p3.toNat / Nat.gcd Z.toNat g):Nat):Int) K
theorem yzd {s:Bool} {Z p1 p3:Int} {g:Nat} (hz:0≤Z) (hz2:Z<340282366920938463463374607431768211456) (hg:0<g) (g1:(g:Int)≤1000000000000000000)
   (h1:0≤p1∧p1≤1000000000000000000) (h3:0≤p3∧p3≤1000000000000000000) {K:Int→Int→Int→Prop}
   (k:outA s Z p1 p3 g K) :
   cbr (Z / 18446744073709551616 ==(0:Int)) (cbr (Z % 18446744073709551616 ==(0:Int)) (K 0 1 0) (yg1 (Z / 18446744073709551616) (Z % 18446744073709551616) (g:Int) (fun (b:Int) =>
 (ycu b (g:Int) (fun (a:Int) =>
 (cbr (decide ((Z / 18446744073709551616)≥a))
 (K (0:Int) (0:Int) (16:Int))
 (yf1 (Z / 18446744073709551616) (Z % 18446744073709551616) a (fun (c:Int) (_:Int) =>
 (asr (!(decide ((g:Int)=(0:Int))))
 (asr (!(decide (a=(0:Int))))
 (ye4 (IntKind.u64.wrap (Int.tdiv (IntKind.u64.wrap p1) (g:Int))) (IntKind.u64.wrap (Int.tdiv (IntKind.u64.wrap p3) a)) (fun (d:Int) (e:Int) =>
 (cbr (decide (d>(0:Int)))
 (K (0:Int) (0:Int) (16:Int))
 (ycl s c e (fun (f:Int) (h:Int) (i:Int) =>
 (K f h i)))))))))))))))) (yg1 (Z / 18446744073709551616) (Z % 18446744073709551616) (g:Int) (fun (b:Int) =>
 (ycu b (g:Int) (fun (a:Int) =>
 (cbr (decide ((Z / 18446744073709551616)≥a))
 (K (0:Int) (0:Int) (16:Int))
 (yf1 (Z / 18446744073709551616) (Z % 18446744073709551616) a (fun (c:Int) (_:Int) =>
 (asr (!(decide ((g:Int)=(0:Int))))
 (asr (!(decide (a=(0:Int))))
 (ye4 (IntKind.u64.wrap (Int.tdiv (IntKind.u64.wrap p1) (g:Int))) (IntKind.u64.wrap (Int.tdiv (IntKind.u64.wrap p3) a)) (fun (d:Int) (e:Int) =>
 (cbr (decide (d>(0:Int)))
 (K (0:Int) (0:Int) (16:Int))
 (ycl s c e (fun (f:Int) (h:Int) (i:Int) =>
 (K f h i))))))))))))))):=by
  unfold outA at k
  have eZ:Z / 18446744073709551616*18446744073709551616+Z % 18446744073709551616=Z:=by omega
  by_cases h0:Z=0
  ·rw [if_pos h0] at k
   subst h0
   have e1:((0:Int) / 18446744073709551616 ==(0:Int))=true:=by decide
   have e2:((0:Int) % 18446744073709551616 ==(0:Int))=true:=by decide
   rw [e1,yag,e2,yag]
   exact k
  ·rw [if_neg h0] at k
   have t:=yKD (s:=s) (hi:=Z / 18446744073709551616) (lo:=Z % 18446744073709551616) (p1:=p1) (p3:=p3) (g:=g) (K:=K) ⟨by omega,by omega⟩ ⟨by omega,by omega⟩ hg g1 h1 h3 (by rw [eZ];exact k)
   cases h4:(Z / 18446744073709551616 ==(0:Int))
   ·rw [yad];exact t
   ·rw [yag]
    cases h2:(Z % 18446744073709551616 ==(0:Int))
    ·rw [yad];exact t
    ·have:=beq_iff_eq.1 h2
     have:=beq_iff_eq.1 h4
     exact absurd (show Z=0 by omega) h0
theorem ysb {s s':Bool} {Z Z' p1 p3:Int} {g:Nat} {K:Int→Int→Int→Prop} (k:outA s' Z' p1 p3 g K) (hz:Z=Z') (hs:Z≠0→s=s'):outA s Z p1 p3 g K:=by
 subst hz
 unfold outA at k ⊢
 by_cases h:Z=0
 ·rw [if_pos h] at k ⊢;exact k
 ·rw [if_neg h] at k ⊢;rw [hs h];exact k
theorem yJr {a b c d:Int} (ha:I64 a) (hb:I64 b) (hc:I64 c) (hd:I64 d) {K:Int→Int→Int→Prop}
  (k:if chk2 a b c d=0 then outA (decide (a*(d / (Nat.gcd b.natAbs d.natAbs:Nat))+c*(b / (Nat.gcd b.natAbs d.natAbs:Nat))<0))
    ((a*(d / (Nat.gcd b.natAbs d.natAbs:Nat))+c*(b / (Nat.gcd b.natAbs d.natAbs:Nat))).natAbs:Int) b d (Nat.gcd b.natAbs d.natAbs) K
   else K 0 0 (chk2 a b c d)):ybC a b c d K:=by
 unfold ybC yms
 refine yo9 ha hb hc hd ?_
 by_cases h:chk2 a b c d=0
 ·rw [if_pos h] at k
  have:(chk2 a b c d !=(0:Int))=false:=by rw [h];rfl
  rw [this,yad]
  obtain ⟨⟨b1,b2,a1,a2,_⟩,d1,d2,c1,c2,_⟩:=ye9.1 h
  have wb:IntKind.u64.wrap b=((b.natAbs:Nat):Int):=by rw [wu64 ⟨by omega,by omega⟩];omega
  have wd:IntKind.u64.wrap d=((d.natAbs:Nat):Int):=by rw [wu64 ⟨by omega,by omega⟩];omega
  have g1:0<Nat.gcd b.natAbs d.natAbs:=qBb _ (by omega)
  have g2:Nat.gcd b.natAbs d.natAbs≤d.natAbs:=Nat.le_of_dvd (by omega) (Nat.gcd_dvd_right _ _)
  have go:ycu (IntKind.u64.wrap b) (IntKind.u64.wrap d)=ycu ((b.natAbs:Nat):Int) ((d.natAbs:Nat):Int):=by rw [wb,wd]
  rw [go]
  refine yvA _ _ _ ?_
  generalize Nat.gcd b.natAbs d.natAbs=g at *
  have n3:(!(decide ((g:Int)=(0:Int))))=true:=by rw [decide_eq_false (by omega)];rfl
  have q1:0≤b / (g:Int):=qCc (by omega) (by omega)
  have q2:0≤d / (g:Int):=qCc (by omega) (by omega)
  have q3:b / (g:Int)≤b:=Int.ediv_le_self _ (by omega)
  have q4:d / (g:Int)≤d:=Int.ediv_le_self _ (by omega)
  have ed:IntKind.u64.wrap (Int.tdiv (IntKind.u64.wrap d) (g:Int))=d / (g:Int):=by
   rw [wu64 (n:=d) ⟨by omega,by omega⟩,ylE (by omega),wu64 ⟨by omega,by omega⟩]
  have eb:IntKind.u64.wrap (Int.tdiv (IntKind.u64.wrap b) (g:Int))=b / (g:Int):=by
   rw [wu64 (n:=b) ⟨by omega,by omega⟩,ylE (by omega),wu64 ⟨by omega,by omega⟩]
  have yk2:∀ {c:Bool} {P:Prop},c=true→P→asr c P:=fun h p=>by rw [h,yaG];exact p
  rw [yhv ha]
  refine yk2 n3 ?_
  rw [yjB (U64.abs ha) (by rw [ed];exact ⟨by omega,by omega⟩),yhv hc]
  refine yk2 n3 ?_
  rw [yjB (U64.abs hc) (by rw [eb];exact ⟨by omega,by omega⟩)]
  obtain ⟨X,hX⟩:∃ X,X=((a.natAbs:Nat):Int)*IntKind.u64.wrap (Int.tdiv (IntKind.u64.wrap d) (g:Int)):=⟨_,rfl⟩
  obtain ⟨Y,hY⟩:∃ Y,Y=((c.natAbs:Nat):Int)*IntKind.u64.wrap (Int.tdiv (IntKind.u64.wrap b) (g:Int)):=⟨_,rfl⟩
  rw [← hX,← hY]
  rw [ed] at hX;rw [eb] at hY
  have X0:0≤X:=by rw [hX];exact qBc (by omega) q2
  have Y0:0≤Y:=by rw [hY];exact qBc (by omega) q1
  have X1:X≤1000000000000000000*1000000000000000000:=by rw [hX];exact qCb (by omega) (by omega) q2 (by omega)
  have Y1:Y≤1000000000000000000*1000000000000000000:=by rw [hY];exact qCb (by omega) (by omega) q1 (by omega)
  have ax:a*(d / (g:Int))=if a<0 then -X else X:=by
   split
   ·rw [hX,show ((a.natAbs:Nat):Int)=-a by omega,Int.neg_mul,Int.neg_neg]
   ·rw [hX,show ((a.natAbs:Nat):Int)=a by omega]
  have cy:c*(b / (g:Int))=if c<0 then -Y else Y:=by
   split
   ·rw [hY,show ((c.natAbs:Nat):Int)=-c by omega,Int.neg_mul,Int.neg_neg]
   ·rw [hY,show ((c.natAbs:Nat):Int)=c by omega]
  rw [ax,cy] at k
  clear hX hY ax cy ed eb n3
  by_cases hs:decide (a<0)=decide (c<0)
  ·have e:(decide (a<0) == decide (c<0))=true:=beq_iff_eq.2 hs
   rw [e,yag]
   refine yJq X0 Y0 (by omega) (fun c1 c2=>?_)
   refine yzd (by omega) (by omega) g1 (by omega) ⟨by omega,b2⟩ ⟨by omega,d2⟩ (ysb k ?_ ?_)
   ·by_cases h1:a<0
    ·have h2:c<0:=by simpa [h1] using hs.symm
     rw [if_pos h1,if_pos h2];omega
    ·have h2:¬c<0:=by simpa [h1] using hs.symm
     rw [if_neg h1,if_neg h2];omega
   ·intro h0
    by_cases h1:a<0
    ·have h2:c<0:=by simpa [h1] using hs.symm
     rw [if_pos h1,if_pos h2,decide_eq_true h1,decide_eq_true (by omega)]
    ·have h2:¬c<0:=by simpa [h1] using hs.symm
     rw [if_neg h1,if_neg h2,decide_eq_false h1,decide_eq_false (by omega)]
  ·have e:(decide (a<0) == decide (c<0))=false:=beq_eq_false_iff_ne.2 hs
   rw [e,yad]
   have h12:(a<0∧¬c<0)∨(¬a<0∧c<0):=by
    by_cases h1:a<0 <;> by_cases h2:c<0 <;> simp [h1,h2] at hs ⊢
   by_cases hlt:X<Y
   ·have kk:outA (!decide (a<0)) (Y-X) b d g K:=by
     refine ysb k ?_ ?_
     ·rcases h12 with ⟨h1,h2⟩ | ⟨h1,h2⟩
      ·rw [if_pos h1,if_neg h2];omega
      ·rw [if_neg h1,if_pos h2];omega
     ·intro h0
      rcases h12 with ⟨h1,h2⟩ | ⟨h1,h2⟩
      ·rw [if_pos h1,if_neg h2,decide_eq_true h1,decide_eq_false (by omega)];rfl
      ·rw [if_neg h1,if_pos h2,decide_eq_false h1,decide_eq_true (by omega)];rfl
    by_cases h1:X / 18446744073709551616<Y / 18446744073709551616
    ·rw [decide_eq_true h1,yag]
     refine yt3 X0 (by omega) (by omega) (fun c1 c2=>?_)
     exact yzd (by omega) (by omega) g1 (by omega) ⟨by omega,b2⟩ ⟨by omega,d2⟩ kk
    ·have e1:(X / 18446744073709551616 == Y / 18446744073709551616)=true:=beq_iff_eq.2 (by omega)
     rw [decide_eq_false h1,yad,e1,yag,decide_eq_true (show X % 18446744073709551616<Y % 18446744073709551616 by have:=beq_iff_eq.1 e1;omega),yag]
     refine yt3 X0 (by omega) (by omega) (fun c1 c2=>?_)
     exact yzd (by omega) (by omega) g1 (by omega) ⟨by omega,b2⟩ ⟨by omega,d2⟩ kk
   ·have kk:outA (decide (a<0)) (X-Y) b d g K:=by
     refine ysb k ?_ ?_
     ·rcases h12 with ⟨h1,h2⟩ | ⟨h1,h2⟩
      ·rw [if_pos h1,if_neg h2];omega
      ·rw [if_neg h1,if_pos h2];omega
     ·intro h0
      rcases h12 with ⟨h1,h2⟩ | ⟨h1,h2⟩
      ·rw [if_pos h1,if_neg h2,decide_eq_true h1,decide_eq_true (by omega)]
      ·rw [if_neg h1,if_pos h2,decide_eq_false h1,decide_eq_false (by omega)]
    have h1:¬X / 18446744073709551616<Y / 18446744073709551616:=by omega
    rw [decide_eq_false h1,yad]
    cases e1:(X / 18446744073709551616 == Y / 18446744073709551616)
    ·rw [yad]
     refine yt3 Y0 (by omega) (by omega) (fun c1 c2=>?_)
     exact yzd (by omega) (by omega) g1 (by omega) ⟨by omega,b2⟩ ⟨by omega,d2⟩ kk
    ·rw [yag,decide_eq_false (show ¬X % 18446744073709551616<Y % 18446744073709551616 by have:=beq_iff_eq.1 e1;omega),yad]
     refine yt3 Y0 (by omega) (by omega) (fun c1 c2=>?_)
     exact yzd (by omega) (by omega) g1 (by omega) ⟨by omega,b2⟩ ⟨by omega,d2⟩ kk
 ·rw [if_neg h] at k
  have:(chk2 a b c d !=(0:Int))=true:=by rw [bne_iff_ne];exact h
  rw [this,yag]
  exact k
theorem RV.neg {c d:Int} (h:RV c d):RV (-c) d:=by
 obtain ⟨d1,d2,c1,c2,g⟩:=h
 exact ⟨d1,d2,by omega,by omega,by rw [Int.natAbs_neg];exact g⟩
theorem yLN {a b c d:Int} (ha:I64 a) (hb:I64 b) (hc:I64 c) (hd:I64 d) {K:Int→Int→Int→Prop}
  (k:if chk2 a b c d=0 then outA (decide (a*(d / (Nat.gcd b.natAbs d.natAbs:Nat))+-c*(b / (Nat.gcd b.natAbs d.natAbs:Nat))<0))
    ((a*(d / (Nat.gcd b.natAbs d.natAbs:Nat))+-c*(b / (Nat.gcd b.natAbs d.natAbs:Nat))).natAbs:Int) b d (Nat.gcd b.natAbs d.natAbs) K
   else K 0 0 (chk2 a b c d)):ybH a b c d K:=by
 unfold ybH ymt
 refine yo9 ha hb hc hd ?_
 by_cases h:chk2 a b c d=0
 ·rw [if_pos h] at k
  have:(chk2 a b c d !=(0:Int))=false:=by rw [h];rfl
  rw [this,yad]
  obtain ⟨hab,hcd⟩:=ye9.1 h
  obtain ⟨d1,d2,c1,c2,_⟩:=id hcd
  rw [wi64 (n:=0-c) ⟨by omega,by omega⟩,Int.zero_sub]
  refine yJr ha hb ⟨by omega,by omega⟩ hd ?_
  rw [if_pos (ye9.2 ⟨hab,hcd.neg⟩)]
  exact k
 ·rw [if_neg h] at k
  have:(chk2 a b c d !=(0:Int))=true:=by rw [bne_iff_ne];exact h
  rw [this,yag]
  exact k
def ints (l:List Int):List PV:=l.map (PV.int .i64)
theorem yaI (l:List Int):(ints l).length=l.length:=qAe ..
theorem yHn {l:List Int} {i:Nat} (h:i<l.length):List.getD (ints l) i .nils=.int .i64 (l.getD i 0):=by
 unfold ints
 rw [qAb,qAb,qA4,qAd h]
 rfl
theorem ybF {l:List Int} {i:Nat} (h:i<l.length):yaa (List.getD (ints l) i .nils)=l.getD i 0:=by
 rw [yHn h];rfl
theorem yhe {l:List Int} {i:Nat} (h:i<l.length):conf zI (List.getD (ints l) i .nils)=true:=by
 rw [yHn h];rfl
theorem yk2 {c:Bool} {P:Prop} (h:c=true) (p:P):asr c P:=by rw [h,yaG];exact p
theorem yqD {c:Prop} [Decidable c] {P:Prop} (h:c) (p:P):asr (decide c) P:=yk2 (decide_eq_true h) p
theorem yHo {c:Prop} [Decidable c] {P Q:Prop} (h:c) (p:P):cbr (decide c) P Q:=by rw [decide_eq_true h,yag];exact p
theorem yA6 {c:Prop} [Decidable c] {P Q:Prop} (h:¬c) (q:Q):cbr (decide c) P Q:=by rw [decide_eq_false h,yad];exact q
def mnf (m x:Int):Int:=if x<m then x else m
theorem yJs {l:List Int} (hl:l.length<9223372036854775807) (x0:List PV→Int→Int→Bool→Prop) :
  ∀ (rest:List Int) (i:Nat) (m:Int) (n:Nat),l.drop i=rest→i≤l.length→rest.length<n→x0 (ints l) (rest.foldl mnf m) (l.length:Int) false →
   ycr x0 n (ints l) m (i:Int):=by
 intro rest
 induction rest with
 | nil =>
  intro i m n hd hi hn k
  have:i=l.length:=by
   have:=congrArg List.length hd
   rw [qAs] at this
   have h2:([]:List Int).length=0:=rfl
   omega
  match n,hn with
  | n+1,_ =>
   unfold ycr
   rw [yaI,this]
   exact yA6 (by omega) k
 | cons x t ih =>
  intro i m n hd hi hn k
  have hlt:i<l.length:=by
   have:=congrArg List.length hd
   rw [qAs,qAk] at this
   omega
  have hx:l.getD i 0=x:=by
   have:=List.getElem_drop (xs:=l) (i:=i) (j:=0) (h:=by rw [hd];exact Nat.zero_lt_succ _)
   rw [qAb,qAd hlt]
   simp only [hd,List.getElem_cons_zero,Nat.add_zero] at this
   exact this.symm
  have ht:l.drop (i+1)=t:=by rw [← List.tail_drop,hd];rfl
  match n,hn with
  | n+1,hn =>
   unfold ycr
   rw [yaI]
   refine yHo (by omega) ?_
   refine yqD (by omega) (yqD (by omega) (yk2 (yhe (by omega)) ?_))
   rw [qAh,ybF hlt,hx,wi64 (n:=(i:Int)+1) ⟨by omega,by omega⟩]
   exact ih (i+1) _ n ht (by omega) (by rw [qAk] at hn;omega) k
theorem yLO {l:List Int} (hl:l.length<9223372036854775807) {x:Int} {t:List Int} (e:l=x::t) {K:Int→Prop} (k:K (t.foldl mnf x)):yda (ints l) K:=by
 have h0:0<l.length:=by rw [e];exact Nat.zero_lt_succ _
 unfold yda yg3
 rw [yaI]
 refine yA6 (by omega) (yqD (by omega) (yk2 (yhe h0) ⟨l.length+1,?_⟩))
 have e0:l.getD 0 0=x:=by rw [e];rfl
 rw [ybF h0,e0]
 refine yJs hl _ t 1 x _ (by rw [e];rfl) (by omega) (by rw [e,qAk];omega) ?_
 exact k
def mxf (m x:Int):Int:=if x>m then x else m
theorem yJt {l:List Int} (hl:l.length<9223372036854775807) (x0:List PV→Int→Int→Bool→Prop) :
  ∀ (rest:List Int) (i:Nat) (m:Int) (n:Nat),l.drop i=rest→i≤l.length→rest.length<n→x0 (ints l) (rest.foldl mxf m) (l.length:Int) false →
   ycs x0 n (ints l) m (i:Int):=by
 intro rest
 induction rest with
 | nil =>
  intro i m n hd hi hn k
  have:i=l.length:=by
   have:=congrArg List.length hd
   rw [qAs] at this
   have h2:([]:List Int).length=0:=rfl
   omega
  match n,hn with
  | n+1,_ =>
   unfold ycs
   rw [yaI,this]
   exact yA6 (by omega) k
 | cons x t ih =>
  intro i m n hd hi hn k
  have hlt:i<l.length:=by
   have:=congrArg List.length hd
   rw [qAs,qAk] at this
   omega
  have hx:l.getD i 0=x:=by
   have:=List.getElem_drop (xs:=l) (i:=i) (j:=0) (h:=by rw [hd];exact Nat.zero_lt_succ _)
   rw [qAb,qAd hlt]
   simp only [hd,List.getElem_cons_zero,Nat.add_zero] at this
   exact this.symm
  have ht:l.drop (i+1)=t:=by rw [← List.tail_drop,hd];rfl
  match n,hn with
  | n+1,hn =>
   unfold ycs
   rw [yaI]
   refine yHo (by omega) ?_
   refine yqD (by omega) (yqD (by omega) (yk2 (yhe (by omega)) ?_))
   rw [qAh,ybF hlt,hx,wi64 (n:=(i:Int)+1) ⟨by omega,by omega⟩]
   exact ih (i+1) _ n ht (by omega) (by rw [qAk] at hn;omega) k
theorem yJu {l:List Int} (hl:l.length<9223372036854775807) {x:Int} {t:List Int} (e:l=x::t) {K:Int→Prop} (k:K (t.foldl mxf x)):ydb (ints l) K:=by
 have h0:0<l.length:=by rw [e];exact Nat.zero_lt_succ _
 unfold ydb yg5
 rw [yaI]
 refine yA6 (by omega) (yqD (by omega) (yk2 (yhe h0) ⟨l.length+1,?_⟩))
 have e0:l.getD 0 0=x:=by rw [e];rfl
 rw [ybF h0,e0]
 refine yJt hl _ t 1 x _ (by rw [e];rfl) (by omega) (by rw [e,qAk];omega) ?_
 exact k
def incr (l:List Int) (i:Nat):Prop:=∀ j,i≤j→j+1<l.length→l.getD j 0<l.getD (j+1) 0
theorem yGH {l:List Int} {p2:List PV} {p0:Int} (hl:l.length<9223372036854775807) (W1 W2:List PV→(Int→Prop)→Prop) (x0:Int→Prop) (x1:Int→List PV→List PV→Int→Int→Bool→Prop) :
  ∀ (r i n:Nat),i+r+1=l.length→r<n→(incr l i→x1 p0 (ints l) p2 ((l.length:Int)-1) ((l.length:Int)-1) false)→(¬incr l i→x0 8) →
   ycZ W1 W2 x0 x1 n p0 (ints l) p2 ((l.length:Int)-1) (i:Int):=by
 intro r
 induction r with
 | zero =>
  intro i n hi hn k _
  match n,hn with
  | n+1,_ =>
   unfold ycZ
   have e:(i:Int)=(l.length:Int)-1:=by omega
   refine yA6 (by omega) ?_
   rw [e]
   exact k (fun j h1 h2=>by omega)
 | succ r ih =>
  intro i n hi hn k k0
  match n,hn with
  | n+1,hn =>
   unfold ycZ
   rw [wi64 (n:=(i:Int)+1) ⟨by omega,by omega⟩,yaI]
   have e1:((i:Int)+1)=((i+1:Nat):Int):=by omega
   rw [e1,qAh,qAh]
   refine yHo (by omega) (yqD (by omega) (yqD (by omega) (yk2 (yhe (by omega)) (yqD (by omega) (yqD (by omega) (yk2 (yhe (by omega)) ?_))))))
   rw [ybF (by omega),ybF (by omega)]
   by_cases h:l.getD i 0≥l.getD (i+1) 0
   ·exact yHo h (k0 fun hc=>absurd (hc i (qAj _) (by omega)) (by omega))
   ·refine yA6 h (ih (i+1) n (by omega) (by omega) (fun hc=>k fun j h1 h2=>?_) (fun hc=>k0 fun hd=>hc fun j h1 h2=>hd j (by omega) h2))
    by_cases hj:j=i
    ·subst hj;omega
    ·exact hc j (by omega) h2
def small (q:Rat):Prop:=-1000000000000000000≤q.num∧q.num≤1000000000000000000∧(q.den:Int)≤1000000000000000000
instance (q:Rat):Decidable (small q):=by unfold small;infer_instance
theorem small.rv {q:Rat} (h:small q):RV q.num q.den:=by
 obtain ⟨h1,h2,h3⟩:=h
 have:=q.den_pos
 exact ⟨by omega,h3,h1,h2,q.reduced⟩
theorem yC9 {n d:Int} (h:RV n d):∃ q:Rat,small q∧q.num=n∧(q.den:Int)=d:=by
 obtain ⟨h1,h2,h3,h4,h5⟩:=h
 refine ⟨⟨n,d.toNat,by omega,?_⟩,⟨h3,h4,by show ((d.toNat:Nat):Int)≤_;omega⟩,rfl,by show ((d.toNat:Nat):Int)=_;omega⟩
 have:d.natAbs=d.toNat:=by omega
 rw [this] at h5
 exact h5
theorem small.i1 {q:Rat} (h:small q):I64 q.num:=⟨by have:=h.1;omega,by have:=h.2.1;omega⟩
theorem small.i2 {q:Rat} (h:small q):I64 (q.den:Int):=⟨by omega,by have:=h.2.2;omega⟩
theorem yef {q r:Rat} (h:small q) (k:small r):chk2 q.num q.den r.num r.den=0:=ye9.2 ⟨h.rv,k.rv⟩
def fitK (q:Rat) (K:Int→Int→Int→Prop):Prop:=if small q then K q.num q.den 0 else K 0 0 16
theorem yze {q:Rat} {s:Bool} {a b:Int} (ha:a=(q.num.natAbs:Int)) (hb:b=(q.den:Int)) (hs:q.num≠0→s=decide (q.num<0)) (K:Int→Int→Int→Prop):outS s a b K=fitK q K:=by
 unfold outS fitK
 subst ha hb
 by_cases h:small q
 ·have h':=h
  obtain ⟨h1,h2,h3⟩:=h
  rw [if_pos (show _∧_ from ⟨by omega,h3⟩),if_pos h']
  have e:(if s=true then -((q.num.natAbs:Nat):Int) else ((q.num.natAbs:Nat):Int))=q.num:=by
   by_cases h0:q.num=0
   ·rw [h0];cases s <;> rfl
   ·rw [hs h0]
    by_cases h1:q.num<0
    ·rw [decide_eq_true h1,if_pos rfl];omega
    ·rw [decide_eq_false h1,if_neg (by simp)];omega
  rw [e]
 ·rw [if_neg h,if_neg]
  intro h2
  exact h ⟨by omega,by omega,h2.2⟩
theorem yE5 (x:Int) (g:Nat):(Int.tdiv x g).natAbs=x.natAbs / g:=by rw [Int.natAbs_tdiv,Int.natAbs_natCast];rfl
theorem yA7 {x:Int} {g:Nat} (h:(g:Int)∣x) (hx:x≠0):decide (Int.tdiv x g<0)=decide (x<0):=by
 obtain ⟨k,rfl⟩:=h
 have hg:(g:Int)≠0:=fun e=>hx (by rw [e,Int.zero_mul])
 rw [Int.mul_tdiv_cancel_left _ hg]
 have h1:(g:Int)>0:=by have:=qBs g;omega
 have:(g:Int)*k<0↔k<0:=by
  constructor
  ·intro h;refine Int.not_le.1 fun hk=>?_
   have:=qBc (show 0≤(g:Int) by omega) hk
   omega
  ·intro h;exact Int.mul_neg_of_pos_of_neg h1 h
 simp only [this]
theorem yIm (q r:Rat):(q*r).num=Int.tdiv q.num (Nat.gcd q.num.natAbs r.den)*Int.tdiv r.num (Nat.gcd r.num.natAbs q.den) ∧
  (q*r).den=(q.den / Nat.gcd r.num.natAbs q.den)*(r.den / Nat.gcd q.num.natAbs r.den):=by
 have e:q*r=Rat.mul q r:=rfl
 rw [e]
 delta Rat.mul
 constructor
 ·simp only [Int.divExact_eq_tdiv]
 ·simp only [Nat.divExact_eq_div]
theorem ylF (x:Int) (d:Nat):((Nat.gcd x.natAbs d:Nat):Int)∣x:=by
 rw [← Int.dvd_natAbs,Int.ofNat_dvd];exact Nat.gcd_dvd_left _ _
theorem yHp {x:Int} {g:Nat} (h:(g:Int)∣x) (hx:x≠0):Int.tdiv x g≠0:=by
 obtain ⟨k,rfl⟩:=h
 have hg:(g:Int)≠0:=fun e=>hx (by rw [e,Int.zero_mul])
 rw [Int.mul_tdiv_cancel_left _ hg]
 intro e;rw [e,Int.mul_zero] at hx;exact hx rfl
theorem yJv {x y:Int} (hx:x≠0) (hy:y≠0):decide (x*y<0)=(decide (x<0) != decide (y<0)):=by
 by_cases h1:x<0 <;> by_cases h2:y<0
 ·have:=Int.mul_pos_of_neg_of_neg h1 h2
  simp [h1,h2];omega
 ·have:=qB6 h1 (show 0<y by omega)
  simp [h1,h2];omega
 ·have:=Int.mul_neg_of_pos_of_neg (show 0<x by omega) h2
  simp [h1,h2];omega
 ·have:=Int.mul_pos (show 0<x by omega) (show 0<y by omega)
  simp [h1,h2];omega
theorem yDa (q r:Rat) (K:Int→Int→Int→Prop):outS (decide (q.num<0) != decide (r.num<0)) (numM q.num r.num q.den r.den) (denM q.num r.num q.den r.den) K=fitK (q*r) K:=by
 obtain ⟨e1,e2⟩:=yIm q r
 refine yze ?_ ?_ ?_ K
 ·rw [e1,Int.natAbs_mul,yE5,yE5]
  simp only [numM,Int.natAbs_natCast]
 ·rw [e2]
  simp only [denM,Int.natAbs_natCast]
 ·intro h
  rw [e1] at h ⊢
  have h1:q.num≠0:=fun e=>h (by rw [e,Int.zero_tdiv,Int.zero_mul])
  have h2:r.num≠0:=fun e=>h (by rw [e,Int.zero_tdiv,Int.mul_zero])
  rw [yJv (yHp (ylF _ _) h1) (yHp (ylF _ _) h2),yA7 (ylF _ _) h1,yA7 (ylF _ _) h2]
theorem yt4 {w:(Int→Int→Int→Prop)→Prop} {q:Rat} (det:∀ r0 r1 r2,(∀ K:Int→Int→Int→Prop,K r0 r1 r2→w K)→∀ K,w K=K r0 r1 r2) (h:∀ K,fitK q K→w K) (K:Int→Int→Int→Prop):w K=fitK q K:=by
 unfold fitK at h ⊢
 by_cases hs:small q
 ·simp only [if_pos hs] at h ⊢
  exact det _ _ _ h K
 ·simp only [if_neg hs] at h ⊢
  exact det _ _ _ h K
theorem yxo {q r:Rat} (hq:small q) (hr:small r) (K:Int→Int→Int→Prop):ybg q.num q.den r.num r.den K=fitK (q*r) K :=
 yt4 (fun r0 r1 r2 h K=>yzT _ _ _ _ r0 r1 r2 h K) (fun K k=>yGG hq.i1 hq.i2 hr.i1 hr.i2 (by rw [if_pos (yef hq hr),yDa];exact k)) K
theorem yvB {r:Rat} (h:r≠0):(r⁻¹).num=(if r.num<0 then -(r.den:Int) else r.den)∧(r⁻¹).den=r.num.natAbs:=by
 have h0:r.num≠0:=fun e=>h (Rat.num_eq_zero.1 e)
 constructor
 ·rw [Rat.num_inv]
  by_cases h1:r.num<0
  ·rw [if_pos h1,Int.sign_eq_neg_one_of_neg h1];omega
  ·rw [if_neg h1,Int.sign_eq_one_of_pos (by omega)];omega
 ·rw [Rat.den_inv,if_neg h0]
theorem small.inv {r:Rat} (h:small r) (h0:r≠0):small r⁻¹:=by
 obtain ⟨e1,e2⟩:=yvB h0
 obtain ⟨h1,h2,h3⟩:=h
 unfold small
 rw [e1,e2]
 split <;> omega
theorem yKE {q r:Rat} (hq:small q) (hr:small r) (h0:r≠0) (K:Int→Int→Int→Prop):ycx q.num q.den r.num r.den K=fitK (q / r) K:=by
 have hn:r.num≠0:=fun e=>h0 (Rat.num_eq_zero.1 e)
 refine yt4 (fun r0 r1 r2 h K=>yzU _ _ _ _ r0 r1 r2 h K) (fun K k=>yLM hq.i1 hq.i2 hr.i1 hr.i2 ?_) K
 rw [if_pos (yef hq hr),if_neg hn]
 rw [Rat.div_def,← yDa] at k
 obtain ⟨e1,e2⟩:=yvB h0
 rw [e1,e2] at k
 have s:decide ((if r.num<0 then -(r.den:Int) else (r.den:Int))<0)=decide (r.num<0):=by
  have:=r.den_pos
  split
  ·rename_i h;simp only [h];simp;omega
  ·rename_i h;simp only [h];simp
 rw [s] at k
 have hd:(if r.num<0 then -(r.den:Int) else (r.den:Int)).natAbs=r.den:=by split <;> omega
 unfold numM denM at k ⊢
 simp only [hd,Int.natAbs_natCast] at k ⊢
 exact k
theorem yIn (q r:Rat):(q+r).num=(q.num*(r.den / Nat.gcd q.den r.den:Nat)+r.num*(q.den / Nat.gcd q.den r.den:Nat)) / (Nat.gcd (q.num*(r.den / Nat.gcd q.den r.den:Nat)+r.num*(q.den / Nat.gcd q.den r.den:Nat)).natAbs (Nat.gcd q.den r.den):Nat) ∧
  (q+r).den=(q.den / Nat.gcd q.den r.den)*r.den / Nat.gcd (q.num*(r.den / Nat.gcd q.den r.den:Nat)+r.num*(q.den / Nat.gcd q.den r.den:Nat)).natAbs (Nat.gcd q.den r.den):=by
 have e:q+r=Rat.add q r:=rfl
 rw [e]
 delta Rat.add
 by_cases hg:q.den.gcd r.den=1
 ·simp only [hg,dif_pos,Nat.div_one,Nat.gcd_one_right,Int.natCast_one,Int.ediv_one,and_self]
 ·simp only [hg,dif_neg,not_false_eq_true,Rat.maybeNormalize_eq]
  constructor
  ·first | rfl | simp only [Int.divExact_eq_tdiv]
  ·first | rfl | simp only []
theorem yJw {q r:Rat} {Z:Int} {g:Nat} (e1:(q+r).num=Z / (Nat.gcd Z.natAbs g:Nat)) (e2:(q+r).den=(q.den / g)*r.den / Nat.gcd Z.natAbs g) (hgp:0<g) (hgd:g∣r.den) (K:Int→Int→Int→Prop) :
  outA (decide (Z<0)) (Z.natAbs:Int) q.den r.den g K=fitK (q+r) K:=by
 unfold outA
 by_cases h0:Z=0
 ·subst h0
  have:(q+r)=0:=by
   apply Rat.num_eq_zero.1
   rw [e1];simp
  rw [this,if_pos (by rfl)]
  unfold fitK
  rw [if_pos (by decide)];rfl
 ·have hne:¬((Z.natAbs:Nat):Int)=0:=by omega
  rw [if_neg hne]
  have hdv:((Nat.gcd Z.natAbs g:Nat):Int)∣Z:=ylF _ _
  have hhp:0<Nat.gcd Z.natAbs g:=qBb _ hgp
  have hhg:Nat.gcd Z.natAbs g∣r.den:=Nat.dvd_trans (Nat.gcd_dvd_right _ _) hgd
  refine yze ?_ ?_ ?_ K
  ·rw [e1,Int.natAbs_ediv_of_dvd hdv];simp
  ·rw [e2];simp only [qAh];rw [Nat.mul_div_assoc _ hhg]
  ·intro h
   rw [e1]
   obtain ⟨k,hk⟩:=hdv
   revert hhp hk
   generalize Nat.gcd Z.natAbs g=h
   intro hhp hk
   have e:Z / (h:Int)=k:=by rw [hk,Int.mul_ediv_cancel_left _ (by omega)]
   rw [e]
   have:Z<0↔k<0:=by
    rw [hk]
    constructor
    ·intro hk;refine Int.not_le.1 fun hk2=>?_
     have:=qBc (show 0≤(h:Int) by omega) hk2
     omega
    ·intro hk;exact Int.mul_neg_of_pos_of_neg (by omega) hk
   simp only [this]
theorem yDb (q r:Rat) (K:Int→Int→Int→Prop) :
  outA (decide (q.num*((r.den:Int) / (Nat.gcd (q.den:Int).natAbs (r.den:Int).natAbs:Nat))+r.num*((q.den:Int) / (Nat.gcd (q.den:Int).natAbs (r.den:Int).natAbs:Nat))<0))
   ((q.num*((r.den:Int) / (Nat.gcd (q.den:Int).natAbs (r.den:Int).natAbs:Nat))+r.num*((q.den:Int) / (Nat.gcd (q.den:Int).natAbs (r.den:Int).natAbs:Nat))).natAbs:Int) q.den r.den (Nat.gcd (q.den:Int).natAbs (r.den:Int).natAbs) K=fitK (q+r) K:=by
 obtain ⟨e1,e2⟩:=yIn q r
 rw [qA0,qA0] at e1 e2
 exact yJw e1 e2 (Nat.gcd_pos_of_pos_left _ q.den_pos) (Nat.gcd_dvd_right _ _) K
theorem yDc {q r:Rat} (hq:small q) (hr:small r) (K:Int→Int→Int→Prop):ybC q.num q.den r.num r.den K=fitK (q+r) K :=
 yt4 (fun r0 r1 r2 h K=>yzR _ _ _ _ r0 r1 r2 h K) (fun K k=>yJr hq.i1 hq.i2 hr.i1 hr.i2 (by rw [if_pos (yef hq hr),yDb];exact k)) K
theorem yxp {q r:Rat} (hq:small q) (hr:small r) (K:Int→Int→Int→Prop):ybH q.num q.den r.num r.den K=fitK (q-r) K :=
 yt4 (fun r0 r1 r2 h K=>yzS _ _ _ _ r0 r1 r2 h K) (fun K k=>yLN hq.i1 hq.i2 hr.i1 hr.i2 (by
  rw [if_pos (yef hq hr)]
  rw [Rat.sub_eq_add_neg,← yDb] at k
  exact k)) K
theorem yE6 {n d:Int} (hd:d≠0) (K:Int→Int→Int→Prop):outS (decide (n<0) != decide (d<0)) ((n.natAbs / Nat.gcd n.natAbs d.natAbs:Nat):Int) ((d.natAbs / Nat.gcd n.natAbs d.natAbs:Nat):Int) K=fitK ((n:Rat) / (d:Rat)) K:=by
 have e:(n:Rat) / (d:Rat)=mkRat (if d<0 then -n else n) d.natAbs:=by
  rw [Rat.mkRat_eq_div]
  split
  ·rename_i h
   have h1:((d.natAbs:Nat):Int)=-d:=by omega
   have h2:((d.natAbs:Nat):Rat)=-(d:Rat):=by rw [← Rat.intCast_natCast,h1,Rat.intCast_neg]
   rw [h2,Rat.intCast_neg]
   have h3:(d:Rat)≠0:=fun e=>hd (Rat.intCast_eq_zero_iff.1 e)
   grind
  ·rename_i h
   have h1:((d.natAbs:Nat):Int)=d:=by omega
   have h2:((d.natAbs:Nat):Rat)=(d:Rat):=by rw [← Rat.intCast_natCast,h1]
   rw [h2]
 have h0:d.natAbs≠0:=by omega
 have hab:(if d<0 then -n else n).natAbs=n.natAbs:=by split <;> omega
 rw [e]
 refine yze ?_ ?_ ?_ K
 ·rw [Rat.num_mkRat,if_neg h0,hab,Int.natAbs_ediv_of_dvd,Int.natAbs_natCast,hab,Nat.gcd_comm]
  rw [← Int.dvd_natAbs,Int.ofNat_dvd,hab];exact Nat.gcd_dvd_right _ _
 ·rw [Rat.den_mkRat,if_neg h0,hab,Nat.gcd_comm]
 ·rw [Rat.num_mkRat,if_neg h0,hab]
  have hdv:((Nat.gcd d.natAbs n.natAbs:Nat):Int)∣(if d<0 then -n else n):=by
   rw [← Int.dvd_natAbs,Int.ofNat_dvd,hab];exact Nat.gcd_dvd_right _ _
  have hp:0<Nat.gcd d.natAbs n.natAbs:=Nat.gcd_pos_of_pos_left _ (by omega)
  obtain ⟨k,hk⟩:=hdv
  rw [hk,Int.mul_ediv_cancel_left _ (by omega)]
  intro hk0
  generalize Nat.gcd d.natAbs n.natAbs=g at *
  have h1:(g:Int)*k<0↔k<0:=by
   constructor
   ·intro hk;refine Int.not_le.1 fun hk2=>?_
    have:=qBc (show 0≤(g:Int) by omega) hk2
    omega
   ·intro hk;exact Int.mul_neg_of_pos_of_neg (by omega) hk
  have h2:(g:Int)*k≠0:=fun e=>by rcases Int.mul_eq_zero.1 e with e | e <;> omega
  by_cases hd2:d<0
  ·rw [if_pos hd2] at hk
   by_cases hn:n<0
   ·have:¬k<0:=by omega
    simp [hd2,hn,this]
   ·have:k<0:=by omega
    simp [hd2,this];omega
  ·rw [if_neg hd2] at hk
   by_cases hn:n<0
   ·have:k<0:=by omega
    simp [hd2,hn,this]
   ·have:¬k<0:=by omega
    simp [hd2,this];omega
theorem yJx {n d:Int} (hn:I64 n) (hd:I64 d) (h0:d≠0) (K:Int→Int→Int→Prop):yaR n d K=fitK ((n:Rat) / (d:Rat)) K :=
 yt4 (fun r0 r1 r2 h K=>yyI _ _ r0 r1 r2 h K) (fun K k=>yKC hn hd (by rw [if_neg h0,yE6 h0];exact k)) K
def cmpQ (q r:Rat):Int:=if q<r then -1 else if r<q then 1 else 0
theorem yKF (q r:Rat):cmpR q.num q.den r.num r.den=cmpQ q r:=by
 unfold cmpR cmp3 cmpQ
 simp only [Rat.lt_iff]
theorem yxq {q r:Rat} (hq:small q) (hr:small r) (K:Int→Int→Prop):ya0 q.num q.den r.num r.den K=K (cmpQ q r) 0 :=
 yzQ _ _ _ _ _ _ (fun K k=>yLI hq.i1 hq.i2 hr.i1 hr.i2 (by rw [yef hq hr,if_pos rfl,yKF];exact k)) K
theorem yA8 {n d:Int} (hn:I64 n) (hd:I64 d) (K:Int→Prop):ybA n d K=K (chk n d) :=
 ywF _ _ _ (fun _ k=>yzc hn hd k) K
theorem ygK {p:Int} (h:I64 p) (K:Int→Prop):yf3 p K=K (p.natAbs:Int):=by
 unfold I64 at h
 unfold yf3 yrH
 by_cases hp:p<0
 ·have e0:IntKind.i64.wrap (p+1)=p+1:=wi64 ⟨by omega,by omega⟩
  have e1:IntKind.i64.wrap ((0:Int)-(p+1))=-(p+1):=by rw [wi64 ⟨by omega,by omega⟩];omega
  have e2:IntKind.u64.wrap (-(p+1))=-(p+1):=wu64 ⟨by omega,by omega⟩
  have e3:IntKind.u64.wrap (-(p+1)+1)=(p.natAbs:Int):=by rw [wu64 ⟨by omega,by omega⟩];omega
  rw [decide_eq_true hp,yag,e0,e1,e2,e3]
 ·rw [decide_eq_false hp,yad,wu64 ⟨by omega,by omega⟩]
  congr 1
  omega
theorem yA9 (x:Int→Int→Bool→Prop):∀ (n a b:Nat),b<n→yfq x n (a:Int) (b:Int)=x ((Nat.gcd a b:Nat):Int) 0 false
 | 0,a,b,h=>by omega
 | n+1,a,b,h=>by
  unfold yfq
  by_cases hb:b=0
  ·subst hb
   simp [cbr]
  ·have h1:((b:Int) != 0)=true:=by simp;omega
   have h2:¬((b:Int)=0):=by omega
   rw [h1,yag,decide_eq_false h2,qA3,yaG]
   have e:Int.tmod (a:Int) (b:Int)=((a % b:Nat):Int):=by rw [Int.tmod_eq_emod_of_nonneg (by omega)];omega
   rw [e,yA9 x n b (a % b) (by have:=Nat.mod_lt a (show b>0 by omega);omega)]
   rw [Nat.gcd_comm a b,Nat.gcd_rec b a,Nat.gcd_comm]
theorem ypy (a b:Nat) (K:Int→Prop):ydd (a:Int) (b:Int) K=K ((Nat.gcd a b:Nat):Int):=by
 refine yEK _ _ _ (fun K h=>?_) K
 unfold ydd yrI
 exact ⟨b+1,by rw [yA9 _ (b+1) a b (by omega)];exact h⟩
theorem ywp {a b:Int} (h:a=b):(a != b)=false:=by simp [h]
theorem yE7 {a b:Int} (h:a≠b):(a != b)=true:=by simp [h]
theorem yBa {a b:Int} (h:a≠b):(a == b)=false:=by simp [h]
theorem yJy {a b:Int} (h:a=b):(a == b)=true:=by simp [h]
theorem ylG {n d:Int} (hn:I64 n) (_:I64 d) (K:Int→Prop):ydw n d K=K (chk n d):=by
 unfold ydw ymF
 by_cases h1:d<1
 ·rw [decide_eq_true h1,yag,chk,if_neg (fun h=>by have:=h.1;omega)]
 ·rw [decide_eq_false h1,yad]
  by_cases h2:d>1000000000000000000
  ·rw [decide_eq_true h2,yag,chk,if_neg (fun h=>by have:=h.2.1;omega)]
  ·rw [decide_eq_false h2,yad]
   by_cases h3:n < -1000000000000000000
   ·rw [decide_eq_true h3,yag,chk,if_neg (fun h=>by have:=h.2.2.1;omega)]
   ·rw [decide_eq_false h3,yad]
    by_cases h4:n>1000000000000000000
    ·rw [decide_eq_true h4,yag,chk,if_neg (fun h=>by have:=h.2.2.2.1;omega)]
    ·have ed:IntKind.u64.wrap d=((d.natAbs:Nat):Int):=by rw [wu64 ⟨by omega,by omega⟩];omega
     rw [decide_eq_false h4,yad,ygK hn,ed,ypy]
     by_cases h5:Nat.gcd n.natAbs d.natAbs=1
     ·rw [h5,ywp (by rfl),yad,chk,if_pos ⟨by omega,by omega,by omega,by omega,h5⟩]
     ·rw [yE7 (by omega),yag,chk,if_neg (fun h=>h5 h.2.2.2.2)]
theorem yt5 {a b c d:Int} (ha:I64 a) (hb:I64 b) (hc:I64 c) (hd:I64 d) (K:Int→Prop):yfO a b c d K=K (chk2 a b c d):=by
 unfold yfO yoE
 rw [ylG ha hb,ylG ha hb,ylG hc hd,chk2]
 by_cases h:chk a b=0
 ·rw [ywp h,yad,if_pos h]
 ·rw [yE7 h,yag,if_neg h]
theorem or32 {m s:Int} (_:0≤m) (hs:0≤s∧s<4294967296):IntKind.u64.wrap (BitVec.ofInt IntKind.u64.bits (IntKind.u64.wrap (m*4294967296))|||BitVec.ofInt IntKind.u64.bits s).toNat=m % 4294967296*4294967296+s:=by
 have e:IntKind.u64.wrap (m*4294967296)=m % 4294967296*2 ^ 32:=by rw [yh6];omega
 rw [e,yJo (k:=32) (by omega) ⟨hs.1,by omega⟩ ⟨by omega,by omega⟩ (by omega)]
 omega
theorem yJz {a b:Int} (ha:U64 a) (hb:U64 b) (K:Int→Int→Prop):yd1 a b K=K (a*b / 18446744073709551616) (a*b % 18446744073709551616):=by
 unfold yd1 ymH
 simp only [yJm]
 rw [ynd ha,ynd hb]
 unfold U64 at ha hb
 have ha':=ha;have hb':=hb
 obtain ⟨x1,hx1⟩:∃ x,x=a / 4294967296:=⟨_,rfl⟩
 obtain ⟨x0,hx0⟩:∃ x,x=a % 4294967296:=⟨_,rfl⟩
 obtain ⟨y1,hy1⟩:∃ x,x=b / 4294967296:=⟨_,rfl⟩
 obtain ⟨y0,hy0⟩:∃ x,x=b % 4294967296:=⟨_,rfl⟩
 rw [← hx1,← hx0,← hy1,← hy0]
 have b1:0≤x1∧x1≤4294967295:=by omega
 have b2:0≤x0∧x0≤4294967295:=by omega
 have b3:0≤y1∧y1≤4294967295:=by omega
 have b4:0≤y0∧y0≤4294967295:=by omega
 have pb:∀ x y:Int,0≤x∧x≤4294967295→0≤y∧y≤4294967295→0≤x*y∧x*y≤18446744065119617025:=by
  intro x y hx hy
  refine ⟨qBc hx.1 hy.1,?_⟩
  have:=qCb hx.2 hy.2 hy.1 (by omega:(0:Int)≤4294967295)
  omega
 have p1:=pb x1 y1 b1 b3
 have p2:=pb x1 y0 b1 b4
 have p3:=pb x0 y1 b2 b3
 have p4:=pb x0 y0 b2 b4
 have ea:a=x1*4294967296+x0:=by omega
 have eb:b=y1*4294967296+y0:=by omega
 have eab:a*b=x1*y1*18446744073709551616+x1*y0*4294967296+x0*y1*4294967296+x0*y0:=by
  rw [ea,eb];grind
 obtain ⟨P,hP⟩:∃ x,x=x1*y1:=⟨_,rfl⟩
 obtain ⟨Q,hQ⟩:∃ x,x=x1*y0:=⟨_,rfl⟩
 obtain ⟨R,hR⟩:∃ x,x=x0*y1:=⟨_,rfl⟩
 obtain ⟨S,hS⟩:∃ x,x=x0*y0:=⟨_,rfl⟩
 rw [← hP] at p1;rw [← hQ] at p2;rw [← hR] at p3;rw [← hS] at p4
 rw [← hP,← hQ,← hR,← hS] at eab ⊢
 have w1:IntKind.u64.wrap S=S:=wu64 ⟨by omega,by omega⟩
 have w2:IntKind.u64.wrap Q=Q:=wu64 ⟨by omega,by omega⟩
 have w3:IntKind.u64.wrap R=R:=wu64 ⟨by omega,by omega⟩
 have w4:IntKind.u64.wrap P=P:=wu64 ⟨by omega,by omega⟩
 rw [w1,w2,w3,w4,ynd (p:=Q) ⟨by omega,by omega⟩,ynd (p:=S) ⟨by omega,by omega⟩]
 have w5:IntKind.u64.wrap (Q % 4294967296+R)=Q % 4294967296+R:=wu64 ⟨by omega,by omega⟩
 rw [w5]
 have w6:IntKind.u64.wrap (Q % 4294967296+R+S / 4294967296)=Q % 4294967296+R+S / 4294967296:=wu64 ⟨by omega,by omega⟩
 rw [w6,or32 (by omega) ⟨by omega,by omega⟩]
 have hab:a*b≤18446744073709551615*18446744073709551615:=qCb ha'.2 hb'.2 hb'.1 (by omega:(0:Int)≤18446744073709551615)
 rw [eab] at hab ⊢
 have w7:IntKind.u64.wrap (P+Q / 4294967296)=P+Q / 4294967296:=wu64 ⟨by omega,by omega⟩
 rw [w7,wu64 ⟨by omega,by omega⟩]
 congr 1 <;> omega
theorem yDd {X Y:Int} (hx:0≤X) (hy:0≤Y) (hs:X+Y<340282366920938463463374607431768211456) (K:Int→Int→Prop) :
  ydE (X / 18446744073709551616) (X % 18446744073709551616) (Y / 18446744073709551616) (Y % 18446744073709551616) K=K ((X+Y) / 18446744073709551616) ((X+Y) % 18446744073709551616):=by
 unfold ydE yoF
 rw [yh6,yh6,yh6]
 by_cases h:(X % 18446744073709551616+Y % 18446744073709551616) % 18446744073709551616<X % 18446744073709551616
 ·rw [decide_eq_true h,yag]
  congr 1 <;> omega
 ·rw [decide_eq_false h,yad]
  congr 1 <;> omega
theorem yE8 {X Y:Int} (hy:0≤Y) (hs:Y≤X) (hx:X<340282366920938463463374607431768211456) (K:Int→Int→Prop) :
  yf4 (X / 18446744073709551616) (X % 18446744073709551616) (Y / 18446744073709551616) (Y % 18446744073709551616) K=K ((X-Y) / 18446744073709551616) ((X-Y) % 18446744073709551616):=by
 unfold yf4 yir
 rw [yh6,yh6,yh6]
 by_cases h:X % 18446744073709551616<Y % 18446744073709551616
 ·rw [decide_eq_true h,yag]
  congr 1 <;> omega
 ·rw [decide_eq_false h,yad]
  congr 1 <;> omega
theorem yt6 {X Y:Int} (_:0≤X) (_:0≤Y) (K:Bool→Prop) :
  yjs (X / 18446744073709551616) (X % 18446744073709551616) (Y / 18446744073709551616) (Y % 18446744073709551616) K=K (decide (X<Y)):=by
 unfold yjs yoC
 by_cases h:X / 18446744073709551616<Y / 18446744073709551616
 ·rw [decide_eq_true h,yag,decide_eq_true (by omega)]
 ·rw [decide_eq_false h,yad]
  by_cases h2:X / 18446744073709551616=Y / 18446744073709551616
  ·rw [yJy h2,yag]
   congr 1
   rw [decide_eq_decide];omega
  ·rw [yBa h2,yad,decide_eq_false (by omega)]
theorem yMc {i:Int} (h:0≤i∧i≤127):IntKind.i64.wrap (BitVec.ofInt IntKind.i64.bits i&&&BitVec.ofInt IntKind.i64.bits (63:Int)).toNat=i % 64:=by
 have e1:(BitVec.ofInt 64 i).toNat=i.toNat:=by
  rw [BitVec.toNat_ofInt];omega
 have e2:(BitVec.ofInt 64 (63:Int)).toNat=63:=rfl
 have e3:(BitVec.ofInt IntKind.i64.bits i&&&BitVec.ofInt IntKind.i64.bits (63:Int)).toNat=i.toNat % 64:=by
  show (BitVec.ofInt 64 i&&&BitVec.ofInt 64 (63:Int)).toNat=_
  rw [BitVec.toNat_and,e1,e2]
  exact Nat.and_two_pow_sub_one_eq_mod i.toNat 6
 rw [e3,wi64 ⟨by omega,by omega⟩]
 omega
theorem and1 {p:Int} (h:U64 p):IntKind.u64.wrap (BitVec.ofInt IntKind.u64.bits p&&&BitVec.ofInt IntKind.u64.bits (1:Int)).toNat=p % 2:=by
 unfold U64 at h
 have e1:(BitVec.ofInt 64 p).toNat=p.toNat:=by
  rw [BitVec.toNat_ofInt];omega
 have e2:(BitVec.ofInt 64 (1:Int)).toNat=1:=rfl
 have e3:(BitVec.ofInt IntKind.u64.bits p&&&BitVec.ofInt IntKind.u64.bits (1:Int)).toNat=p.toNat % 2:=by
  show (BitVec.ofInt 64 p&&&BitVec.ofInt 64 (1:Int)).toNat=_
  rw [BitVec.toNat_and,e1,e2]
  exact Nat.and_two_pow_sub_one_eq_mod p.toNat 1
 rw [e3,yh6]
 omega
theorem or1 {m s:Int} (hm:0≤m∧m≤9223372036854775807) (hs:0≤s∧s<2):IntKind.u64.wrap (BitVec.ofInt IntKind.u64.bits (m*2)|||BitVec.ofInt IntKind.u64.bits s).toNat=m*2+s:=by
 have:=yJo (a:=m) (b:=s) (k:=1) hm.1 ⟨hs.1,by omega⟩ ⟨by omega,by omega⟩ (by omega)
 simpa using this
theorem ypa (i:Nat):(2:Int) ^ i=((2 ^ i:Nat):Int):=by rw [Int.natCast_pow];rfl
theorem yKG {W:Nat} (hW:W=2 ^ 64) {A:Int} (hA:0≤A) {i:Nat} (hi:i<64):A % (W:Int) / (2 ^ i:Int) % ((2:Nat):Int)=A / (2 ^ i:Int) % ((2:Nat):Int):=by
 obtain ⟨a,rfl⟩:∃ a:Nat,A=a:=⟨A.toNat,by omega⟩
 have:(a % W / 2 ^ i % 2:Nat)=a / 2 ^ i % 2:=by
  have e:W=2 ^ i*2 ^ (64-i):=by rw [← Nat.pow_add];rw [show i+(64-i)=64 by omega,hW]
  rw [e,Nat.mod_mul_right_div_self]
  have e2:2 ^ (64-i)=2*2 ^ (63-i):=by rw [show 64-i=(63-i)+1 by omega,Nat.pow_succ,Nat.mul_comm]
  rw [e2,Nat.mod_mul_right_mod]
 rw [ypa,← Int.natCast_emod,← qA0,← Int.natCast_emod,← qA0,← Int.natCast_emod,this]
theorem yLP {A:Int} (hA:0≤A) {i:Nat} (hi:i<64):A % 18446744073709551616 / (2 ^ i:Int) % 2=A / (2 ^ i:Int) % 2:=yKG (W:=18446744073709551616) rfl hA hi
theorem yKH {W:Nat} (hW:W=2 ^ 64) {A:Int} (hA:0≤A) {i:Nat} (hi:64≤i):A / (W:Int) / (2 ^ (i-64):Int)=A / (2 ^ i:Int):=by
 obtain ⟨a,rfl⟩:∃ a:Nat,A=a:=⟨A.toNat,by omega⟩
 have:(a / W / 2 ^ (i-64):Nat)=a / 2 ^ i:=by
  have e:(2 ^ i:Nat)=W*2 ^ (i-64):=by
   rw [hW,← Nat.pow_add,show 64+(i-64)=i by omega]
  rw [e,Nat.div_div_eq_div_mul]
 rw [ypa,ypa,← qA0,← qA0,← qA0,this]
theorem yLQ {A:Int} (hA:0≤A) {i:Nat} (hi:64≤i):A / 18446744073709551616 / (2 ^ (i-64):Int)=A / (2 ^ i:Int):=yKH (W:=18446744073709551616) rfl hA hi
theorem yJA {d B q r b:Int} (hd:0<d) (hq:B / d=q) (hr:B % d=r) (hb:0≤b∧b≤1) :
  (2*B+b) / d=(if 2*r+b≥d then 2*q+1 else 2*q)∧(2*B+b) % d=(if 2*r+b≥d then 2*r+b-d else 2*r+b):=by
 have h1:=Int.mul_ediv_add_emod B d
 have h2:=Int.emod_nonneg B (show d≠0 by omega)
 have h3:=Int.emod_lt_of_pos B hd
 rw [hq,hr] at h1
 rw [hr] at h2 h3
 split
 ·refine (Int.ediv_emod_unique hd).2 ⟨?_,by omega,by omega⟩
  grind
 ·refine (Int.ediv_emod_unique hd).2 ⟨?_,by omega,by omega⟩
  grind
theorem yGI {A d:Int} (hA:0≤A∧A<340282366920938463463374607431768211456) (hd:0<d∧d<9223372036854775808) {x0:Int→Int→Int→Int→Int→Int→Int→Int→Int→Bool→Prop}
  (k0:x0 d (A / 18446744073709551616) (A % 18446744073709551616) 0 0 (A / d / 18446744073709551616) (A / d % 18446744073709551616) (A % d) (-1) false) :
  ∀ (k n:Nat),k≤128→k<n→ybw ydE x0 n d (A / 18446744073709551616) (A % 18446744073709551616) 0 0
   (A / 2 ^ k / d / 18446744073709551616) (A / 2 ^ k / d % 18446744073709551616) (A / 2 ^ k % d) ((k:Int)-1):=by
 intro k
 induction k with
 | zero =>
  intro n _ hn
  match n,hn with
  | n+1,_ =>
   unfold ybw
   rw [decide_eq_false (by omega),yad]
   have e:A / 2 ^ 0=A:=by rw [Int.pow_zero,Int.ediv_one]
   rw [e]
   exact k0
 | succ k ih =>
  intro n hk hn
  match n,hn with
  | n+1,hn =>
   unfold ybw
   have e8:((k+1:Nat):Int)-1=(k:Int):=by omega
   rw [e8,decide_eq_true (by omega),yag]
   rw [yMc (i:=(k:Int)) ⟨by omega,by omega⟩]
   have en:(!decide ((k:Int) % 64<0))=true:=by rw [decide_eq_false (by omega)];rfl
   have em:min ((k:Int) % 64).toNat IntKind.u64.bits=k % 64:=by show min _ 64=_;omega
   rw [en,yaG,yaG,em]
   have pp:∀ m:Nat,(0:Int)≤2 ^ m:=fun m=>by rw [ypa];exact qBs _
   have p1:∀ m:Nat,(0:Int)<2 ^ m:=fun m=>by rw [ypa];exact Int.natCast_pos.2 (Nat.two_pow_pos m)
   simp only [ywo _ _ (pp _)]
   have hC0:0≤A / 2 ^ k:=qCc hA.1 (pp _)
   have hCA:A / 2 ^ k≤A:=Int.ediv_le_self _ hA.1
   have hBC:A / 2 ^ (k+1)=A / 2 ^ k / 2:=by
    rw [Int.pow_succ,Int.ediv_ediv_of_nonneg (pp k)]
   obtain ⟨C,hC⟩:∃ C,C=A / 2 ^ k:=⟨_,rfl⟩
   have ih2:=ih n (by omega) (by omega)
   rw [← hC] at hC0 hCA hBC ih2
   rw [hBC]
   obtain ⟨b,hb⟩:∃ b,b=C % 2:=⟨_,rfl⟩
   have hCb:C=2*(C / 2)+b:=by omega
   obtain ⟨s1,s2⟩:=yJA (B:=C / 2) (b:=b) hd.1 rfl rfl ⟨by omega,by omega⟩
   rw [← hCb] at s1 s2
   have r0:=Int.emod_nonneg (C / 2) (show d≠0 by omega)
   have r1:=Int.emod_lt_of_pos (C / 2) hd.1
   have q0:0≤C / 2 / d:=qCc (by omega) (by omega)
   have q1:C / 2 / d≤C / 2:=Int.ediv_le_self _ (by omega)
   rw [s1,s2] at ih2
   obtain ⟨q,hq⟩:∃ q,q=C / 2 / d:=⟨_,rfl⟩
   obtain ⟨r,hr⟩:∃ r,r=C / 2 % d:=⟨_,rfl⟩
   rw [← hq,← hr] at ih2
   rw [← hq] at q0 q1
   rw [← hr] at r0 r1
   rw [← hq,← hr]
   have e2:IntKind.u64.wrap (r*2)=r*2:=wu64 ⟨by omega,by omega⟩
   rw [e2,wi64 (n:=(k:Int)-1) ⟨by omega,by omega⟩]
   rw [yDd q0 q0 (by omega),yDd q0 q0 (by omega)]
   have hlo:0≤A % 18446744073709551616 / 2 ^ (k % 64)∧A % 18446744073709551616 / 2 ^ (k % 64)≤18446744073709551615:=by
    refine ⟨qCc (by omega) (pp _),?_⟩
    have:=Int.ediv_le_self (a:=A % 18446744073709551616) (2 ^ (k % 64)) (by omega)
    omega
   have hhi:0≤A / 18446744073709551616 / 2 ^ (k % 64)∧A / 18446744073709551616 / 2 ^ (k % 64)≤18446744073709551615:=by
    refine ⟨qCc (by omega) (pp _),?_⟩
    have:=Int.ediv_le_self (a:=A / 18446744073709551616) (2 ^ (k % 64)) (by omega)
    omega
   rw [and1 hlo,and1 hhi]
   have go:∀ bb:Int,bb=b→cbr (decide (IntKind.u64.wrap (BitVec.ofInt IntKind.u64.bits (r*2)|||BitVec.ofInt IntKind.u64.bits bb).toNat≥d))
     (ybw ydE x0 n d (A / 18446744073709551616) (A % 18446744073709551616) 0 0 ((q+q) / 18446744073709551616) (IntKind.u64.wrap (BitVec.ofInt IntKind.u64.bits ((q+q) % 18446744073709551616)|||BitVec.ofInt IntKind.u64.bits (1:Int)).toNat) (IntKind.u64.wrap ((IntKind.u64.wrap (BitVec.ofInt IntKind.u64.bits (r*2)|||BitVec.ofInt IntKind.u64.bits bb).toNat)-d)) ((k:Int)-1))
     (ybw ydE x0 n d (A / 18446744073709551616) (A % 18446744073709551616) 0 0 ((q+q) / 18446744073709551616) ((q+q) % 18446744073709551616) (IntKind.u64.wrap (BitVec.ofInt IntKind.u64.bits (r*2)|||BitVec.ofInt IntKind.u64.bits bb).toNat) ((k:Int)-1)):=by
    intro bb hbb
    rw [hbb,or1 ⟨r0,by omega⟩ ⟨by omega,by omega⟩]
    by_cases hge:2*r+b≥d
    ·rw [if_pos hge,if_pos hge] at ih2
     rw [decide_eq_true (show r*2+b≥d by omega),yag,wu64 (n:=r*2+b-d) ⟨by omega,by omega⟩]
     have e3:(q+q) % 18446744073709551616=((q % 9223372036854775808)*2):=by omega
     rw [e3,or1 ⟨by omega,by omega⟩ ⟨by omega,by omega⟩]
     have e4:(q+q) / 18446744073709551616=(2*q+1) / 18446744073709551616:=by omega
     have e5:q % 9223372036854775808*2+1=(2*q+1) % 18446744073709551616:=by omega
     rw [e4,e5,show r*2+b-d=2*r+b-d by omega]
     exact ih2
    ·rw [if_neg hge,if_neg hge] at ih2
     rw [decide_eq_false (show ¬r*2+b≥d by omega),yad,show q+q=2*q by omega,show r*2+b=2*r+b by omega]
     exact ih2
   by_cases h64:(k:Int)≥64
   ·rw [decide_eq_true h64,yag]
    refine go _ ?_
    rw [show k % 64=k-64 by omega,yLQ hA.1 (by omega),← hC,hb]
   ·rw [decide_eq_false h64,yad]
    refine go _ ?_
    rw [show k % 64=k by omega,yLP hA.1 (by omega),← hC,hb]
theorem yJB {A d:Int} (hA:0≤A∧A<340282366920938463463374607431768211456) (hd:0<d∧d<9223372036854775808) (K:Int→Int→Int→Prop) :
  ydx (A / 18446744073709551616) (A % 18446744073709551616) d K=K (A / d / 18446744073709551616) (A / d % 18446744073709551616) (A % d):=by
 refine yAb _ _ _ _ _ _ (fun K h=>?_) K
 unfold ydx ymJ
 refine ⟨129,?_⟩
 have e:=yGI (x0:=fun f g i j k a b c l m=>K a b c) hA hd h 128 129 (by omega) (by omega)
 have z:A / 2 ^ 128=0:=Int.ediv_eq_zero_of_lt hA.1 hA.2
 rw [z,Int.zero_ediv,Int.zero_emod] at e
 exact e
theorem yDe {s:Bool} {X Y:Int} (hx:0≤X) (hy:0≤Y) (K:Int→Int→Int→Prop) :
  yfN s (X / 18446744073709551616) (X % 18446744073709551616) (Y / 18446744073709551616) (Y % 18446744073709551616) K=outS s X Y K:=by
 unfold yfN yoz outS
 by_cases h:X≤1000000000000000000∧Y≤1000000000000000000
 ·have e1:IntKind.i64.wrap (X % 18446744073709551616)=X:=by rw [show X % 18446744073709551616=X by omega,wi64 ⟨by omega,by omega⟩]
  have e2:IntKind.i64.wrap (Y % 18446744073709551616)=Y:=by rw [show Y % 18446744073709551616=Y by omega,wi64 ⟨by omega,by omega⟩]
  rw [if_pos h,decide_eq_false (by omega),yad,decide_eq_false (by omega),yad,decide_eq_false (by omega),yad,decide_eq_false (by omega),yad,e1,e2]
  cases s
  ·rw [yad];rfl
  ·rw [yag,wi64 ⟨by omega,by omega⟩,Int.zero_sub];rfl
 ·rw [if_neg h]
  by_cases h1:X / 18446744073709551616>0
  ·rw [decide_eq_true h1,yag]
  ·rw [decide_eq_false h1,yad]
   by_cases h2:Y / 18446744073709551616>0
   ·rw [decide_eq_true h2,yag]
   ·rw [decide_eq_false h2,yad]
    by_cases h3:X % 18446744073709551616>1000000000000000000
    ·rw [decide_eq_true h3,yag]
    ·rw [decide_eq_false h3,yad,decide_eq_true (by omega),yag]
theorem ypb {g:Int} (h:g≠0) {P:Prop}:asr (!(decide (g=(0:Int)))) P=P:=by
 rw [decide_eq_false h];rfl
theorem wuN {n:Nat} (h:(n:Int)≤18446744073709551615):IntKind.u64.wrap (n:Int)=n:=wu64 ⟨by omega,h⟩
theorem yzf (a b:Nat):Int.tdiv (a:Int) (b:Int)=((a / b:Nat):Int):=by
 rw [Int.tdiv_eq_ediv_of_nonneg (by omega),qA0]
theorem yBb {A d:Nat} (hA:A<340282366920938463463374607431768211456) (hd:0<d∧d<9223372036854775808) (K:Int→Int→Int→Prop) :
  ydx ((A:Int) / 18446744073709551616) ((A:Int) % 18446744073709551616) d K=K (((A / d:Nat):Int) / 18446744073709551616) (((A / d:Nat):Int) % 18446744073709551616) ((A % d:Nat):Int):=by
 rw [yJB ⟨by omega,by omega⟩ ⟨by omega,by omega⟩,qA0,Int.natCast_emod]
theorem yhf {a b:Nat} (ha:a≤18446744073709551615) (hb:b≤18446744073709551615) (K:Int→Int→Prop) :
  yd1 (a:Int) (b:Int) K=K (((a*b:Nat):Int) / 18446744073709551616) (((a*b:Nat):Int) % 18446744073709551616):=by
 rw [yJz ⟨by omega,by omega⟩ ⟨by omega,by omega⟩,Int.natCast_mul]
theorem yIo {a b c d:Int} {K:Int→Int→Prop} {Z:Prop} (h:∀ u v,K u v=Z):yf4 a b c d K=Z:=by
 unfold yf4 yir
 simp only [h]
 by_cases e:b<d
 ·rw [decide_eq_true e,yag]
 ·rw [decide_eq_false e,yad]
theorem yKI {s:Bool} {Z p1 p3 g:Nat} (hZ:Z<340282366920938463463374607431768211456) (hg:0<g) (g1:g≤1000000000000000000) (h1:p1≤1000000000000000000) (h3:p3≤1000000000000000000) (K:Int→Int→Int→Prop) :
  cbr (((Z:Int) / 18446744073709551616 ==(0:Int))&&(((Z:Int) % 18446744073709551616 ==(0:Int))&&true)) (K 0 1 0)
   (ydx ((Z:Int) / 18446744073709551616) ((Z:Int) % 18446744073709551616) (g:Int) (fun _ _ b =>
    (ydd b (g:Int) (fun a =>
     (ydx ((Z:Int) / 18446744073709551616) ((Z:Int) % 18446744073709551616) a (fun c d _ =>
      (asr (!(decide ((g:Int)=(0:Int)))) (asr (!(decide (a=(0:Int))))
       (yd1 (IntKind.u64.wrap (Int.tdiv (IntKind.u64.wrap (p1:Int)) (g:Int))) (IntKind.u64.wrap (Int.tdiv (IntKind.u64.wrap (p3:Int)) a)) (fun f h =>
        (yfN s c d f h (fun i j k=>K i j k))))))))))))=outA s (Z:Int) p1 p3 g K:=by
 unfold outA
 by_cases h0:Z=0
 ·subst h0;rfl
 ·have e:(((Z:Int) / 18446744073709551616 ==(0:Int))&&(((Z:Int) % 18446744073709551616 ==(0:Int))&&true))=false:=by
   by_cases e1:(Z:Int) / 18446744073709551616=0
   ·rw [yJy e1,yBa (by omega)];rfl
   ·rw [yBa e1];rfl
  have hg0:0<Nat.gcd Z g:=qBb _ hg
  have hgg:Nat.gcd Z g≤g:=Nat.gcd_le_right _ hg
  have eg:Nat.gcd (Z % g) g=Nat.gcd Z g:=by rw [Nat.gcd_comm Z g,Nat.gcd_rec g Z]
  have q1:p1 / g≤p1:=qA8 _ _
  have q3:p3 / Nat.gcd Z g≤p3:=qA8 _ _
  rw [e,yad,if_neg (by omega),yBb hZ ⟨hg,by omega⟩]
  simp only [ypy,eg]
  rw [yBb hZ ⟨hg0,by omega⟩,ypb (by omega),ypb (by omega),wuN (by omega),wuN (by omega),yzf,yzf,wuN (by omega),wuN (by omega),yhf (by omega) (by omega)]
  rw [yDe (qBs _) (qBs _)]
  simp only [qAh]
theorem yJC {n d:Int} (hn:I64 n) (hd:I64 d) (h0:d≠0) (K:Int→Int→Int→Prop):ybp n d K=fitK ((n:Rat) / (d:Rat)) K:=by
 unfold ybp yoB
 have hn':=hn;have hd':=hd
 unfold I64 at hn' hd'
 have g0:0<Nat.gcd n.natAbs d.natAbs:=qBb _ (by omega)
 have q1:n.natAbs / Nat.gcd n.natAbs d.natAbs≤n.natAbs:=qA8 _ _
 have q2:d.natAbs / Nat.gcd n.natAbs d.natAbs≤d.natAbs:=qA8 _ _
 have hp:∀ x:Nat,(0:Int)≤x:=qBs
 rw [yBa h0,yad,ygK hn,ygK hd,ypy,ypb (by omega),ypb (by omega),yzf,yzf,← yE6 h0]
 obtain ⟨x,hx⟩:∃ x,x=n.natAbs / Nat.gcd n.natAbs d.natAbs:=⟨_,rfl⟩
 obtain ⟨y,hy⟩:∃ y,y=d.natAbs / Nat.gcd n.natAbs d.natAbs:=⟨_,rfl⟩
 rw [← hx] at q1 ⊢
 rw [← hy] at q2 ⊢
 rw [wuN (by omega),wuN (by omega)]
 have m:=yDe (s:=(decide (n<0) != decide (d<0))) (X:=(x:Int)) (Y:=(y:Int)) (by omega) (by omega) K
 rw [← m]
 have e1:(x:Int) / 18446744073709551616=0:=by omega
 have e2:(x:Int) % 18446744073709551616=x:=by omega
 have e3:(y:Int) / 18446744073709551616=0:=by omega
 have e4:(y:Int) % 18446744073709551616=y:=by omega
 rw [e1,e2,e3,e4]
theorem yxr {q r:Rat} (hq:small q) (hr:small r) (K:Int→Int→Int→Prop):yde q.num q.den r.num r.den K=fitK (q+r) K:=by
 unfold yde yrL
 rw [yt5 hq.i1 hq.i2 hr.i1 hr.i2,yef hq hr,ywp rfl,yad,← yDb]
 obtain ⟨a1,a2,a3⟩:=hq
 obtain ⟨b1,b2,b3⟩:=hr
 have dq:=q.den_pos
 have dr:=r.den_pos
 have g0:0<Nat.gcd q.den r.den:=Nat.gcd_pos_of_pos_left _ dq
 have gl:Nat.gcd q.den r.den≤q.den:=Nat.gcd_le_left _ dq
 have w1:ydd (IntKind.u64.wrap (q.den:Int)) (IntKind.u64.wrap (r.den:Int))=ydd (q.den:Int) (r.den:Int):=by rw [wuN (by omega),wuN (by omega)]
 rw [w1,ypy,ygK ⟨by omega,by omega⟩,ypb (by omega)]
 show _=outA (decide (q.num*((r.den:Int) / (Nat.gcd q.den r.den:Nat))+r.num*((q.den:Int) / (Nat.gcd q.den r.den:Nat))<0)) ((q.num*((r.den:Int) / (Nat.gcd q.den r.den:Nat))+r.num*((q.den:Int) / (Nat.gcd q.den r.den:Nat))).natAbs:Int) q.den r.den (Nat.gcd q.den r.den) K
 obtain ⟨g,hg⟩:∃ g,g=Nat.gcd q.den r.den:=⟨_,rfl⟩
 rw [← hg] at g0 gl ⊢
 have q3:r.den / g≤r.den:=qA8 _ _
 have q4:q.den / g≤q.den:=qA8 _ _
 have t1:IntKind.u64.wrap (Int.tdiv (IntKind.u64.wrap (r.den:Int)) (g:Int))=((r.den / g:Nat):Int):=by rw [wuN (by omega),yzf,wuN (by omega)]
 have t2:IntKind.u64.wrap (Int.tdiv (IntKind.u64.wrap (q.den:Int)) (g:Int))=((q.den / g:Nat):Int):=by rw [wuN (by omega),yzf,wuN (by omega)]
 rw [t1,yhf (by omega) (by omega)]
 rw [ygK ⟨by omega,by omega⟩,ypb (by omega),t2,yhf (by omega) (by omega)]
 rw [← qA0,← qA0]
 obtain ⟨x,hx⟩:∃ x,x=r.den / g:=⟨_,rfl⟩
 obtain ⟨y,hy⟩:∃ y,y=q.den / g:=⟨_,rfl⟩
 rw [← hx] at q3 ⊢
 rw [← hy] at q4 ⊢
 have X1:q.num.natAbs*x≤1000000000000000000*1000000000000000000:=Nat.mul_le_mul (by omega) (by omega)
 have Y1:r.num.natAbs*y≤1000000000000000000*1000000000000000000:=Nat.mul_le_mul (by omega) (by omega)
 have ax:q.num*(x:Int)=if q.num<0 then -((q.num.natAbs*x:Nat):Int) else ((q.num.natAbs*x:Nat):Int):=by
  rw [Int.natCast_mul]
  split
  ·rw [show ((q.num.natAbs:Nat):Int)=-q.num by omega,Int.neg_mul,Int.neg_neg]
  ·rw [show ((q.num.natAbs:Nat):Int)=q.num by omega]
 have cy:r.num*(y:Int)=if r.num<0 then -((r.num.natAbs*y:Nat):Int) else ((r.num.natAbs*y:Nat):Int):=by
  rw [Int.natCast_mul]
  split
  ·rw [show ((r.num.natAbs:Nat):Int)=-r.num by omega,Int.neg_mul,Int.neg_neg]
  ·rw [show ((r.num.natAbs:Nat):Int)=r.num by omega]
 rw [ax,cy]
 obtain ⟨X,hX⟩:∃ X,X=q.num.natAbs*x:=⟨_,rfl⟩
 obtain ⟨Y,hY⟩:∃ Y,Y=r.num.natAbs*y:=⟨_,rfl⟩
 rw [← hX] at X1 ⊢
 rw [← hY] at Y1 ⊢
 rw [yDd (by omega) (by omega) (by omega)]
 have fin:=fun (s:Bool) (Z:Nat) (hZ:Z<340282366920938463463374607431768211456)=>yKI (s:=s) (Z:=Z) (p1:=q.den) (p3:=r.den) (g:=g) hZ g0 (by omega) (by omega) (by omega) K
 simp only [t2,← hy] at fin
 have cong:∀ (s s':Bool) (Z Z':Int),Z=Z'→(Z≠0→s=s')→outA s Z q.den r.den g K=outA s' Z' q.den r.den g K:=by
  intro s s' Z Z' h1 h2
  subst h1
  by_cases h:Z=0
  ·unfold outA;rw [if_pos h,if_pos h]
  ·rw [h2 h]
 by_cases hs:decide (q.num<0)=decide (r.num<0)
 ·have e:(decide (q.num<0) != decide (r.num<0))=false:=by rw [hs];simp
  rw [e,yad,show (X:Int)+Y=((X+Y:Nat):Int) by omega]
  rw [fin (decide (q.num<0)) (X+Y) (by omega)]
  refine cong _ _ _ _ ?_ ?_
  ·by_cases h1:q.num<0
   ·have h2:r.num<0:=by simpa [h1] using hs.symm
    rw [if_pos h1,if_pos h2];omega
   ·have h2:¬r.num<0:=by simpa [h1] using hs.symm
    rw [if_neg h1,if_neg h2];omega
  ·intro h0
   by_cases h1:q.num<0
   ·have h2:r.num<0:=by simpa [h1] using hs.symm
    rw [if_pos h1,if_pos h2,decide_eq_true h1,decide_eq_true (by omega)]
   ·have h2:¬r.num<0:=by simpa [h1] using hs.symm
    rw [if_neg h1,if_neg h2,decide_eq_false h1,decide_eq_false (by omega)]
 ·have e:(decide (q.num<0) != decide (r.num<0))=true:=by simpa using hs
  have h12:(q.num<0∧¬r.num<0)∨(¬q.num<0∧r.num<0):=by
   by_cases h1:q.num<0 <;> by_cases h2:r.num<0 <;> simp [h1,h2] at hs ⊢
  rw [e,yag]
  by_cases hlt:X<Y
  ·refine yIo (fun u v=>?_)
   rw [yt6 (by omega) (by omega),decide_eq_true (by omega),yag,yE8 (by omega) (by omega) (by omega)]
   have ez:(Y:Int)-X=((Y-X:Nat):Int):=by omega
   rw [ez]
   rw [fin (decide (r.num<0)) (Y-X) (by omega)]
   refine cong _ _ _ _ ?_ ?_
   ·rcases h12 with ⟨h1,h2⟩ | ⟨h1,h2⟩
    ·rw [if_pos h1,if_neg h2];omega
    ·rw [if_neg h1,if_pos h2];omega
   ·intro h0
    rcases h12 with ⟨h1,h2⟩ | ⟨h1,h2⟩
    ·rw [if_pos h1,if_neg h2,decide_eq_false h2,decide_eq_false (by omega)]
    ·rw [if_neg h1,if_pos h2,decide_eq_true h2,decide_eq_true (by omega)]
  ·rw [yE8 (by omega) (by omega) (by omega),yt6 (by omega) (by omega),decide_eq_false (by omega),yad]
   have ez:(X:Int)-Y=((X-Y:Nat):Int):=by omega
   rw [ez]
   rw [fin (decide (q.num<0)) (X-Y) (by omega)]
   refine cong _ _ _ _ ?_ ?_
   ·rcases h12 with ⟨h1,h2⟩ | ⟨h1,h2⟩
    ·rw [if_pos h1,if_neg h2];omega
    ·rw [if_neg h1,if_pos h2];omega
   ·intro h0
    rcases h12 with ⟨h1,h2⟩ | ⟨h1,h2⟩
    ·rw [if_pos h1,if_neg h2,decide_eq_true h1,decide_eq_true (by omega)]
    ·rw [if_neg h1,if_pos h2,decide_eq_false h1,decide_eq_false (by omega)]
theorem yKJ {q:Rat} (hq:small q) (K:Int→Int→Prop):ypw q.num q.den K=K (-q).num (-q).den:=by
 unfold ypw yrK
 obtain ⟨a1,a2,a3⟩:=hq
 rw [wi64 ⟨by omega,by omega⟩,Int.zero_sub];rfl
theorem small.neg {q:Rat} (hq:small q):small (-q):=by
 obtain ⟨a1,a2,a3⟩:=hq
 unfold small
 rw [Rat.neg_num,Rat.neg_den]
 omega
theorem yHq {q r:Rat} (hq:small q) (hr:small r) (K:Int→Int→Int→Prop):yf5 q.num q.den r.num r.den K=fitK (q-r) K:=by
 unfold yf5 yrN
 rw [yt5 hq.i1 hq.i2 hr.i1 hr.i2,yef hq hr,ywp rfl,yad,yKJ hr,yxr hq hr.neg,Rat.sub_eq_add_neg]
theorem yxs {q r:Rat} (hq:small q) (hr:small r) (K:Int→Int→Int→Prop):ybe q.num q.den r.num r.den K=fitK (q*r) K:=by
 unfold ybe yrO
 rw [yt5 hq.i1 hq.i2 hr.i1 hr.i2,yef hq hr,ywp rfl,yad]
 have hq':=hq;have hr':=hr
 obtain ⟨a1,a2,a3⟩:=hq
 obtain ⟨b1,b2,b3⟩:=hr
 have dq:=q.den_pos
 have dr:=r.den_pos
 have g0:0<Nat.gcd q.num.natAbs r.den:=qBb _ dr
 have h0:0<Nat.gcd r.num.natAbs q.den:=qBb _ dq
 rw [ygK hq'.i1,wuN (n:=r.den) (by omega),ypy,ygK hr'.i1,wuN (n:=q.den) (by omega),ypy]
 simp only [ygK hq'.i1,ygK hr'.i1]
 have q1:q.num.natAbs / Nat.gcd q.num.natAbs r.den≤q.num.natAbs:=qA8 _ _
 have q2:r.num.natAbs / Nat.gcd r.num.natAbs q.den≤r.num.natAbs:=qA8 _ _
 have q3:q.den / Nat.gcd r.num.natAbs q.den≤q.den:=qA8 _ _
 have q4:r.den / Nat.gcd q.num.natAbs r.den≤r.den:=qA8 _ _
 have e1:numM q.num r.num q.den r.den=q.num.natAbs / Nat.gcd q.num.natAbs r.den*(r.num.natAbs / Nat.gcd r.num.natAbs q.den):=rfl
 have e2:denM q.num r.num q.den r.den=q.den / Nat.gcd r.num.natAbs q.den*(r.den / Nat.gcd q.num.natAbs r.den):=rfl
 have z1:q.num=0→numM q.num r.num q.den r.den=0:=fun h=>by rw [e1,h,Int.natAbs_zero,Nat.zero_div,Nat.zero_mul]
 have z2:r.num=0→numM q.num r.num q.den r.den=0:=fun h=>by rw [e1,h,Int.natAbs_zero,Nat.zero_div,Nat.mul_zero]
 have n1:∀ P:Prop,asr (!(decide (((Nat.gcd q.num.natAbs r.den:Nat):Int)=(0:Int)))) P=P:=fun P=>ypb (by omega)
 have n2:∀ P:Prop,asr (!(decide (((Nat.gcd r.num.natAbs q.den:Nat):Int)=(0:Int)))) P=P:=fun P=>ypb (by omega)
 have w1:=wuN (n:=q.num.natAbs / Nat.gcd q.num.natAbs r.den) (by omega)
 have w2:=wuN (n:=r.num.natAbs / Nat.gcd r.num.natAbs q.den) (by omega)
 have w3:=wuN (n:=q.den / Nat.gcd r.num.natAbs q.den) (by omega)
 have w4:=wuN (n:=r.den / Nat.gcd q.num.natAbs r.den) (by omega)
 have t1:=yhf (a:=q.num.natAbs / Nat.gcd q.num.natAbs r.den) (b:=r.num.natAbs / Nat.gcd r.num.natAbs q.den) (by omega) (by omega)
 have t2:=yhf (a:=q.den / Nat.gcd r.num.natAbs q.den) (b:=r.den / Nat.gcd q.num.natAbs r.den) (by omega) (by omega)
 have m:=fun s=>yDe (s:=s) (X:=((numM q.num r.num q.den r.den:Nat):Int)) (Y:=((denM q.num r.num q.den r.den:Nat):Int)) (qBs _) (qBs _) K
 rw [← e1] at t1
 rw [← e2] at t2
 simp only [n1,n2,yzf,w1,w2,w3,w4,t1,t2,m]
 rw [← yDa]
 have zs:∀ s s':Bool,numM q.num r.num q.den r.den=0→outS s (numM q.num r.num q.den r.den:Nat) (denM q.num r.num q.den r.den:Nat) K=outS s' (numM q.num r.num q.den r.den:Nat) (denM q.num r.num q.den r.den:Nat) K:=by
  intro s s' h
  rw [h]
  cases s <;> cases s' <;> rfl
 by_cases hs:(decide (q.num<0) != decide (r.num<0))=true
 ·rw [hs,yag]
  by_cases n1:q.num=0
  ·rw [ywp n1,yad];exact zs _ _ (z1 n1)
  ·rw [yE7 n1,yag]
   by_cases n2:r.num=0
   ·exact zs _ _ (z2 n2)
   ·rw [yE7 n2]
 ·have hs':(decide (q.num<0) != decide (r.num<0))=false:=by simpa using hs
  rw [hs',yad]
theorem yKK {q r:Rat} (hq:small q) (hr:small r) (h0:r≠0) (K:Int→Int→Int→Prop):yg7 q.num q.den r.num r.den K=fitK (q / r) K:=by
 unfold yg7 yrQ
 have hn:r.num≠0:=fun e=>h0 (Rat.num_eq_zero.1 e)
 rw [yt5 hq.i1 hq.i2 hr.i1 hr.i2,yef hq hr,ywp rfl,yad,yBa hn,yad]
 obtain ⟨e1,e2⟩:=yvB h0
 have m:=yxs hq (hr.inv h0) K
 rw [e1,e2] at m
 obtain ⟨b1,b2,b3⟩:=hr
 rw [Rat.div_def,← m]
 by_cases h:r.num<0
 ·rw [decide_eq_true h,yag,if_pos h,wi64 (n:=(0:Int)-r.den) ⟨by omega,by omega⟩,wi64 (n:=(0:Int)-r.num) ⟨by omega,by omega⟩]
  rw [show (0:Int)-r.den=-(r.den:Int) by omega,show (0:Int)-r.num=((r.num.natAbs:Nat):Int) by omega]
 ·rw [decide_eq_false h,yad,if_neg h,show ((r.num.natAbs:Nat):Int)=r.num by omega]
theorem yhK {q r:Rat} (hq:small q) (hr:small r) (K:Bool→Prop):yaC q.num q.den r.num r.den K=K (decide (q<r)):=by
 unfold yaC yoD
 have hq':=hq;have hr':=hr
 obtain ⟨a1,a2,a3⟩:=hq
 obtain ⟨b1,b2,b3⟩:=hr
 have dq:=q.den_pos
 have dr:=r.den_pos
 have e:decide (q<r)=decide (q.num*r.den<r.num*q.den):=by rw [decide_eq_decide];exact Rat.lt_iff q r
 rw [e]
 by_cases hs:(decide (q.num<0) != decide (r.num<0))=true
 ·rw [hs,yag]
  by_cases h1:q.num<0
  ·have h2:¬r.num<0:=by simpa [h1] using hs
   have p1:q.num*r.den<0:=qB6 h1 (by omega)
   have p2:0≤r.num*q.den:=qBc (by omega) (by omega)
   rw [decide_eq_true h1,decide_eq_true (by omega)]
  ·have h2:r.num<0:=by simpa [h1] using hs
   have p1:r.num*q.den<0:=qB6 h2 (by omega)
   have p2:0≤q.num*r.den:=qBc (by omega) (by omega)
   rw [decide_eq_false h1,decide_eq_false (by omega)]
 ·have hs':(decide (q.num<0) != decide (r.num<0))=false:=by simpa using hs
  rw [hs',yad,ygK hq'.i1,wuN (by omega),yhf (by omega) (by omega),ygK hr'.i1,wuN (by omega),yhf (by omega) (by omega),yt6 (qBs _) (qBs _),yt6 (qBs _) (qBs _),Int.natCast_mul,Int.natCast_mul]
  by_cases h1:q.num<0
  ·have h2:r.num<0:=by simpa [h1] using hs'
   rw [decide_eq_true h1,yag,show ((q.num.natAbs:Nat):Int)=-q.num by omega,show ((r.num.natAbs:Nat):Int)=-r.num by omega,Int.neg_mul,Int.neg_mul]
   congr 1
   rw [decide_eq_decide];omega
  ·have h2:¬r.num<0:=by simpa [h1] using hs'
   rw [decide_eq_false h1,yad,show ((q.num.natAbs:Nat):Int)=q.num by omega,show ((r.num.natAbs:Nat):Int)=r.num by omega]
theorem yvC (n:Int) (K:Int→Int→Prop):ybn n K=K (n:Rat).num (n:Rat).den:=rfl
theorem cbT {c:Prop} [Decidable c] {P Q:Prop} (h:c):cbr (decide c) P Q=P:=by rw [decide_eq_true h,yag]
theorem cbF {c:Prop} [Decidable c] {P Q:Prop} (h:¬c):cbr (decide c) P Q=Q:=by rw [decide_eq_false h,yad]
theorem cnT {a b:Int} {P Q:Prop} (h:a≠b):cbr (a != b) P Q=P:=by rw [yE7 h,yag]
theorem cnF {a b:Int} {P Q:Prop} (h:a=b):cbr (a != b) P Q=Q:=by rw [ywp h,yad]
theorem ceT {a b:Int} {P Q:Prop} (h:a=b):cbr (a == b) P Q=P:=by rw [yJy h,yag]
theorem ceF {a b:Int} {P Q:Prop} (h:a≠b):cbr (a == b) P Q=Q:=by rw [yBa h,yad]
theorem asT {c:Prop} [Decidable c] {P:Prop} (h:c):asr (decide c) P=P:=by rw [decide_eq_true h,yaG]
theorem asC {l:List Int} {i:Nat} {P:Prop} (h:i<l.length):asr (conf zI (List.getD (ints l) i .nils)) P=P:=by rw [yhe h,yaG]
theorem wib {n:Int} (h1:-9223372036854775808≤n) (h2:n≤9223372036854775807):IntKind.i64.wrap n=n:=wi64 ⟨h1,h2⟩
theorem ygN (i:Nat):(i:Int)+1=((i+1:Nat):Int):=by omega
theorem ypz {x:Int} (h:-1000000000000000000≤x∧x≤1000000000000000000):small (x:Rat):=by
 unfold small
 rw [qB7,qB8]
 omega
def allD (dens:List Int):Prop:=∀ d∈dens,0≤d∧d≤12
def yzg (dens:List Int):Prop:=∃ d∈dens,0<d
instance (l:List Int):Decidable (allD l):=by unfold allD;infer_instance
instance (l:List Int):Decidable (yzg l):=by unfold yzg;infer_instance
def VC (len:Int) (cuts dens:List Int):Prop :=
 1≤len∧len≤1000∧2≤cuts.length∧cuts.length≤40∧dens.length+1=cuts.length∧cuts.getD 0 0=0∧cuts.getD (cuts.length-1) 0=len∧incr cuts 0∧allD dens∧yzg dens
theorem yJD (l:List Int):incr l 0↔∀ j,j<l.length→j+1<l.length→l.getD j 0<l.getD (j+1) 0:=⟨fun h j _ h2=>h j (by omega) h2,fun h j _ h2=>h j (by omega) h2⟩
instance (l:List Int):Decidable (incr l 0):=decidable_of_iff _ (yJD l).symm
instance (len:Int) (cuts dens:List Int):Decidable (VC len cuts dens):=by unfold VC;infer_instance
def ckC (len:Int) (cuts dens:List Int):Int:=if len>1000∨cuts.length>40 then 4 else if VC len cuts dens then 0 else 8
theorem yHr (l:List Int) (x:Int):(l.foldl mnf x<0)↔¬(∀ d∈x::l,0≤d):=by
 induction l generalizing x with
 | nil=>simp
 | cons y t ih =>
  rw [List.foldl_cons,ih]
  unfold mnf
  simp only [List.forall_mem_cons]
  split
  ·constructor
   ·intro h h2;exact h ⟨h2.2.1,h2.2.2⟩
   ·intro h h2;exact h ⟨by omega,h2.1,h2.2⟩
  ·constructor
   ·intro h h2;exact h ⟨h2.1,h2.2.2⟩
   ·intro h h2;exact h ⟨h2.1,by omega,h2.2⟩
theorem yt7 (l:List Int) (x k:Int):(l.foldl mxf x>k)↔¬(∀ d∈x::l,d≤k):=by
 induction l generalizing x with
 | nil=>simp
 | cons y t ih =>
  rw [List.foldl_cons,ih]
  unfold mxf
  simp only [List.forall_mem_cons]
  split
  ·constructor
   ·intro h h2;exact h ⟨h2.2.1,h2.2.2⟩
   ·intro h h2;exact h ⟨by omega,h2.1,h2.2⟩
  ·constructor
   ·intro h h2;exact h ⟨h2.1,h2.2.2⟩
   ·intro h h2;exact h ⟨h2.1,by omega,h2.2⟩
theorem ylH {len:Int} {cuts dens:List Int} (h1:cuts.length<4611686018427387904) (h2:dens.length<4611686018427387904) (K:Int→Prop) :
  yaF len (ints cuts) (ints dens) K=K (ckC len cuts dens):=by
 refine yyJ _ _ _ _ (fun K k=>?_) K
 unfold yaF ykF
 simp only [yaI]
 have bad:¬(len>1000∨cuts.length>40)→¬VC len cuts dens→K 8:=fun h h2=>by
  rw [ckC,if_neg h,if_neg h2] at k;exact k
 by_cases a1:len>1000
 ·rw [cbT a1];rw [ckC,if_pos (.inl a1)] at k;exact k
 rw [cbF a1]
 by_cases a2:cuts.length>40
 ·rw [cbT (by omega)];rw [ckC,if_pos (.inr a2)] at k;exact k
 have a12:¬(len>1000∨cuts.length>40):=by omega
 rw [cbF (by omega)]
 by_cases a3:len<1
 ·rw [cbT a3];exact bad a12 (fun h=>by have:=h.1;omega)
 rw [cbF a3]
 by_cases a4:cuts.length<2
 ·rw [cbT (by omega)];exact bad a12 (fun h=>by have:=h.2.2.1;omega)
 rw [cbF (by omega),wib (n:=(cuts.length:Int)-1) (by omega) (by omega)]
 by_cases a5:dens.length+1=cuts.length
 case neg=>rw [cnT (by omega)];exact bad a12 (fun h=>a5 h.2.2.2.2.1)
 rw [cnF (by omega),asT (by omega),asC (by omega),ybF (by omega)]
 by_cases a6:cuts.getD 0 0=0
 case neg=>rw [cnT a6];exact bad a12 (fun h=>a6 h.2.2.2.2.2.1)
 rw [cnF a6,asT (by omega),asT (by omega),asC (by omega),ybF (by omega)]
 have en:((cuts.length:Int)-1).toNat=cuts.length-1:=by omega
 rw [en]
 by_cases a7:cuts.getD (cuts.length-1) 0=len
 case neg=>rw [cnT a7];exact bad a12 (fun h=>a7 h.2.2.2.2.2.2.1)
 rw [cnF a7]
 refine ⟨cuts.length+1,?_⟩
 refine yGH (by omega) _ _ _ _ (cuts.length-1) 0 _ (by omega) (by omega) (fun hi=>?_) (fun hi=>bad a12 (fun h=>hi h.2.2.2.2.2.2.2.1))
 obtain ⟨x,t,e⟩:∃ x t,dens=x::t:=by
  cases dens with
  | nil=>exfalso;have:([]:List Int).length=0:=rfl;omega
  | cons x t=>exact ⟨x,t,rfl⟩
 refine yLO (by omega) e ?_
 by_cases b1:t.foldl mnf x<0
 ·rw [cbT b1]
  rw [yHr] at b1
  exact bad a12 (fun h=>b1 fun d hd=>(h.2.2.2.2.2.2.2.2.1 d (by rw [e];exact hd)).1)
 rw [cbF b1]
 refine yJu (by omega) e ?_
 by_cases b2:t.foldl mxf x>12
 ·rw [cbT b2]
  rw [yt7] at b2
  exact bad a12 (fun h=>b2 fun d hd=>(h.2.2.2.2.2.2.2.2.1 d (by rw [e];exact hd)).2)
 rw [cbF b2]
 refine yJu (by omega) e ?_
 have c1:∀ d∈dens,0≤d:=by rw [yHr,Classical.not_not,← e] at b1;exact b1
 have c2:∀ d∈dens,d≤12:=by rw [yt7,Classical.not_not,← e] at b2;exact b2
 by_cases b3:t.foldl mxf x=0
 ·rw [ceT b3]
  refine bad a12 (fun h=>?_)
  obtain ⟨d,hd,h0⟩:=h.2.2.2.2.2.2.2.2.2
  have:¬(t.foldl mxf x>0):=by omega
  rw [yt7,Classical.not_not,← e] at this
  have:=this d hd
  omega
 ·rw [ceF b3]
  have b4:t.foldl mxf x>0:=by
   refine Int.not_le.1 fun hle=>b3 ?_
   have:t.foldl mxf x>-1:=by
    rw [yt7]
    intro h
    have h1:=h x (qAx ..)
    have h2:=c1 x (by rw [e];exact qAx ..)
    omega
   omega
  rw [yt7,← e] at b4
  have b5:yzg dens:=by
   refine Classical.byContradiction fun hn=>b4 fun d hd=>?_
   exact Int.not_lt.1 fun hlt=>hn ⟨d,hd,hlt⟩
  rw [ckC,if_neg a12,if_pos ⟨by omega,by omega,by omega,by omega,a5,a6,a7,hi,fun d hd=>⟨c1 d hd,c2 d hd⟩,b5⟩] at k
  exact k
theorem ygL (n:Int) (K:Int→Int→Prop):ybR n K=K (n:Rat).num (n:Rat).den:=rfl
theorem yeT {q r:Rat} (hq:small q) (hr:small r) (K:Bool→Prop):ycc q.num q.den r.num r.den K=K (decide (q<r)):=by
 unfold ycc ymy
 rw [yxq hq hr]
 congr 1
 rw [decide_eq_decide,cmpQ]
 by_cases h:q<r
 ·simp [h]
 ·by_cases h2:r<q <;> simp [h,h2]
def PT (len:Int) (n d:Int):Prop:=RV n d∧0≤n∧n≤len*d
instance (len n d:Int):Decidable (PT len n d):=by unfold PT;infer_instance
theorem yLR {len n d:Int} (h:PT len n d):∃ q:Rat,small q∧q.num=n∧(q.den:Int)=d∧0≤q∧q≤(len:Rat):=by
 obtain ⟨h1,h2,h3⟩:=h
 obtain ⟨q,e1,e2,e3⟩:=yC9 h1
 refine ⟨q,e1,e2,e3,?_,?_⟩
 ·rw [← Rat.num_nonneg,e2];exact h2
 ·rw [Rat.le_iff,e2,e3,qB7,qB8];simpa using h3
theorem yzh (x:Int) (q:Rat):((x:Rat)<q)↔x*(q.den:Int)<q.num:=by
 rw [Rat.lt_iff,qB7,qB8];simp
theorem yzi {len:Int} (hl:-1000000000000000000≤len∧len≤1000000000000000000) {n d:Int} (hn:I64 n) (hd:I64 d) (a b:List PV) (K:Bool→Prop) :
  ybT len a b n d K=K (decide (PT len n d)):=by
 unfold ybT ykK
 rw [yA8 hn hd]
 by_cases h:RV n d
 ·obtain ⟨q,e1,e2,e3⟩:=yC9 h
  rw [chk,if_pos h,ceT rfl]
  by_cases h0:n≥0
  ·rw [cbT h0,ygL,← e2,← e3,yeT (ypz hl) e1]
   congr 1
   have:((len:Rat)<q)↔len*(q.den:Int)<q.num:=yzh _ _
   by_cases h3:(len:Rat)<q
   ·have h4:=this.1 h3
    rw [decide_eq_true h3,decide_eq_false];rfl
    intro hp;have:=hp.2.2;omega
   ·have h4:¬_:=fun x=>h3 (this.2 x)
    rw [decide_eq_false h3,decide_eq_true];rfl
    exact ⟨e1.rv,by omega,by omega⟩
  ·rw [cbF h0,decide_eq_false]
   intro hp;have:=hp.2.1;omega
 ·rw [chk,if_neg h,ceF (by decide),decide_eq_false]
  intro hp;exact h hp.1
section
variable {len:Int} {cuts dens:List Int}
theorem VC.step (h:VC len cuts dens) {i:Nat} (hi:i+1<cuts.length):cuts.getD i 0<cuts.getD (i+1) 0:=h.2.2.2.2.2.2.2.1 i (qBn _) hi
theorem VC.mono (h:VC len cuts dens) {i:Nat}:∀ {j:Nat},i≤j→j<cuts.length→cuts.getD i 0≤cuts.getD j 0
 | 0,hij,_=>by
  have:i=0:=by omega
  subst this;exact Int.le_refl _
 | j+1,hij,hj=>by
  by_cases e:i=j+1
  ·subst e;exact Int.le_refl _
  ·have h1:=h.mono (i:=i) (j:=j) (by omega) (by omega)
   have h2:=h.step (i:=j) hj
   omega
theorem VC.lo (h:VC len cuts dens) {i:Nat} (hi:i<cuts.length):0≤cuts.getD i 0:=by
 have:=h.mono (qBn i) hi
 rw [h.2.2.2.2.2.1] at this;exact this
theorem VC.hi (h:VC len cuts dens) {i:Nat} (hi:i<cuts.length):cuts.getD i 0≤len:=by
 have:=h.mono (i:=i) (j:=cuts.length-1) (by omega) (by omega)
 rw [h.2.2.2.2.2.2.1] at this;exact this
theorem VC.den (h:VC len cuts dens) {i:Nat} (hi:i<dens.length):0≤dens.getD i 0∧dens.getD i 0≤12:=by
 rw [qAb,qAd hi]
 exact h.2.2.2.2.2.2.2.2.1 _ (qB0 hi)
theorem VC.l1 (h:VC len cuts dens):dens.length+1=cuts.length:=h.2.2.2.2.1
theorem VC.l2 (h:VC len cuts dens):cuts.length≤40:=h.2.2.2.1
theorem VC.len0 (h:VC len cuts dens):1≤len∧len≤1000:=⟨h.1,h.2.1⟩
theorem VC.sc (h:VC len cuts dens) {i:Nat} (hi:i<cuts.length):small ((cuts.getD i 0:Int):Rat):=ypz (by have:=h.lo hi;have:=h.hi hi;have:=h.len0;omega)
theorem VC.sd (h:VC len cuts dens) {i:Nat} (hi:i<dens.length):small ((dens.getD i 0:Int):Rat):=ypz (by have:=h.den hi;omega)
theorem ylI (h:ckC len cuts dens=0):VC len cuts dens:=by
 unfold ckC at h
 split at h
 ·omega
 ·split at h
  ·assumption
  ·omega
theorem VC.ck (h:VC len cuts dens):ckC len cuts dens=0:=by
 rw [ckC,if_neg (by have:=h.l2;have:=h.len0;omega),if_pos h]
def totS (cuts dens:List Int):Nat→Nat→Int→Int
 | 0,_,s=>s
 | r+1,i,s=>totS cuts dens r (i+1) (s+dens.getD i 0*(cuts.getD (i+1) 0-cuts.getD i 0))
def totC (cuts dens:List Int):Int:=totS cuts dens dens.length 0 0
theorem yE9 {d x:Int} (h:0≤d∧d≤12) (hx:0≤x):0≤d*x∧d*x≤12*x:=⟨qBc h.1 hx,qAn h.2 hx⟩
theorem yzj (h:VC len cuts dens):∀ (r i:Nat) (s:Int),i+r=dens.length→0≤s→s≤12*cuts.getD i 0→0≤totS cuts dens r i s∧totS cuts dens r i s≤12*len
 | 0,i,s,hi,h0,h1=>by
  have:=h.l1
  have:=h.hi (i:=i) (by omega)
  unfold totS
  omega
 | r+1,i,s,hi,h0,h1=>by
  unfold totS
  have l1:=h.l1
  have h2:=h.step (i:=i) (by omega)
  have h3:=yE9 (h.den (i:=i) (by omega)) (x:=cuts.getD (i+1) 0-cuts.getD i 0) (by omega)
  exact yzj h r (i+1) _ (by omega) (by omega) (by omega)
theorem yzk (h:VC len cuts dens):0≤totC cuts dens∧totC cuts dens≤12000:=by
 have l1:=h.l1
 have h0:=h.lo (i:=0) (by omega)
 have:=yzj h dens.length 0 0 (by omega) (by omega) (by omega)
 have h2:=h.len0
 unfold totC;omega
theorem yzl (h:VC len cuts dens) (W:Int→List PV→List PV→(Int→Prop)→Prop) (x0:Int→List PV→List PV→Int→List PV→Int→Int→Bool→Prop) :
  ∀ (r i n:Nat) (s:Int),i+r=dens.length→r<n→0≤s→s≤12*cuts.getD i 0 →
   yc0 W x0 n len (ints cuts) (ints dens) s (ints dens) dens.length i=x0 len (ints cuts) (ints dens) (totS cuts dens r i s) (ints dens) dens.length dens.length false
 | 0,i,n+1,s,hi,hn,h0,h1=>by
  unfold yc0 totS
  rw [cbF (by omega)]
  have:(i:Int)=dens.length:=by omega
  rw [this]
 | r+1,i,n+1,s,hi,hn,h0,h1=>by
  unfold yc0
  have l1:=h.l1;have l2:=h.l2
  have h2:=h.step (i:=i) (by omega)
  have h3:=yE9 (h.den (i:=i) (by omega)) (x:=cuts.getD (i+1) 0-cuts.getD i 0) (by omega)
  have a1:=h.lo (i:=i) (by omega)
  have a2:=h.hi (i:=i+1) (by omega)
  have a3:=h.len0
  have e1:=wib (n:=(i:Int)+1) (by omega) (by omega)
  have e2:=wib (n:=cuts.getD (i+1) 0-cuts.getD i 0) (by omega) (by omega)
  have e3:=wib (n:=dens.getD i 0*(cuts.getD (i+1) 0-cuts.getD i 0)) (by omega) (by omega)
  have e4:=wib (n:=s+dens.getD i 0*(cuts.getD (i+1) 0-cuts.getD i 0)) (by omega) (by omega)
  rw [cbT (by omega),yaI,yaI,e1,ygN,qAh,qAh,asT (by omega),asT (by omega),asC (by omega),asT (by omega),asT (by omega),asC (by omega),asT (by omega),asT (by omega),asC (by omega),ybF (by omega),ybF (by omega),ybF (by omega),e2,e3,e4]
  exact yzl h W x0 r (i+1) n _ (by omega) (by omega) (by omega) (by omega)
theorem yIp (h1:cuts.length<4611686018427387904) (h2:dens.length<4611686018427387904) (K:Int→Int→Prop) :
  yee len (ints cuts) (ints dens) K=if ckC len cuts dens=0 then K (totC cuts dens) 0 else K 0 (ckC len cuts dens):=by
 by_cases h:ckC len cuts dens=0
 ·rw [if_pos h]
  refine yyK _ _ _ _ _ (fun K k=>?_) K
  unfold yee yho
  have hv:=ylI h
  rw [ylH h1 h2,h,cnF rfl]
  refine ⟨dens.length+1,?_⟩
  have l1:=hv.l1
  have a1:=hv.lo (i:=0) (by omega)
  rw [yaI]
  have:=yzl hv yaF (fun b c d a e f g j=>(K a (0:Int))) dens.length 0 (dens.length+1) 0 (by omega) (by omega) (by omega) (by omega)
  rw [show ((0:Nat):Int)=0 from rfl] at this
  rw [this]
  exact k
 ·rw [if_neg h]
  unfold yee yho
  rw [ylH h1 h2,cnT h]
def exK (e:Except Int Rat) (K:Int→Int→Int→Prop):Prop:=match e with | .ok q=>K q.num q.den 0 | .error c=>K 0 0 c
def fit {α:Type} (q:Rat) (k:Rat→Except Int α):Except Int α:=if small q then k q else .error 16
def valS (cuts dens:List Int) (b:Rat):Nat→Nat→Rat→Rat→Except Int Rat
 | 0,_,_,sum=>.ok sum
 | r+1,i,p,sum =>
  let en:Rat:=if b<(cuts.getD (i+1) 0:Int) then b else (cuts.getD (i+1) 0:Int)
  if dens.getD i 0=0∨¬p<en then valS cuts dens b r (i+1) (if p<en then en else p) sum
  else fit (en-p) fun l=>fit (l*(dens.getD i 0:Int)) fun w=>fit (sum+w) fun s=>valS cuts dens b r (i+1) en s
def valC (cuts dens:List Int) (a b:Rat):Except Int Rat:=valS cuts dens b dens.length 0 a 0
theorem ycp {q:Rat} {K:Int→Int→Int→Prop}:fitK q K=if small q then K q.num q.den 0 else K 0 0 16:=rfl
theorem yzm (h:VC len cuts dens) {b:Rat} (hb:small b) (an ad:Int) (W1:Int→List PV→List PV→(Int→Prop)→Prop) (W2:Int→List PV→List PV→Int→Int→(Bool→Prop)→Prop) (K:Int→Int→Int→Prop) :
  ∀ (r i n:Nat) (p sum:Rat),i+r=dens.length→r<n→small p→small sum →
   yaP W1 W2 ycc ybR ybH ybg ybC (fun a d e=>(K a d e)) (fun _ _ _ _ _ _ _ f g _ _ _ _ _ _=>(K f g (0:Int)))
    n len (ints cuts) (ints dens) b.num b.den an ad sum.num sum.den p.num p.den (ints dens) dens.length i=exK (valS cuts dens b r i p sum) K
 | 0,i,n+1,p,sum,hi,hn,hp,hs=>by
  unfold yaP valS
  rw [cbF (by omega)];rfl
 | r+1,i,n+1,p,sum,hi,hn,hp,hs=>by
  unfold yaP
  have l1:=h.l1;have l2:=h.l2
  have sc:=h.sc (i:=i+1) (by omega)
  have sd:=h.sd (i:=i) (by omega)
  have e1:=wib (n:=(i:Int)+1) (by omega) (by omega)
  rw [cbT (by omega),yaI,yaI,e1,ygN,qAh,qAh,asT (by omega),asT (by omega),asC (by omega),asT (by omega),asT (by omega),asC (by omega),ybF (by omega),ybF (by omega),ygL,yeT hb sc]
  have ih:=fun p sum hp hs=>yzm h hb an ad W1 W2 K r (i+1) n p sum (by omega) (by omega) hp hs
  unfold valS
  by_cases hbc:b<((cuts.getD (i+1) 0:Int):Rat)
  ·rw [cbT hbc]
   simp only [if_pos hbc]
   by_cases hd:dens.getD i 0=0
   ·rw [ceT hd,if_pos (.inl hd),yeT hp hb]
    by_cases hpb:p<b
    ·rw [cbT hpb,if_pos hpb];exact ih b sum hb hs
    ·rw [cbF hpb,if_neg hpb];exact ih p sum hp hs
   ·rw [ceF hd,yeT hp hb]
    by_cases hpb:p<b
    ·have hc:¬(dens.getD i 0=0∨¬p<b):=by simp [hpb];exact hd
     rw [if_neg hc,decide_eq_true hpb,qBh,yad,yxp hb hp,ycp]
     by_cases s1:small (b-p)
     ·rw [if_pos s1,cnF rfl,ygL,yxo s1 sd,ycp,fit,if_pos s1]
      by_cases s2:small ((b-p)*(dens.getD i 0:Int))
      ·rw [if_pos s2,cnF rfl,yDc hs s2,ycp,fit,if_pos s2]
       by_cases s3:small (sum+(b-p)*(dens.getD i 0:Int))
       ·rw [if_pos s3,cnF rfl,fit,if_pos s3];exact ih b _ hb s3
       ·rw [if_neg s3,cnT (by decide),fit,if_neg s3];rfl
      ·rw [if_neg s2,cnT (by decide),fit,if_neg s2];rfl
     ·rw [if_neg s1,cnT (by decide),fit,if_neg s1];rfl
    ·rw [if_pos (.inr hpb),decide_eq_false hpb,qA3,yag,yeT hp hb,cbF hpb,if_neg hpb];exact ih p sum hp hs
  ·rw [cbF hbc]
   simp only [if_neg hbc]
   obtain ⟨c,hc⟩:∃ c:Rat,c=((cuts.getD (i+1) 0:Int):Rat):=⟨_,rfl⟩
   rw [← hc] at sc ⊢
   by_cases hd:dens.getD i 0=0
   ·rw [ceT hd,if_pos (.inl hd),yeT hp sc]
    by_cases hpb:p<c
    ·rw [cbT hpb,if_pos hpb];exact ih c sum sc hs
    ·rw [cbF hpb,if_neg hpb];exact ih p sum hp hs
   ·rw [ceF hd,yeT hp sc]
    by_cases hpb:p<c
    ·have hcc:¬(dens.getD i 0=0∨¬p<c):=by simp [hpb];exact hd
     rw [if_neg hcc,decide_eq_true hpb,qBh,yad,yxp sc hp,ycp]
     by_cases s1:small (c-p)
     ·rw [if_pos s1,cnF rfl,ygL,yxo s1 sd,ycp,fit,if_pos s1]
      by_cases s2:small ((c-p)*(dens.getD i 0:Int))
      ·rw [if_pos s2,cnF rfl,yDc hs s2,ycp,fit,if_pos s2]
       by_cases s3:small (sum+(c-p)*(dens.getD i 0:Int))
       ·rw [if_pos s3,cnF rfl,fit,if_pos s3];exact ih c _ sc s3
       ·rw [if_neg s3,cnT (by decide),fit,if_neg s3];rfl
      ·rw [if_neg s2,cnT (by decide),fit,if_neg s2];rfl
     ·rw [if_neg s1,cnT (by decide),fit,if_neg s1];rfl
    ·rw [if_pos (.inr hpb),decide_eq_false hpb,qA3,yag,yeT hp sc,cbF hpb,if_neg hpb];exact ih p sum hp hs
end
def rt (n d:Int):Rat:=mkRat n d.toNat
theorem ypA (q:Rat):rt q.num q.den=q:=by unfold rt;rw [qAh,Rat.mkRat_self]
theorem yLe {n d:Int} (h:RV n d):small (rt n d)∧(rt n d).num=n∧((rt n d).den:Int)=d:=by
 obtain ⟨q,h1,h2,h3⟩:=yC9 h
 subst h2 h3
 rw [ypA];exact ⟨h1,rfl,rfl⟩
theorem PT.pt {len n d:Int} (h:PT len n d):small (rt n d)∧(rt n d).num=n∧((rt n d).den:Int)=d∧0≤rt n d∧rt n d≤(len:Rat):=by
 obtain ⟨q,h1,h2,h3,h4,h5⟩:=yLR h
 subst h2 h3
 rw [ypA];exact ⟨h1,rfl,rfl,h4,h5⟩
theorem yJE {len:Int} {q:Rat} (h:small q) (h0:0≤q) (h1:q≤(len:Rat)):PT len q.num q.den:=by
 refine ⟨h.rv,Rat.num_nonneg.2 h0,?_⟩
 rw [Rat.le_iff,qB7,qB8] at h1
 simpa using h1
section
variable {len:Int} {cuts dens:List Int}
def valR (len:Int) (cuts dens:List Int) (an ad bn bd:Int):Except Int Rat :=
 if ckC len cuts dens=0 then (if PT len an ad∧PT len bn bd∧¬rt bn bd<rt an ad then valC cuts dens (rt an ad) (rt bn bd) else .error 2) else .error (ckC len cuts dens)
theorem yDf {w:(Int→Int→Int→Prop)→Prop} {e:Except Int Rat} (det:∀ r0 r1 r2,(∀ K:Int→Int→Int→Prop,K r0 r1 r2→w K)→∀ K,w K=K r0 r1 r2) (h:∀ K,exK e K→w K) (K:Int→Int→Int→Prop):w K=exK e K:=by
 cases e with
 | ok q=>exact det _ _ _ h K
 | error c=>exact det _ _ _ h K
theorem yIq (h1:cuts.length<4611686018427387904) (h2:dens.length<4611686018427387904) {an ad bn bd:Int} (ha:I64 an) (ha':I64 ad) (hb:I64 bn) (hb':I64 bd) (K:Int→Int→Int→Prop) :
  ye7 len (ints cuts) (ints dens) an ad bn bd K=exK (valR len cuts dens an ad bn bd) K:=by
 refine yDf (fun r0 r1 r2 h K=>yyL _ _ _ _ _ _ _ r0 r1 r2 h K) (fun K k=>?_) K
 unfold ye7 ykM
 rw [ylH h1 h2]
 unfold valR at k
 by_cases h:ckC len cuts dens=0
 case neg=>rw [cnT h];rw [if_neg h] at k;exact k
 have hv:=ylI h
 have hl:=hv.len0
 rw [if_pos h] at k
 rw [cnF h,yzi (by omega) ha ha']
 by_cases p1:PT len an ad
 case neg=>rw [decide_eq_false p1,qA3,yag];rw [if_neg (fun x=>p1 x.1)] at k;exact k
 rw [decide_eq_true p1,qBh,yad,yzi (by omega) hb hb']
 by_cases p2:PT len bn bd
 case neg=>rw [decide_eq_false p2,qA3,yag];rw [if_neg (fun x=>p2 x.2.1)] at k;exact k
 rw [decide_eq_true p2,qBh,yad]
 obtain ⟨s1,e1,e2,_,_⟩:=p1.pt
 obtain ⟨s2,f1,f2,_,_⟩:=p2.pt
 have hless:=yeT s2 s1
 rw [e1,e2,f1,f2] at hless
 rw [hless]
 by_cases p3:rt bn bd<rt an ad
 ·rw [cbT p3];rw [if_neg (fun x=>x.2.2 p3)] at k;exact k
 rw [cbF p3]
 rw [if_pos ⟨p1,p2,p3⟩] at k
 rw [ygL,yaI]
 refine ⟨dens.length+1,?_⟩
 have:=yzm hv s2 0 0 yaF ybT K dens.length 0 (dens.length+1) (rt an ad) 0 (by omega) (by omega) s1 (by decide)
 rw [e1,e2,f1,f2] at this
 exact this.mpr k
def mrkS (cuts dens:List Int):Nat→Nat→Rat→Rat→Except Int Rat
 | 0,_,_,_=>.error 6
 | r+1,i,p,v =>
  if ¬p<(cuts.getD (i+1) 0:Int) then mrkS cuts dens r (i+1) p v
  else if dens.getD i 0=0 then mrkS cuts dens r (i+1) (cuts.getD (i+1) 0:Int) v
  else fit ((cuts.getD (i+1) 0:Int)-p) fun l=>fit (l*(dens.getD i 0:Int)) fun w =>
   if w<v then fit (v-w) fun v'=>mrkS cuts dens r (i+1) (cuts.getD (i+1) 0:Int) v'
   else fit (v / (dens.getD i 0:Int)) fun s=>fit (p+s) .ok
def mrkC (cuts dens:List Int) (a v:Rat):Except Int Rat:=if v=0 then .ok a else mrkS cuts dens dens.length 0 a v
def mrkR (len:Int) (cuts dens:List Int) (an ad vn vd:Int):Except Int Rat :=
 if ckC len cuts dens=0 then (if PT len an ad∧RV vn vd∧0≤vn then mrkC cuts dens (rt an ad) (rt vn vd) else .error 2) else .error (ckC len cuts dens)
theorem yBc (h:VC len cuts dens) (W1:Int→List PV→List PV→(Int→Prop)→Prop) (W2:Int→List PV→List PV→Int→Int→(Bool→Prop)→Prop) (W3:Int→Int→(Int→Prop)→Prop) (K:Int→Int→Int→Prop) :
  ∀ (r i n:Nat) (p v:Rat) (o1 o2:Int),i+r=dens.length→r<n→small p→small v →
   ybo W1 W2 W3 ybR ycc ybH ybg ycx ybC
    (fun _ _ b d f a=>(cbr (a !=(0:Int)) (cbr (a !=(0:Int)) (K (0:Int) (0:Int) a) (K b d (0:Int))) (cbr (f !=(0:Int)) (K (0:Int) (0:Int) f) (K b d (0:Int)))))
    (fun _ _ j k g _ _ _ _ _ _ _ _ _=>(cbr (g !=(0:Int)) (K (0:Int) (0:Int) g) (K j k (0:Int))))
    n v.num v.den o1 o2 6 len (ints cuts) (ints dens) p.num p.den (ints dens) dens.length i=exK (mrkS cuts dens r i p v) K
 | 0,i,n+1,p,v,o1,o2,hi,hn,hp,hs=>by
  unfold ybo mrkS
  rw [cbF (by omega)];rfl
 | r+1,i,n+1,p,v,o1,o2,hi,hn,hp,hs=>by
  unfold ybo
  have l1:=h.l1;have l2:=h.l2
  have sc:=h.sc (i:=i+1) (by omega)
  have sd:=h.sd (i:=i) (by omega)
  have hd0:=h.den (i:=i) (by omega)
  have e1:=wib (n:=(i:Int)+1) (by omega) (by omega)
  rw [cbT (by omega),yaI,yaI,e1,ygN,qAh,qAh,asT (by omega),asT (by omega),asC (by omega),asT (by omega),asT (by omega),asC (by omega),ybF (by omega),ybF (by omega),ygL,yeT hp sc]
  have ih:=fun p v o1 o2 hp hs=>yBc h W1 W2 W3 K r (i+1) n p v o1 o2 (by omega) (by omega) hp hs
  unfold mrkS
  obtain ⟨c,hc⟩:∃ c:Rat,c=((cuts.getD (i+1) 0:Int):Rat):=⟨_,rfl⟩
  rw [← hc] at sc ⊢
  by_cases hpc:p<c
  case neg=>rw [decide_eq_false hpc,qA3,yag,if_pos hpc];exact ih p v o1 o2 hp hs
  rw [decide_eq_true hpc,qBh,yad,if_neg (fun x=>x hpc),ygL]
  by_cases hd:dens.getD i 0=0
  ·rw [cbF (by omega),ceT hd,if_pos hd];exact ih c v o1 o2 sc hs
  rw [cbT (by omega),if_neg hd,yxp sc hp,ycp]
  by_cases s1:small (c-p)
  case neg=>rw [if_neg s1,cnT (by decide),cnT (by decide),cnT (by decide),fit,if_neg s1];rfl
  rw [if_pos s1,cnF rfl,ygL,yxo s1 sd,ycp,fit,if_pos s1]
  by_cases s2:small ((c-p)*(dens.getD i 0:Int))
  case neg=>rw [if_neg s2,cnT (by decide),cnT (by decide),cnT (by decide),fit,if_neg s2];rfl
  rw [if_pos s2,cnF rfl,ceF hd,yeT s2 hs,fit,if_pos s2]
  by_cases hw:(c-p)*(dens.getD i 0:Int)<v
  ·rw [cbT hw,if_pos hw,yxp hs s2,ycp,fit]
   by_cases s3:small (v-(c-p)*(dens.getD i 0:Int))
   ·rw [if_pos s3,if_pos s3,cnF rfl,cnF rfl];exact ih c _ o1 o2 sc s3
   ·rw [if_neg s3,if_neg s3,cnT (by decide),cnT (by decide),cnF rfl,cnT (by decide)];rfl
  ·have hdn:((dens.getD i 0:Int):Rat)≠0:=fun e=>hd (Rat.intCast_eq_zero_iff.1 e)
   rw [cbF hw,if_neg hw,ygL,yKE hs sd hdn,ycp,fit]
   by_cases s3:small (v / (dens.getD i 0:Int))
   ·rw [if_pos s3,if_pos s3,ceT rfl,yDc hp s3,ycp,fit]
    by_cases s4:small (p+v / (dens.getD i 0:Int))
    ·rw [if_pos s4,if_pos s4,cnF rfl,cnF rfl];rfl
    ·rw [if_neg s4,if_neg s4,cnF rfl,cnT (by decide)];rfl
   ·rw [if_neg s3,if_neg s3,ceF (by decide),cnF rfl,cnT (by decide)];rfl
theorem yJF (h1:cuts.length<4611686018427387904) (h2:dens.length<4611686018427387904) {an ad vn vd:Int} (ha:I64 an) (ha':I64 ad) (hv:I64 vn) (hv':I64 vd) (K:Int→Int→Int→Prop) :
  yf2 len (ints cuts) (ints dens) an ad vn vd K=exK (mrkR len cuts dens an ad vn vd) K:=by
 refine yDf (fun r0 r1 r2 h K=>yz6 _ _ _ _ _ _ _ r0 r1 r2 h K) (fun K k=>?_) K
 unfold yf2 ymz
 rw [ylH h1 h2]
 unfold mrkR at k
 by_cases h:ckC len cuts dens=0
 case neg=>rw [cnT h];rw [if_neg h] at k;exact k
 have hc:=ylI h
 have hl:=hc.len0
 rw [if_pos h] at k
 rw [cnF h,yzi (by omega) ha ha']
 by_cases p1:PT len an ad
 case neg=>rw [decide_eq_false p1,qA3,yag];rw [if_neg (fun x=>p1 x.1)] at k;exact k
 rw [decide_eq_true p1,qBh,yad,yA8 hv hv',chk]
 by_cases p2:RV vn vd
 case neg=>rw [if_neg p2,cnT (by decide)];rw [if_neg (fun x=>p2 x.2.1)] at k;exact k
 rw [if_pos p2,cnF rfl]
 by_cases p3:vn<0
 ·rw [cbT p3];rw [if_neg (fun x=>by omega)] at k;exact k
 rw [cbF p3]
 rw [if_pos ⟨p1,p2,by omega⟩] at k
 obtain ⟨s1,e1,e2,_,_⟩:=p1.pt
 obtain ⟨s2,f1,f2⟩:=yLe p2
 unfold mrkC at k
 by_cases p4:vn=0
 ·rw [ceT p4]
  rw [if_pos (Rat.num_eq_zero.1 (f1.trans p4))] at k
  have k:K (rt an ad).num (rt an ad).den 0:=k
  rw [e1,e2] at k
  exact k
 rw [ceF p4]
 rw [if_neg (fun x=>p4 (by rw [← f1,x];rfl))] at k
 rw [yaI]
 refine ⟨dens.length+1,?_⟩
 have:=yBc hc yaF ybT ybA K dens.length 0 (dens.length+1) (rt an ad) (rt vn vd) 0 0 (by omega) (by omega) s1 s2
 rw [e1,e2,f1,f2] at this
 exact this.mpr k
def okD (cuts dens:List Int) (i:Nat):Prop:=∀ j,i≤j→j<dens.length→cuts.getD j 0<cuts.getD (j+1) 0∧0≤dens.getD j 0∧dens.getD j 0≤12
theorem ypc (l1:dens.length+1=cuts.length) (l2:dens.length<4611686018427387904) (x0:Int→Prop) (x1:Int→List PV→List PV→Bool→Int→Bool→Prop) (P:Prop)
  (hbad:¬okD cuts dens 0→x0 8=P) (hgood:∀ b:Bool,okD cuts dens 0→b=decide (∃ j,j<dens.length∧0<dens.getD j 0)→x1 len (ints cuts) (ints dens) b dens.length false=P) :
  ∀ (r i n:Nat) (b:Bool),i+r=dens.length→r<n→(∀ j,j<i→cuts.getD j 0<cuts.getD (j+1) 0∧0≤dens.getD j 0∧dens.getD j 0≤12)→b=decide (∃ j,j<i∧0<dens.getD j 0) →
   ycK x0 x1 n len (ints cuts) (ints dens) b i=P
 | 0,i,n+1,b,hi,hn,hj,hb=>by
  unfold ycK
  rw [yaI,cbF (by omega),show (i:Int)=dens.length by omega]
  refine hgood b (fun j _ h=>hj j (by omega)) ?_
  rw [hb,decide_eq_decide]
  rw [show i=dens.length by omega]
 | r+1,i,n+1,b,hi,hn,hj,hb=>by
  unfold ycK
  have e1:=wib (n:=(i:Int)+1) (by omega) (by omega)
  rw [yaI,yaI,cbT (by omega),e1,ygN,qAh,qAh,asT (by omega),asT (by omega),asC (by omega),asT (by omega),asT (by omega),asC (by omega),ybF (by omega),ybF (by omega)]
  have bad:¬(cuts.getD i 0<cuts.getD (i+1) 0∧0≤dens.getD i 0∧dens.getD i 0≤12)→x0 8=P:=fun h=>hbad fun hk=>h (hk i (by omega) (by omega))
  by_cases a1:cuts.getD (i+1) 0≤cuts.getD i 0
  ·rw [cbT a1];exact bad (by omega)
  rw [cbF a1,asT (by omega),asT (by omega),asC (by omega),ybF (by omega)]
  by_cases a2:dens.getD i 0<0
  ·rw [cbT a2];exact bad (by omega)
  rw [cbF a2,asT (by omega),asT (by omega),asC (by omega)]
  by_cases a3:dens.getD i 0>12
  ·rw [cbT a3];exact bad (by omega)
  rw [cbF a3]
  have hj2:∀ j,j<i+1→cuts.getD j 0<cuts.getD (j+1) 0∧0≤dens.getD j 0∧dens.getD j 0≤12:=by
   intro j hlt
   by_cases e:j=i
   ·subst e;omega
   ·exact hj j (by omega)
  have ex:∀ c:Bool,(c=true↔(b=true∨0<dens.getD i 0))→c=decide (∃ j,j<i+1∧0<dens.getD j 0):=by
   intro c hc
   rw [Bool.eq_iff_iff,hc,hb,decide_eq_true_iff,decide_eq_true_iff]
   constructor
   ·rintro (⟨j,h1,h2⟩ | h)
    ·exact ⟨j,by omega,h2⟩
    ·exact ⟨i,by omega,h⟩
   ·rintro ⟨j,h1,h2⟩
    by_cases e:j=i
    ·subst e;exact .inr h2
    ·exact .inl ⟨j,by omega,h2⟩
  cases b with
  | true =>
   rw [yag]
   exact ypc l1 l2 x0 x1 P hbad hgood r (i+1) n true (by omega) (by omega) hj2 (ex _ (by simp))
  | false =>
   rw [yad,asT (by omega),asT (by omega),asC (by omega)]
   exact ypc l1 l2 x0 x1 P hbad hgood r (i+1) n _ (by omega) (by omega) hj2 (ex _ (by simp))
theorem yiJ (h1:cuts.length<4611686018427387904) (h2:dens.length<4611686018427387904) (K:Int→Prop) :
  ybc len (ints cuts) (ints dens) K=K (ckC len cuts dens):=by
 refine yAf _ _ _ _ (fun K k=>?_) K
 unfold ybc ymM
 simp only [yaI]
 have bad:¬(len>1000∨cuts.length>40)→¬VC len cuts dens→K 8:=fun h h2=>by
  rw [ckC,if_neg h,if_neg h2] at k;exact k
 by_cases a1:len>1000
 ·rw [cbT a1];rw [ckC,if_pos (.inl a1)] at k;exact k
 rw [cbF a1]
 by_cases a2:cuts.length>40
 ·rw [cbT (by omega)];rw [ckC,if_pos (.inr a2)] at k;exact k
 have a12:¬(len>1000∨cuts.length>40):=by omega
 rw [cbF (by omega)]
 by_cases a3:len<1
 ·rw [cbT a3];exact bad a12 (fun h=>by have:=h.1;omega)
 rw [cbF a3]
 by_cases a4:cuts.length<2
 ·rw [cbT (by omega)];exact bad a12 (fun h=>by have:=h.2.2.1;omega)
 rw [cbF (by omega),wib (n:=(cuts.length:Int)-1) (by omega) (by omega)]
 by_cases a5:dens.length+1=cuts.length
 case neg=>rw [cnT (by omega)];exact bad a12 (fun h=>a5 h.2.2.2.2.1)
 rw [cnF (by omega),asT (by omega),asC (by omega),ybF (by omega)]
 by_cases a6:cuts.getD 0 0=0
 case neg=>rw [cnT a6];exact bad a12 (fun h=>a6 h.2.2.2.2.2.1)
 rw [cnF a6,asT (by omega),asT (by omega),asC (by omega),ybF (by omega)]
 have en:((cuts.length:Int)-1).toNat=cuts.length-1:=by omega
 rw [en]
 by_cases a7:cuts.getD (cuts.length-1) 0=len
 case neg=>rw [cnT a7];exact bad a12 (fun h=>a7 h.2.2.2.2.2.2.1)
 rw [cnF a7]
 have mem:∀ d,d∈dens↔∃ j,j<dens.length∧dens.getD j 0=d:=by
  intro d
  rw [List.mem_iff_getElem]
  constructor
  ·rintro ⟨j,hj,e⟩;exact ⟨j,hj,by rw [qAb,qAd hj];exact e⟩
  ·rintro ⟨j,hj,e⟩;exact ⟨j,hj,by rw [qAb,qAd hj] at e;exact e⟩
 refine ⟨dens.length+1,?_⟩
 refine (ypc a5 h2 _ _ (K (ckC len cuts dens)) (fun hk=>?_) (fun b hk hb=>?_) dens.length 0 (dens.length+1) false (by omega) (by omega) (fun j h=>by omega) (by simp)).mpr k
 ·have hv:¬VC len cuts dens:=fun h=>hk fun j _ hj=>⟨h.step (by omega),h.den hj⟩
  rw [ckC,if_neg a12,if_neg hv]
 ·have hsome:yzg dens↔∃ j,j<dens.length∧0<dens.getD j 0:=by
   constructor
   ·rintro ⟨d,hd,h0⟩
    obtain ⟨j,hj,e⟩:=(mem d).1 hd
    exact ⟨j,hj,by rw [e];exact h0⟩
   ·rintro ⟨j,hj,h0⟩;exact ⟨_,(mem _).2 ⟨j,hj,rfl⟩,h0⟩
  have hv:VC len cuts dens↔yzg dens:=by
   refine ⟨fun h=>h.2.2.2.2.2.2.2.2.2,fun h=>⟨by omega,by omega,by omega,by omega,a5,a6,a7,fun j _ hj=>(hk j (by omega) (by omega)).1,fun d hd=>?_,h⟩⟩
   obtain ⟨j,hj,e⟩:=(mem d).1 hd
   rw [← e];exact (hk j (by omega) hj).2
  rw [ckC,if_neg a12]
  by_cases hs:yzg dens
  ·rw [if_pos (hv.2 hs),hb,decide_eq_true (hsome.1 hs)];rfl
  ·rw [if_neg (fun x=>hs (hv.1 x)),hb,decide_eq_false (fun x=>hs (hsome.2 x))];rfl
theorem yzn (h:VC len cuts dens) (x0:Int→List PV→List PV→Int→Int→Bool→Prop) :
  ∀ (r i n:Nat) (s:Int),i+r=dens.length→r<n→0≤s→s≤12*cuts.getD i 0 →
   ydf x0 n len (ints cuts) (ints dens) s i=x0 len (ints cuts) (ints dens) (totS cuts dens r i s) dens.length false
 | 0,i,n+1,s,hi,hn,h0,h1=>by
  unfold ydf totS
  have:(i:Int)=dens.length:=by omega
  rw [yaI,cbF (by omega),this]
 | r+1,i,n+1,s,hi,hn,h0,h1=>by
  unfold ydf
  have l1:=h.l1;have l2:=h.l2
  have h2:=h.step (i:=i) (by omega)
  have h3:=yE9 (h.den (i:=i) (by omega)) (x:=cuts.getD (i+1) 0-cuts.getD i 0) (by omega)
  have a1:=h.lo (i:=i) (by omega)
  have a2:=h.hi (i:=i+1) (by omega)
  have a3:=h.len0
  have e1:=wib (n:=(i:Int)+1) (by omega) (by omega)
  have e2:=wib (n:=cuts.getD (i+1) 0-cuts.getD i 0) (by omega) (by omega)
  have e3:=wib (n:=dens.getD i 0*(cuts.getD (i+1) 0-cuts.getD i 0)) (by omega) (by omega)
  have e4:=wib (n:=s+dens.getD i 0*(cuts.getD (i+1) 0-cuts.getD i 0)) (by omega) (by omega)
  rw [yaI,yaI,cbT (by omega),e1,ygN,qAh,qAh,asT (by omega),asT (by omega),asC (by omega),asT (by omega),asT (by omega),asC (by omega),asT (by omega),asT (by omega),asC (by omega),ybF (by omega),ybF (by omega),ybF (by omega),e2,e3,e4]
  exact yzn h x0 r (i+1) n _ (by omega) (by omega) (by omega) (by omega)
theorem yBd (hv:VC len cuts dens) (K:Int→Prop):ya2 len (ints cuts) (ints dens) K=K (totC cuts dens):=by
 refine yAg _ _ _ _ (fun K k=>?_) K
 unfold ya2 ymO
 refine ⟨dens.length+1,?_⟩
 have l1:=hv.l1
 have a1:=hv.lo (i:=0) (by omega)
 have:=yzn hv (fun b c d a e f=>K a) dens.length 0 (dens.length+1) 0 (by omega) (by omega) (by omega) (by omega)
 rw [show ((0:Nat):Int)=0 from rfl] at this
 rw [this]
 exact k
theorem yvD (hl:-1000000000000000000≤len∧len≤1000000000000000000) {n d:Int} (hn:I64 n) (hd:I64 d) (K:Bool→Prop) :
  ycz len n d K=K (decide (PT len n d)):=by
 unfold ycz ymQ
 rw [ylG hn hd]
 by_cases h:RV n d
 ·obtain ⟨q,e1,e2,e3⟩:=yC9 h
  rw [chk,if_pos h,ceT rfl]
  by_cases h0:n≥0
  ·rw [cbT h0,yvC,← e2,← e3,yhK (ypz hl) e1]
   congr 1
   have:((len:Rat)<q)↔len*(q.den:Int)<q.num:=yzh _ _
   by_cases h3:(len:Rat)<q
   ·have h4:=this.1 h3
    rw [decide_eq_true h3,decide_eq_false];rfl
    intro hp;have:=hp.2.2;omega
   ·have h4:¬_:=fun x=>h3 (this.2 x)
    rw [decide_eq_false h3,decide_eq_true];rfl
    exact ⟨e1.rv,by omega,by omega⟩
  ·rw [cbF h0,decide_eq_false]
   intro hp;have:=hp.2.1;omega
 ·rw [chk,if_neg h,ceF (by decide),decide_eq_false]
  intro hp;exact h hp.1
def mxQ (a b:Rat):Rat:=if a<b then b else a
def mnQ (a b:Rat):Rat:=if a<b then a else b
theorem yvE {q r:Rat} (hq:small q) (hr:small r) (K:Int→Int→Prop):yd2 q.num q.den r.num r.den K=K (mxQ q r).num (mxQ q r).den:=by
 unfold yd2 ymR mxQ
 rw [yhK hq hr]
 by_cases h:q<r
 ·rw [cbT h,if_pos h]
 ·rw [cbF h,if_neg h]
theorem yGJ {q r:Rat} (hq:small q) (hr:small r) (K:Int→Int→Prop):yit q.num q.den r.num r.den K=K (mnQ q r).num (mnQ q r).den:=by
 unfold yit ykS mnQ
 rw [yhK hq hr]
 by_cases h:q<r
 ·rw [cbT h,if_pos h]
 ·rw [cbF h,if_neg h]
theorem yJG {q r:Rat} (hq:small q) (hr:small r):small (mxQ q r):=by unfold mxQ;split <;> assumption
theorem yJH {q r:Rat} (hq:small q) (hr:small r):small (mnQ q r):=by unfold mnQ;split <;> assumption
def worS (cuts dens:List Int) (i:Nat) (a b:Rat):Except Int Rat :=
 let f:=mxQ a (cuts.getD i 0:Int)
 let t:=mnQ b (cuts.getD (i+1) 0:Int)
 if ¬f<t∨dens.getD i 0=0 then .ok 0 else fit (t-f) fun d=>fit (d*(dens.getD i 0:Int)) .ok
theorem yBe (h:VC len cuts dens) {i:Nat} (hi:i<dens.length) {a b:Rat} (ha:small a) (hb:small b) (K:Int→Int→Int→Prop) :
  ycB len (ints cuts) (ints dens) i a.num a.den b.num b.den K=exK (worS cuts dens i a b) K:=by
 unfold ycB ymS worS
 have l1:=h.l1;have l2:=h.l2
 have sc:=h.sc (i:=i+1) (by omega)
 have sc0:=h.sc (i:=i) (by omega)
 have sd:=h.sd (i:=i) (by omega)
 have e1:=wib (n:=(i:Int)+1) (by omega) (by omega)
 rw [yaI,yaI,e1,ygN,qAh,qAh,asT (by omega),asT (by omega),asC (by omega),ybF (by omega),yvC,yvE ha sc0,asT (by omega),asT (by omega),asC (by omega),ybF (by omega),yvC,yGJ hb sc]
 have s1:=yJG ha sc0
 have s2:=yJH hb sc
 rw [yhK s1 s2]
 by_cases c1:mxQ a (cuts.getD i 0:Int)<mnQ b (cuts.getD (i+1) 0:Int)
 case neg =>
  rw [decide_eq_false c1,qA3,yag]
  simp only [c1,not_false_eq_true,true_or,if_true];rfl
 rw [decide_eq_true c1,qBh,yad,asT (by omega),asT (by omega),asC (by omega),ybF (by omega)]
 by_cases c2:dens.getD i 0=0
 ·rw [ceT c2]
  simp only [c2,or_true,if_true];rfl
 rw [ceF c2,yHq s2 s1,ycp]
 have cc:¬(¬mxQ a (cuts.getD i 0:Int)<mnQ b (cuts.getD (i+1) 0:Int)∨dens.getD i 0=0):=fun x=>x.elim (fun y=>y c1) c2
 simp only [if_neg cc,fit]
 by_cases s3:small (mnQ b (cuts.getD (i+1) 0:Int)-mxQ a (cuts.getD i 0:Int))
 ·rw [if_pos s3,if_pos s3,cnF rfl,asT (by omega),asT (by omega),asC (by omega),yvC,yxs s3 sd,ycp]
  split <;> rfl
 ·rw [if_neg s3,if_neg s3,cnT (by decide)];rfl
theorem ydG {α:Type} {q:Rat} {k:Rat→Except Int α} (h:small q):fit q k=k q:=if_pos h
theorem yjC {α:Type} {q:Rat} {k:Rat→Except Int α} (h:¬small q):fit q k=.error 16:=if_neg h
theorem ysc {q:Rat} {K:Int→Int→Int→Prop}:exK (.ok q) K=K q.num q.den 0:=rfl
theorem ysd {c:Int} {K:Int→Int→Int→Prop}:exK (.error c) K=K 0 0 c:=rfl
theorem add_zero (q:Rat):q+0=q:=by grind
theorem ywq (h:VC len cuts dens) {a b:Rat} (ha:small a) (hb:small b) (hab:¬b<a) (W1:Int→List PV→List PV→(Int→Prop)→Prop) (W2:Int→Int→Int→(Bool→Prop)→Prop) (W3:Int→Int→Int→Int→(Bool→Prop)→Prop) (K:Int→Int→Int→Prop) :
  ∀ (r i n:Nat) (p sum:Rat),i+r=dens.length→r<n→small sum→p=mxQ a (mnQ b (cuts.getD i 0:Int)) →
   ydg W1 W2 W3 ycB yde (fun e f g=>(K e f g)) (fun _ _ _ _ _ _ _ _ _ j k _ _=>(K j k (0:Int)))
    n len (ints cuts) (ints dens) a.num a.den b.num b.den 0 0 sum.num sum.den i=exK (valS cuts dens b r i p sum) K
 | 0,i,n+1,p,sum,hi,hn,hs,hp=>by
  unfold ydg valS
  rw [yaI,cbF (by omega)];rfl
 | r+1,i,n+1,p,sum,hi,hn,hs,hp=>by
  unfold ydg
  have l1:=h.l1;have l2:=h.l2
  have e1:=wib (n:=(i:Int)+1) (by omega) (by omega)
  have hst:=h.step (i:=i) (by omega)
  have hst':((cuts.getD i 0:Int):Rat)<((cuts.getD (i+1) 0:Int):Rat):=Rat.intCast_lt_intCast.2 hst
  have sd:=h.sd (i:=i) (by omega)
  have sc:=h.sc (i:=i+1) (by omega)
  have sc0:=h.sc (i:=i) (by omega)
  rw [yaI,cbT (by omega),yBe h (by omega) ha hb,e1,ygN]
  have ih:=fun p sum hs hp=>ywq h ha hb hab W1 W2 W3 K r (i+1) n p sum (by omega) (by omega) hs hp
  unfold valS worS
  obtain ⟨c0,hc0⟩:∃ c:Rat,c=((cuts.getD i 0:Int):Rat):=⟨_,rfl⟩
  obtain ⟨c,hc⟩:∃ c:Rat,c=((cuts.getD (i+1) 0:Int):Rat):=⟨_,rfl⟩
  obtain ⟨d,hd⟩:∃ d:Rat,d=((dens.getD i 0:Int):Rat):=⟨_,rfl⟩
  rw [← hc0,← hc] at hst'
  rw [← hc] at sc
  rw [← hc0] at sc0 hp
  rw [← hd] at sd
  rw [← hc] at ih
  simp only [← hc0,← hc,← hd]
  have zk:∀ K2:Int→Int→Int→Prop,fitK (sum+0) K2=K2 sum.num sum.den 0:=fun K2=>by rw [add_zero,ycp,if_pos hs]
  have en:(if b<c then b else c)=mnQ b c:=rfl
  rw [en]
  have nx:(if p<mnQ b c then mnQ b c else p)=mxQ a (mnQ b c):=by
   rw [hp];unfold mxQ mnQ
   grind
  have add0:=yxr hs (r:=0) (by decide)
  rw [show (0:Rat).num=0 from rfl,show ((0:Rat).den:Int)=1 from rfl] at add0
  by_cases c2:dens.getD i 0=0
  ·rw [if_pos (.inr c2),if_pos (.inl c2),nx]
   rw [ysc,cnF rfl]
   rw [show ((0:Rat).num)=0 from rfl,show (((0:Rat).den:Nat):Int)=1 from rfl,add0,zk,cnF rfl]
   exact ih _ sum hs rfl
  by_cases c1:mxQ a c0<mnQ b c
  ·-- the interval counts
   have hpm:p=mxQ a c0:=by
    rw [hp];unfold mxQ mnQ at *
    grind
   have hpl:p<mnQ b c:=by rw [hpm];exact c1
   rw [if_neg (fun x=>x.elim (fun y=>y c1) c2),if_neg (fun x=>x.elim c2 (fun y=>y hpl)),← hpm]
   have nx2:mnQ b c=mxQ a (mnQ b c):=by rw [← nx,if_pos hpl]
   by_cases s1:small (mnQ b c-p)
   case neg=>rw [yjC s1,yjC s1,ysd,cnT (by decide)];rfl
   rw [ydG s1,ydG s1]
   by_cases s2:small ((mnQ b c-p)*d)
   case neg=>rw [yjC s2,yjC s2,ysd,cnT (by decide)];rfl
   rw [ydG s2,ydG s2,ysc]
   rw [cnF rfl,yxr hs s2,ycp]
   by_cases s3:small (sum+(mnQ b c-p)*d)
   ·rw [if_pos s3,ydG s3,cnF rfl]
    exact ih _ _ s3 nx2
   ·rw [if_neg s3,yjC s3,cnT (by decide)];rfl
  ·have hpl:¬p<mnQ b c:=by
    rw [hp];unfold mxQ mnQ at *
    grind
   rw [if_pos (.inl c1),if_pos (.inr hpl),nx]
   rw [ysc,cnF rfl]
   rw [show ((0:Rat).num)=0 from rfl,show (((0:Rat).den:Nat):Int)=1 from rfl,add0,zk,cnF rfl]
   exact ih _ sum hs rfl
theorem yIr (h1:cuts.length<4611686018427387904) (h2:dens.length<4611686018427387904) {an ad bn bd:Int} (ha:I64 an) (ha':I64 ad) (hb:I64 bn) (hb':I64 bd) (K:Int→Int→Int→Prop) :
  yf7 len (ints cuts) (ints dens) an ad bn bd K=exK (valR len cuts dens an ad bn bd) K:=by
 refine yDf (fun r0 r1 r2 h K=>yAh _ _ _ _ _ _ _ r0 r1 r2 h K) (fun K k=>?_) K
 unfold yf7 ymT
 rw [yiJ h1 h2]
 unfold valR at k
 by_cases h:ckC len cuts dens=0
 case neg=>rw [cnT h,yiJ h1 h2];rw [if_neg h] at k;exact k
 have hv:=ylI h
 have hl:=hv.len0
 rw [if_pos h] at k
 rw [cnF h,yvD (by omega) ha ha']
 by_cases p1:PT len an ad
 case neg=>rw [decide_eq_false p1,qA3,yag];rw [if_neg (fun x=>p1 x.1)] at k;exact k
 rw [decide_eq_true p1,qBh,yad,yvD (by omega) hb hb']
 by_cases p2:PT len bn bd
 case neg=>rw [decide_eq_false p2,qA3,yag];rw [if_neg (fun x=>p2 x.2.1)] at k;exact k
 rw [decide_eq_true p2,qBh,yad]
 obtain ⟨s1,e1,e2,z1,_⟩:=p1.pt
 obtain ⟨s2,f1,f2,_,_⟩:=p2.pt
 have hless:=yhK s2 s1
 rw [e1,e2,f1,f2] at hless
 rw [hless]
 by_cases p3:rt bn bd<rt an ad
 ·rw [cbT p3];rw [if_neg (fun x=>x.2.2 p3)] at k;exact k
 rw [cbF p3]
 rw [if_pos ⟨p1,p2,p3⟩] at k
 refine ⟨dens.length+1,?_⟩
 have c0:((cuts.getD 0 0:Int):Rat)=0:=by rw [hv.2.2.2.2.2.1];rfl
 have:=ywq hv s1 s2 p3 ybc ycz yaC K dens.length 0 (dens.length+1) (rt an ad) 0 (by omega) (by omega) (by decide) (by rw [c0];unfold mxQ mnQ;grind)
 rw [e1,e2,f1,f2] at this
 exact this.mpr k
theorem yFa {q:Rat} (h:0<q):q.num>0:=by
 have h1:0≤q.num:=Rat.num_nonneg.2 (qA1 h)
 have h2:q.num≠0:=fun e=>by
  have:=Rat.num_eq_zero.1 e
  rw [this] at h;exact Rat.lt_irrefl h
 omega
theorem yzo (h:VC len cuts dens) (an ad:Int) (W1:Int→List PV→List PV→(Int→Prop)→Prop) (W2:Int→Int→Int→(Bool→Prop)→Prop) (W3:Int→Int→(Int→Prop)→Prop) (K:Int→Int→Int→Prop) :
  ∀ (r i n:Nat) (p v:Rat),i+r=dens.length→r<n→small p→small v→0<v→¬p<(cuts.getD i 0:Int) →
   ycm W1 W2 W3 ybn yaC yd2 ycB yg7 yde yf5
    (fun a d f=>(K a d f)) (fun _ _ _ g j k _ _ _ _ _ _ _=>(cbr (decide (k>(0:Int))) (K (0:Int) (0:Int) (6:Int)) (K g j (0:Int))))
    n len (ints cuts) (ints dens) an ad v.num v.den 0 0 p.num p.den i=exK (mrkS cuts dens r i p v) K
 | 0,i,n+1,p,v,hi,hn,hp,hs,h0,hc0=>by
  unfold ycm mrkS
  rw [yaI,cbF (by omega),cbT (yFa h0)];rfl
 | r+1,i,n+1,p,v,hi,hn,hp,hs,h0,hc0=>by
  unfold ycm
  have l1:=h.l1;have l2:=h.l2
  have e1:=wib (n:=(i:Int)+1) (by omega) (by omega)
  have sd:=h.sd (i:=i) (by omega)
  have sc:=h.sc (i:=i+1) (by omega)
  have hw:=fun b hb=>yBe h (i:=i) (by omega) hp (b:=b) hb
  rw [yaI,yaI,cbT (by omega),cbT (yFa h0),e1,ygN,qAh,qAh,asT (by omega),asT (by omega),asC (by omega),ybF (by omega),ybF (by omega),yvC,yhK hp sc]
  have ih:=fun p v hp hs h0 hc=>yzo h an ad W1 W2 W3 K r (i+1) n p v (by omega) (by omega) hp hs h0 hc
  unfold mrkS
  obtain ⟨c,hc⟩:∃ c:Rat,c=((cuts.getD (i+1) 0:Int):Rat):=⟨_,rfl⟩
  rw [← hc] at sc ih ⊢
  by_cases hpc:p<c
  case neg =>
   rw [decide_eq_false hpc,qA3,yag,if_pos hpc,yvE hp sc]
   have:mxQ p c=p:=if_neg hpc
   rw [this];exact ih p v hp hs h0 hpc
  rw [decide_eq_true hpc,qBh,yad,if_neg (fun x=>x hpc),asT (by omega),asT (by omega),asC (by omega)]
  by_cases hd:dens.getD i 0=0
  ·rw [ceT hd,if_pos hd,yvE hp sc]
   have:mxQ p c=c:=if_pos hpc
   rw [this];exact ih c v sc hs h0 Rat.lt_irrefl
  rw [ceF hd,if_neg hd,hw c sc]
  unfold worS
  have m1:mxQ p (cuts.getD i 0:Int)=p:=if_neg hc0
  have m2:mnQ c (cuts.getD (i+1) 0:Int)=c:=by rw [← hc];unfold mnQ;split <;> rfl
  simp only [m1,m2]
  rw [if_neg (fun x=>x.elim (fun y=>y hpc) hd)]
  by_cases s1:small (c-p)
  case neg=>rw [yjC s1,yjC s1,ysd,cnT (by decide)];rfl
  rw [ydG s1,ydG s1]
  by_cases s2:small ((c-p)*(dens.getD i 0:Int))
  case neg=>rw [yjC s2,yjC s2,ysd,cnT (by decide)];rfl
  rw [ydG s2,ydG s2,ysc]
  rw [cnF rfl,yhK s2 hs]
  by_cases hwv:(c-p)*(dens.getD i 0:Int)<v
  ·rw [decide_eq_true hwv,qBh,yad,if_pos hwv,yHq hs s2,ycp]
   by_cases s3:small (v-(c-p)*(dens.getD i 0:Int))
   ·rw [if_pos s3,ydG s3,cnF rfl]
    exact ih c _ sc s3 (by grind) Rat.lt_irrefl
   ·rw [if_neg s3,yjC s3,cnT (by decide)];rfl
  ·have hdn:((dens.getD i 0:Int):Rat)≠0:=fun e=>hd (Rat.intCast_eq_zero_iff.1 e)
   rw [decide_eq_false hwv,qA3,yag,if_neg hwv,asT (by omega),asT (by omega),asC (by omega),yvC,yKK hs sd hdn,ycp]
   by_cases s3:small (v / (dens.getD i 0:Int))
   ·rw [if_pos s3,ydG s3,cnF rfl,yxr hp s3,ycp,fit]
    split <;> rfl
   ·rw [if_neg s3,yjC s3,cnT (by decide)];rfl
theorem yJI (h1:cuts.length<4611686018427387904) (h2:dens.length<4611686018427387904) {an ad vn vd:Int} (ha:I64 an) (ha':I64 ad) (hv:I64 vn) (hv':I64 vd) (K:Int→Int→Int→Prop) :
  yg8 len (ints cuts) (ints dens) an ad vn vd K=exK (mrkR len cuts dens an ad vn vd) K:=by
 refine yDf (fun r0 r1 r2 h K=>yCL _ _ _ _ _ _ _ r0 r1 r2 h K) (fun K k=>?_) K
 unfold yg8 yoM
 rw [yiJ h1 h2]
 unfold mrkR at k
 by_cases h:ckC len cuts dens=0
 case neg=>rw [cnT h,yiJ h1 h2];rw [if_neg h] at k;exact k
 have hc:=ylI h
 have hl:=hc.len0
 rw [if_pos h] at k
 rw [cnF h,yvD (by omega) ha ha']
 by_cases p1:PT len an ad
 case neg=>rw [decide_eq_false p1,qA3,yag];rw [if_neg (fun x=>p1 x.1)] at k;exact k
 rw [decide_eq_true p1,qBh,yad,ylG hv hv',chk]
 by_cases p2:RV vn vd
 case neg=>rw [if_neg p2,cnT (by decide)];rw [if_neg (fun x=>p2 x.2.1)] at k;exact k
 rw [if_pos p2,cnF rfl]
 by_cases p3:vn<0
 ·rw [cbT p3];rw [if_neg (fun x=>by omega)] at k;exact k
 rw [cbF p3]
 rw [if_pos ⟨p1,p2,by omega⟩] at k
 obtain ⟨s1,e1,e2,z1,_⟩:=p1.pt
 obtain ⟨s2,f1,f2⟩:=yLe p2
 unfold mrkC at k
 refine ⟨dens.length+1,?_⟩
 by_cases p4:vn=0
 ·rw [if_pos (Rat.num_eq_zero.1 (f1.trans p4))] at k
  have k:K (rt an ad).num (rt an ad).den 0:=k
  rw [e1,e2] at k
  unfold ycm
  rw [yaI]
  by_cases hz:(0:Int)<dens.length
  ·rw [cbT hz,cbF (by omega),cbF (by omega)];exact k
  ·rw [cbF hz,cbF (by omega)];exact k
 rw [if_neg (fun x=>p4 (by rw [← f1,x];rfl))] at k
 have hpos:0<rt vn vd:=by
  have a1:0≤rt vn vd:=Rat.num_nonneg.1 (by omega)
  have a2:rt vn vd≠0:=fun x=>p4 (by rw [← f1,x];rfl)
  grind
 have c0:((cuts.getD 0 0:Int):Rat)=0:=by rw [hc.2.2.2.2.2.1];rfl
 have:=yzo hc an ad ybc ycz ydw K dens.length 0 (dens.length+1) (rt an ad) (rt vn vd) (by omega) (by omega) s1 s2 hpos (by rw [c0];grind)
 rw [e1,e2,f1,f2] at this
 exact this.mpr k
end
structure Ck where
 len:Int
 cuts:List Int
 dens:List Int
instance:Inhabited Ck:=⟨⟨0,[],[]⟩⟩
def encC (c:Ck):PV:=.agg [.int .i64 c.len,.data (ints c.cuts),.data (ints c.dens)]
def cks (l:List Ck):List PV:=l.map encC
def Ck.fin (c:Ck):Prop:=c.cuts.length<4611686018427387904∧c.dens.length<4611686018427387904
def Ck.err (c:Ck):Int:=ckC c.len c.cuts c.dens
def Ck.ok (c:Ck):Prop:=VC c.len c.cuts c.dens
instance (c:Ck):Decidable c.ok:=by unfold Ck.ok;infer_instance
theorem ybb (l:List Ck):(cks l).length=l.length:=qAe ..
theorem yc8 {l:List Ck} {i:Nat} (h:i<l.length):List.getD (cks l) i .nils=encC (l.getD i default):=by
 unfold cks
 rw [qAb,qAb,qA4,qAd h]
 rfl
theorem ydW {α:Type} {l:List α} {i:Nat} (d:α) (h:i<l.length):l.drop i=l.getD i d::l.drop (i+1):=by
 rw [List.drop_eq_getElem_cons h,qAb,qAd h];rfl
theorem asCk {c:Ck} {P:Prop}:asr (conf zK (encC c)) P=P:=rfl
theorem ck0 (c:Ck):yaa (yab (encC c) 0)=c.len:=rfl
theorem ck1 (c:Ck):yaX (yab (encC c) 1)=ints c.cuts:=rfl
theorem ck2 (c:Ck):yaX (yab (encC c) 2)=ints c.dens:=rfl
def yfk:List Ck→Int
 | []=>0
 | c::t=>if c.err=0 then yfk t else c.err
def yjD (n:Int):List Ck→Bool
 | []=>true
 | c::t=>decide (c.len=n)&&yjD n t
def yd3 (l:List Ck) (m:Nat):Int :=
 if l.length>6 then 4 else if m>2000 then 4 else if l.length=0 then 8 else if yfk l=0 then (if yjD (l.getD 0 default).len l then 0 else 8) else yfk l
section
variable {l:List Ck}
def finC (l:List Ck):Prop:=∀ i,i<l.length→(l.getD i default).fin
theorem yHs (hf:finC l) (hl:l.length<4611686018427387904) (x0:Int→Prop) (x1:List PV→List PV→List PV→Int→Int→Bool→Prop) (lg:List PV) :
  ∀ (r i n:Nat),i+r=l.length→r<n→ydc yaF x0 x1 n (cks l) lg (cks l) l.length i =
   if yfk (l.drop i)=0 then x1 (cks l) lg (cks l) l.length l.length false else x0 (yfk (l.drop i))
 | 0,i,n+1,hi,hn=>by
  unfold ydc
  rw [cbF (by omega),qA6 (by omega),show (i:Int)=l.length by omega];rfl
 | r+1,i,n+1,hi,hn=>by
  unfold ydc
  have e1:=wib (n:=(i:Int)+1) (by omega) (by omega)
  obtain ⟨f1,f2⟩:=hf i (by omega)
  rw [cbT (by omega),ybb,qAh,yc8 (by omega),asT (by omega),asT (by omega),asCk,ck0,ck1,ck2,ylH (by omega) (by omega),ydW default (by omega),yfk,e1,ygN]
  show cbr ((l.getD i default).err != 0) _ _=_
  by_cases h:(l.getD i default).err=0
  ·rw [cnF h,if_pos h];exact yHs hf hl x0 x1 lg r (i+1) n (by omega) (by omega)
  ·rw [cnT h,if_neg h,if_neg h];rfl
theorem yHt (hl:l.length<4611686018427387904) (x0:Int→Prop) (x1:List PV→List PV→List PV→Int→Int→Bool→Prop) (lg:List PV) (W) :
  ∀ (r i n:Nat),i+r=l.length→r<n→ycJ W x0 x1 n (cks l) lg (cks l) l.length i =
   if yjD (l.getD 0 default).len (l.drop i) then x1 (cks l) lg (cks l) l.length l.length false else x0 8
 | 0,i,n+1,hi,hn=>by
  unfold ycJ
  rw [cbF (by omega),qA6 (by omega),show (i:Int)=l.length by omega];rfl
 | r+1,i,n+1,hi,hn=>by
  unfold ycJ
  have e1:=wib (n:=(i:Int)+1) (by omega) (by omega)
  rw [cbT (by omega),ybb,qAh,yc8 (by omega),yc8 (by omega),asT (by omega),asT (by omega),asCk,asT (by omega),asCk,ck0,ck0,ydW default (by omega),yjD,e1,ygN]
  by_cases h:(l.getD i default).len=(l.getD 0 default).len
  ·rw [cnF h,decide_eq_true h,Bool.true_and];exact yHt hl x0 x1 lg W r (i+1) n (by omega) (by omega)
  ·rw [cnT h,decide_eq_false h,Bool.false_and,if_neg (by simp)]
theorem ylJ (hf:finC l) (hl:l.length<4611686018427387904) (lg:List PV) (K:Int→Prop):yaU (cks l) lg K=K (yd3 l lg.length):=by
 refine yz8 _ _ _ (fun K k=>?_) K
 unfold yaU ymB
 unfold yd3 at k
 rw [ybb]
 by_cases a1:l.length>6
 ·rw [cbT (by omega)];rw [if_pos a1] at k;exact k
 rw [cbF (by omega)];rw [if_neg a1] at k
 by_cases a2:lg.length>2000
 ·rw [cbT (by omega)];rw [if_pos a2] at k;exact k
 rw [cbF (by omega)];rw [if_neg a2] at k
 by_cases a3:l.length=0
 ·rw [ceT (by omega)];rw [if_pos a3] at k;exact k
 rw [ceF (by omega)];rw [if_neg a3] at k
 refine ⟨l.length+1,?_⟩
 have h0:=yHs hf hl (fun c=>K c) (fun a d o p q r=>(∃ e:Nat,ycJ yaF (fun b=>(K b)) (fun f g i j m n=>(K (0:Int))) e a d a (((List.length a):Nat):Int) (0:Int))) lg l.length 0 (l.length+1) (by omega) (by omega)
 rw [show ((0:Nat):Int)=0 from rfl,qBz] at h0
 rw [h0]
 by_cases a4:yfk l=0
 ·rw [if_pos a4] at k ⊢
  refine ⟨l.length+1,?_⟩
  have h1:=yHt hl (fun b=>(K b)) (fun f g i j m n=>(K (0:Int))) lg yaF l.length 0 (l.length+1) (by omega) (by omega)
  rw [show ((0:Nat):Int)=0 from rfl,qBz] at h1
  rw [ybb,h1]
  split at k <;> rename_i h <;> simp only [h] <;> exact k
 ·rw [if_neg a4] at k ⊢;exact k
theorem yHu (hf:finC l) (hl:l.length<4611686018427387904) (x0:Int→Prop) (x1:List PV→List PV→Int→Bool→Prop) (lg:List PV) :
  ∀ (r i n:Nat),i+r=l.length→r<n→ydh ybc x0 x1 n (cks l) lg i =
   if yfk (l.drop i)=0 then x1 (cks l) lg l.length false else x0 (yfk (l.drop i))
 | 0,i,n+1,hi,hn=>by
  unfold ydh
  rw [ybb,cbF (by omega),qA6 (by omega),show (i:Int)=l.length by omega];rfl
 | r+1,i,n+1,hi,hn=>by
  unfold ydh
  have e1:=wib (n:=(i:Int)+1) (by omega) (by omega)
  obtain ⟨f1,f2⟩:=hf i (by omega)
  rw [ybb,cbT (by omega),qAh,yc8 (by omega),asT (by omega),asT (by omega),asCk,ck0,ck1,ck2,yiJ (by omega) (by omega),ydW default (by omega),yfk,e1,ygN]
  show cbr ((l.getD i default).err != 0) _ _=_
  by_cases h:(l.getD i default).err=0
  ·rw [cnF h,if_pos h];exact yHu hf hl x0 x1 lg r (i+1) n (by omega) (by omega)
  ·rw [cnT h,if_neg h,if_neg h,asT (by omega),asT (by omega),asCk,yiJ (by omega) (by omega)];rfl
theorem yHv (hl:l.length<4611686018427387904) (x0:Int→Prop) (x1:List PV→List PV→Int→Bool→Prop) (lg:List PV) (W) :
  ∀ (r i n:Nat),i+r=l.length→r<n→ycL W x0 x1 n (cks l) lg i =
   if yjD (l.getD 0 default).len (l.drop i) then x1 (cks l) lg l.length false else x0 8
 | 0,i,n+1,hi,hn=>by
  unfold ycL
  rw [ybb,cbF (by omega),qA6 (by omega),show (i:Int)=l.length by omega];rfl
 | r+1,i,n+1,hi,hn=>by
  unfold ycL
  have e1:=wib (n:=(i:Int)+1) (by omega) (by omega)
  rw [ybb,cbT (by omega),qAh,yc8 (by omega),yc8 (by omega),asT (by omega),asT (by omega),asCk,asT (by omega),asCk,ck0,ck0,ydW default (by omega),yjD,e1,ygN]
  by_cases h:(l.getD i default).len=(l.getD 0 default).len
  ·rw [cnF h,decide_eq_true h,Bool.true_and];exact yHv hl x0 x1 lg W r (i+1) n (by omega) (by omega)
  ·rw [cnT h,decide_eq_false h,Bool.false_and,if_neg (by simp)]
theorem ypB (hf:finC l) (hl:l.length<4611686018427387904) (lg:List PV) (K:Int→Prop):yeO (cks l) lg K=K (yd3 l lg.length):=by
 refine yAm _ _ _ (fun K k=>?_) K
 unfold yeO ymV
 unfold yd3 at k
 rw [ybb]
 by_cases a1:l.length>6
 ·rw [cbT (by omega)];rw [if_pos a1] at k;exact k
 rw [cbF (by omega)];rw [if_neg a1] at k
 by_cases a2:lg.length>2000
 ·rw [cbT (by omega)];rw [if_pos a2] at k;exact k
 rw [cbF (by omega)];rw [if_neg a2] at k
 by_cases a3:l.length=0
 ·rw [ceT (by omega)];rw [if_pos a3] at k;exact k
 rw [ceF (by omega)];rw [if_neg a3] at k
 refine ⟨l.length+1,?_⟩
 have h0:=yHu hf hl (fun b=>K b) (fun c d m n=>(∃ e:Nat,ycL ybc (fun a=>(K a)) (fun f g i j=>(K (0:Int))) e c d (0:Int))) lg l.length 0 (l.length+1) (by omega) (by omega)
 rw [show ((0:Nat):Int)=0 from rfl,qBz] at h0
 rw [h0]
 by_cases a4:yfk l=0
 ·rw [if_pos a4] at k ⊢
  refine ⟨l.length+1,?_⟩
  have h1:=yHv hl (fun a=>(K a)) (fun f g i j=>(K (0:Int))) lg ybc l.length 0 (l.length+1) (by omega) (by omega)
  rw [show ((0:Nat):Int)=0 from rfl,qBz] at h1
  rw [h1]
  split at k <;> rename_i h <;> simp only [h] <;> exact k
 ·rw [if_neg a4] at k ⊢;exact k
def Ck.low (c:Ck):Prop:=c.cuts.length≤1000∧c.dens.length≤1000
def lowC (l:List Ck):Prop:=∀ i,i<l.length→(l.getD i default).low
theorem ypd (l:List Int):ycj 1 (ints l)=true:=by cases l <;> rfl
theorem yt8 {l:List Int} (h:l.length≤1000) (K:List PV→Prop):ydo (ints l) K=K (ints l):=by
 show asr (yid 1 8 (ints l)) (K (ints l))=_
 have:yid 1 8 (ints l)=true:=by
  unfold yid
  rw [ypd,yaI,Bool.true_and,decide_eq_true_iff]
  unfold room;omega
 rw [this,yaG]
theorem asTT {c:Bool} {P:Prop} (h:c=true):asr c P=P:=by rw [h,yaG]
theorem yHw (hf:lowC l) (hl:l.length≤1000) (x0:List PV→List PV→Int→Int→Bool→Prop) (x1:List PV→Int→Int→Bool→Prop) :
  ∀ (r i n:Nat) (acc:List PV),i+r=l.length→r<n→acc.length≤i→yc1 ydo x0 x1 n acc (cks l) l.length i=x0 (acc++cks (l.drop i)) (cks l) l.length l.length false
 | 0,i,n+1,acc,hi,hn,ha=>by
  unfold yc1
  rw [cbF (by omega),qA6 (by omega),show (i:Int)=l.length by omega]
  show _=x0 (acc++[]) _ _ _ _
  rw [qAy]
 | r+1,i,n+1,acc,hi,hn,ha=>by
  unfold yc1
  have e1:=wib (n:=(i:Int)+1) (by omega) (by omega)
  obtain ⟨f1,f2⟩:=hf i (by omega)
  rw [cbT (by omega),ybb,qAh,yc8 (by omega),asT (by omega),asT (by omega),asCk,ck0,ck1,ck2,yt8 f1,yt8 f2,asT rfl,asT (by omega),asTT (by rw [decide_eq_false (by omega)];rfl),asT rfl,asT (by unfold room;omega),asTT (by simp),e1,ygN]
  rw [yHw hf hl x0 x1 r (i+1) n _ (by omega) (by omega) (by simp;omega),ydW (i:=i) default (by omega),qAf];rfl
theorem yvF (hf:lowC l) (hl:l.length≤1000) (K:List PV→Prop):ydu (cks l) K=K (cks l):=by
 refine yyM _ _ (fun K k=>?_) K
 unfold ydu ykP
 cases hc:l with
 | nil =>
  refine ⟨0+1,?_⟩
  rw [hc] at k
  rw [ye8,ybb,cbF (by simp)]
  exact k
 | cons c t =>
  rw [← hc]
  have h0:0<l.length:=by rw [hc];exact Nat.zero_lt_succ _
  refine ⟨(l.length+1)+1,?_⟩
  rw [ye8]
  obtain ⟨f1,f2⟩:=hf 0 (by omega)
  have e1:=wib (n:=(0:Int)+1) (by omega) (by omega)
  rw [ybb,cbT (by omega),show (0:Int).toNat=0 from rfl,yc8 (by omega),asT (by omega),asT (by omega),asCk,ck0,ck1,ck2,yt8 f1,yt8 f2,asTT (by simp),e1,show (0:Int)+1=((0+1:Nat):Int) from rfl]
  rw [yHw hf hl _ _ (l.length-1) (0+1) (l.length+1) _ (by omega) (by omega) (by simp)]
  have e:[PV.agg [PV.int IntKind.i64 (l.getD 0 default).len,PV.data (ints (l.getD 0 default).cuts),PV.data (ints (l.getD 0 default).dens)]]++cks (l.drop (0+1))=cks l:=by
   conv=>rhs;rw [← qBz (l:=l),ydW default h0]
   rfl
  rw [e,asT rfl,asT (by omega),List.take_length]
  exact k
theorem yiK {α:Type} (x:List α):List.take x.length x=x:=List.take_length
theorem yDg (x:List Int):List.isEmpty (ints x)=List.isEmpty x:=by cases x <;> rfl
theorem yHx {len:Int} {cuts dens:List Int} (h1:cuts.length≤1000) (h2:dens.length≤1000) (K:Int→List PV→List PV→Prop) :
  yfQ len (ints cuts) (ints dens) K=K len (ints cuts) (ints dens):=by
 unfold yfQ yoJ
 rw [ypd,ypd]
 simp only [yaG,yaI,yDg]
 cases cuts with
 | nil =>
  cases dens with
  | nil=>rfl
  | cons y t =>
   simp only [List.isEmpty_nil,List.isEmpty_cons,yag,yad]
   rw [asT (by unfold room;omega),asT trivial,asT (by omega),← yaI,yiK];rfl
 | cons x s =>
  cases dens with
  | nil =>
   simp only [List.isEmpty_nil,List.isEmpty_cons,yag,yad]
   rw [asT (by unfold room;omega),asT trivial,asT (by omega),← yaI,yiK];rfl
  | cons y t =>
   simp only [List.isEmpty_cons,yad]
   rw [asT (by unfold room;omega),asT (by unfold room;omega),asT trivial,asT (by omega),asT trivial,asT (by omega)]
   rw [← yaI,yiK,← yaI,yiK]
theorem yJJ (hf:lowC l) (hl:l.length≤1000) (x0:List PV→List PV→Int→Bool→Prop) (x1:List PV→Int→Bool→Prop) :
  ∀ (r i n:Nat) (acc:List PV),i+r=l.length→r<n→acc.length≤i→ydi yfQ x0 x1 n acc (cks l) i=x0 (acc++cks (l.drop i)) (cks l) l.length false
 | 0,i,n+1,acc,hi,hn,ha=>by
  unfold ydi
  rw [ybb,cbF (by omega),qA6 (by omega),show (i:Int)=l.length by omega]
  show _=x0 (acc++[]) _ _ _
  rw [qAy]
 | r+1,i,n+1,acc,hi,hn,ha=>by
  unfold ydi
  have e1:=wib (n:=(i:Int)+1) (by omega) (by omega)
  obtain ⟨f1,f2⟩:=hf i (by omega)
  rw [ybb,cbT (by omega),qAh,yc8 (by omega),asT (by omega),asT (by omega),asCk,ck0,ck1,ck2,yHx f1 f2,asT rfl,asT (by omega),asTT (by rw [decide_eq_false (by omega)];rfl),asT rfl,asT (by unfold room;omega),asTT (by simp),e1,ygN]
  rw [yJJ hf hl x0 x1 r (i+1) n _ (by omega) (by omega) (by simp;omega),ydW (i:=i) default (by omega),qAf];rfl
theorem yFb (hf:lowC l) (hl:l.length≤1000) (K:List PV→Prop):yeP (cks l) K=K (cks l):=by
 refine yAn _ _ (fun K k=>?_) K
 unfold yeP ymY
 cases hc:l with
 | nil =>
  refine ⟨0+1,?_⟩
  rw [hc] at k
  rw [yfA,ybb,cbF (by simp)]
  exact k
 | cons c t =>
  rw [← hc]
  have h0:0<l.length:=by rw [hc];exact Nat.zero_lt_succ _
  refine ⟨(l.length+1)+1,?_⟩
  rw [yfA]
  obtain ⟨f1,f2⟩:=hf 0 (by omega)
  have e1:=wib (n:=(0:Int)+1) (by omega) (by omega)
  rw [ybb,cbT (by omega),show (0:Int).toNat=0 from rfl,yc8 (by omega),asT (by omega),asT (by omega),asCk,ck0,ck1,ck2,yHx f1 f2,asTT (by simp),e1,show (0:Int)+1=((0+1:Nat):Int) from rfl]
  rw [yJJ hf hl _ _ (l.length-1) (0+1) (l.length+1) _ (by omega) (by omega) (by simp)]
  have e:[PV.agg [PV.int IntKind.i64 (l.getD 0 default).len,PV.data (ints (l.getD 0 default).cuts),PV.data (ints (l.getD 0 default).dens)]]++cks (l.drop (0+1))=cks l:=by
   conv=>rhs;rw [← qBz (l:=l),ydW default h0]
   rfl
  rw [e,asT rfl,asT (by omega),yiK]
  exact k
theorem ywr:∀ (l:List Ck),yfk l=0→∀ i,i<l.length→(l.getD i default).ok
 | c::t,h,0,_=>by
  unfold yfk at h
  split at h
  ·rename_i h1;exact ylI h1
  ·rename_i h1;exact absurd h h1
 | c::t,h,i+1,hi=>by
  unfold yfk at h
  split at h
  ·exact ywr t h i (by simpa using hi)
  ·rename_i h1;exact absurd h h1
theorem yzp {n:Int}:∀ (l:List Ck),yjD n l=true→∀ i,i<l.length→(l.getD i default).len=n
 | c::t,h,0,_=>by
  unfold yjD at h
  simp only [qAg,decide_eq_true_eq] at h
  exact h.1
 | c::t,h,i+1,hi=>by
  unfold yjD at h
  simp only [qAg,decide_eq_true_eq] at h
  exact yzp t h.2 i (by simpa using hi)
structure DK (l:List Ck):Prop where
 n6:l.length≤6
 n0:1≤l.length
 ok:∀ i,i<l.length→(l.getD i default).ok
 len:∀ i,i<l.length→(l.getD i default).len=(l.getD 0 default).len
theorem yhg {m:Nat} (h:yd3 l m=0):DK l∧m≤2000:=by
 unfold yd3 at h
 split at h
 ·omega
 split at h
 ·omega
 split at h
 ·omega
 split at h
 ·rename_i h0 h1 h2 h3
  split at h
  ·rename_i h4
   exact ⟨⟨by omega,by omega,ywr l h3,yzp l h4⟩,by omega⟩
  ·omega
 ·rename_i h3;exact absurd h h3
theorem DK.err {l:List Ck} (h:DK l) {m:Nat} (hm:m≤2000):yd3 l m=0:=by
 have f:∀ l:List Ck,(∀ i,i<l.length→(l.getD i default).ok)→yfk l=0:=by
  intro l
  induction l with
  | nil=>intro _;rfl
  | cons c t ih =>
   intro h
   unfold yfk
   rw [if_pos (show c.err=0 from (h 0 (Nat.zero_lt_succ _)).ck)]
   exact ih fun i hi=>h (i+1) (by simpa using hi)
 have g:∀ (n:Int) (l:List Ck),(∀ i,i<l.length→(l.getD i default).len=n)→yjD n l=true:=by
  intro n l
  induction l with
  | nil=>intro _;rfl
  | cons c t ih =>
   intro h
   unfold yjD
   rw [qAg,decide_eq_true_eq]
   exact ⟨h 0 (Nat.zero_lt_succ _),ih fun i hi=>h (i+1) (by simpa using hi)⟩
 have:=h.n6;have:=h.n0
 unfold yd3
 rw [if_neg (by omega),if_neg (by omega),if_neg (by omega),if_pos (f l h.ok),if_pos (g _ l h.len)]
theorem DK.low {l:List Ck} (h:DK l):lowC l:=fun i hi=>by
 have h1:=(h.ok i hi).l1;have h2:=(h.ok i hi).l2
 exact ⟨by omega,by omega⟩
theorem DK.fin {l:List Ck} (h:DK l):finC l:=fun i hi=>by
 have h1:=(h.ok i hi).l1;have h2:=(h.ok i hi).l2
 exact ⟨by omega,by omega⟩
theorem yFc (hf:finC l) (hl:l.length<4611686018427387904) (K:List PV→List PV→Int→Prop):yfJ (cks l) K=if yd3 l 0=0 then K (cks l) [] 0 else K [] [] (yd3 l 0):=by
 unfold yfJ yow
 rw [ylJ hf hl]
 show cbr (yd3 l 0 != 0) _ _=_
 by_cases h:yd3 l 0=0
 ·have hd:=(yhg h).1
  rw [cnF h,if_pos h,yvF hd.low (by have:=hd.n6;omega)]
 ·rw [cnT h,if_neg h];rfl
theorem yFd (hf:finC l) (hl:l.length<4611686018427387904) (K:List PV→List PV→Int→Prop):yha (cks l) K=if yd3 l 0=0 then K (cks l) [] 0 else K [] [] (yd3 l 0):=by
 unfold yha yoT
 rw [ypB hf hl]
 show cbr (yd3 l 0 != 0) _ _=_
 by_cases h:yd3 l 0=0
 ·have hd:=(yhg h).1
  rw [cnF h,if_pos h,yFb hd.low (by have:=hd.n6;omega)]
 ·rw [cnT h,if_neg h,ypB hf hl];rfl
def qrow (agent kind an ad bn bd cn cd:Int):PV:=.agg [.int .i64 agent,.int .u8 kind,.int .i64 an,.int .i64 ad,.int .i64 bn,.int .i64 bd,.int .i64 cn,.int .i64 cd]
def qryR (l:List Ck) (m:Nat) (agent:Int) (ans:Ck→Except Int Rat):Except Int Rat :=
 if yd3 l m=0 then (if 0≤agent∧agent<l.length then (match ans (l.getD agent.toNat default) with
  | .ok p=>if m≥2000 then .error 4 else .ok p
  | .error e=>.error e) else .error 2) else .error (yd3 l m)
def qryK (l:List Ck) (lg:List PV) (row:Rat→PV) (e:Except Int Rat) (K:List PV→List PV→Int→Int→Int→Prop):Prop :=
 match e with
 | .ok p=>K (cks l) (lg++[row p]) p.num p.den 0
 | .error c=>K [] [] 0 0 c
theorem yJK {w:(List PV→List PV→Int→Int→Int→Prop)→Prop} {l:List Ck} {lg:List PV} {row:Rat→PV} {e:Except Int Rat} (det:∀ r0 r1 r2 r3 r4,(∀ K:List PV→List PV→Int→Int→Int→Prop,K r0 r1 r2 r3 r4→w K)→∀ K,w K=K r0 r1 r2 r3 r4)
  (h:∀ K,qryK l lg row e K→w K) (K):w K=qryK l lg row e K:=by
 cases e with
 | ok q=>exact det _ _ _ _ _ h K
 | error c=>exact det _ _ _ _ _ h K
theorem mk1 {z q:PV} {lg:List PV} {m:Nat} (hm:m=lg.length) :
  List.take ((0+m)+1) ((List.take (0+(0+m)) (lg++(List.drop (0+m) (List.replicate (m+1) z))))++(([q]:List PV)++(List.drop ((0+(0+m))+1) (lg++(List.drop (0+m) (List.replicate (m+1) z))))))=lg++[q]:=by
 subst hm
 simp
 rw [qAt (by simp)]
theorem yGK (lg:List PV) (agent:Int) (K:Bool→Prop):yc2 (cks l) lg agent K=K (decide (0≤agent∧agent<l.length)):=by
 unfold yc2 ygp
 rw [ybb]
 by_cases h:agent≥0
 ·rw [cbT h]
  congr 1
  rw [decide_eq_decide];omega
 ·rw [cbF h,decide_eq_false (by omega)]
theorem yJL (lg:List PV) (agent:Int) (K:Bool→Prop):ykb (cks l) lg agent K=K (decide (0≤agent∧agent<l.length)):=by
 unfold ykb ym1
 rw [ybb]
 by_cases h:agent≥0
 ·rw [cbT h]
  congr 1
  rw [decide_eq_decide];omega
 ·rw [cbF h,decide_eq_false (by omega)]
def Ck.mark (an ad vn vd:Int) (c:Ck):Except Int Rat:=mrkR c.len c.cuts c.dens an ad vn vd
def Ck.value (an ad bn bd:Int) (c:Ck):Except Int Rat:=valR c.len c.cuts c.dens an ad bn bd
theorem yFe (hf:finC l) (hl:l.length<4611686018427387904) {lg:List PV} (hlg:ycj 8 lg=true) {agent an ad vn vd:Int} (ha:I64 an) (ha':I64 ad) (hv:I64 vn) (hv':I64 vd) (K) :
  ydD (cks l) lg agent an ad vn vd K=qryK l lg (fun p=>qrow agent 2 an ad vn vd p.num p.den) (qryR l lg.length agent (Ck.mark an ad vn vd)) K:=by
 refine yJK (fun r0 r1 r2 r3 r4 h K=>yCl _ _ _ _ _ _ _ r0 r1 r2 r3 r4 h K) (fun K k=>?_) K
 unfold ydD yoy
 unfold qryR at k
 rw [ylJ hf hl]
 by_cases h:yd3 l lg.length=0
 case neg=>rw [cnT h];rw [if_neg h] at k;exact k
 obtain ⟨hd,hm⟩:=yhg h
 rw [if_pos h] at k
 rw [cnF h,yGK]
 by_cases h2:0≤agent∧agent<l.length
 case neg=>rw [decide_eq_false h2,qA3,yag];rw [if_neg h2] at k;exact k
 rw [if_pos h2] at k
 obtain ⟨a,rfl⟩:∃ a:Nat,agent=a:=⟨agent.toNat,by omega⟩
 have ha2:a<l.length:=by omega
 rw [qAh] at k
 obtain ⟨f1,f2⟩:=hf a ha2
 rw [decide_eq_true h2,qBh,yad,ygr,yfL,ybb,qAh,yc8 ha2,asT (by omega),asT (by omega),asCk,ck0,ck1,ck2,yJF (by omega) (by omega) ha ha' hv hv']
 have em:Ck.mark an ad vn vd (l.getD a default)=mrkR (l.getD a default).len (l.getD a default).cuts (l.getD a default).dens an ad vn vd:=rfl
 rw [em] at k
 cases hr:mrkR (l.getD a default).len (l.getD a default).cuts (l.getD a default).dens an ad vn vd with
 | error c =>
  rw [hr] at k
  have k:K [] [] 0 0 c:=k
  rw [ysd]
  have hc:c≠0:=by
   intro hc
   subst hc
   unfold mrkR at hr
   split at hr
   ·split at hr
    ·unfold mrkC at hr
     split at hr
     ·cases hr
     ·have no:∀ (r i:Nat) (p v:Rat),mrkS (l.getD a default).cuts (l.getD a default).dens r i p v≠.error 0:=by
       intro r
       induction r with
       | zero=>intro i p v e;unfold mrkS at e;cases e
       | succ r ih =>
        intro i p v e
        unfold mrkS fit at e
        repeat' (first | split at e | dsimp only at e)
        all_goals first | exact ih _ _ _ e | cases e
      exact no _ _ _ _ hr
    ·cases hr
   ·rename_i h5;exact h5 (Except.error.inj hr)
  rw [cnT hc];exact k
 | ok p =>
  rw [hr] at k
  rw [ysc,cnF rfl]
  by_cases h3:lg.length≥2000
  ·rw [cbT (by omega)]
   have k:qryK l lg _ (if lg.length≥2000 then .error 4 else .ok p) K:=k
   rw [if_pos h3] at k;exact k
  ·have k:qryK l lg _ (if lg.length≥2000 then .error 4 else .ok p) K:=k
   rw [if_neg h3] at k
   have k:K (cks l) (lg++[qrow a 2 an ad vn vd p.num p.den]) p.num p.den 0:=k
   have e1:=wib (n:=(lg.length:Int)+1) (by omega) (by omega)
   have e2:((lg.length:Int)+1).toNat=lg.length+1:=by omega
   rw [cbF (by omega),e1,e2,asT (by omega),asT (by unfold room;omega),yvF hd.low (by have:=hd.n6;omega),hlg,yaG]
   rw [asT (by simp),asT (by omega)]
   cases hlg2:lg with
   | nil =>
    rw [List.isEmpty_nil,yag,asT (by simp),asT (by simp),asT (by simp),asT (by simp),asT (by simp)]
    rw [hlg2] at k
    exact k
   | cons x t =>
    rw [← hlg2,show List.isEmpty lg=false by rw [hlg2];rfl,yad,asT (by omega),asT (by simp),asT (by omega),asT (by omega),asT (by simp),asT (by omega)]
    rw [mk1 rfl]
    exact k
theorem yJM (cuts dens:List Int):∀ (r i:Nat) (p v:Rat),mrkS cuts dens r i p v≠.error 0:=by
 intro r
 induction r with
 | zero=>intro i p v e;unfold mrkS at e;cases e
 | succ r ih =>
  intro i p v e
  unfold mrkS fit at e
  repeat' (first | split at e | dsimp only at e)
  all_goals first | exact ih _ _ _ e | cases e
theorem yJN {len:Int} {cuts dens:List Int} {an ad vn vd:Int}:mrkR len cuts dens an ad vn vd≠.error 0:=by
 intro hr
 unfold mrkR at hr
 split at hr
 ·split at hr
  ·unfold mrkC at hr
   split at hr
   ·cases hr
   ·exact yJM _ _ _ _ _ _ hr
  ·cases hr
 ·rename_i h5;exact h5 (Except.error.inj hr)
theorem yJO (cuts dens:List Int) (b:Rat):∀ (r i:Nat) (p v:Rat),valS cuts dens b r i p v≠.error 0:=by
 intro r
 induction r with
 | zero=>intro i p v e;unfold valS at e;cases e
 | succ r ih =>
  intro i p v e
  unfold valS fit at e
  repeat' (first | split at e | dsimp only at e)
  all_goals first | exact ih _ _ _ e | cases e
theorem yFf {len:Int} {cuts dens:List Int} {an ad vn vd:Int}:valR len cuts dens an ad vn vd≠.error 0:=by
 intro hr
 unfold valR at hr
 split at hr
 ·split at hr
  ·exact yJO _ _ _ _ _ _ _ hr
  ·cases hr
 ·rename_i h5;exact h5 (Except.error.inj hr)
def ansQ (kind an ad bn bd:Int) (c:Ck):Except Int Rat:=if kind=1 then c.value an ad bn bd else c.mark an ad bn bd
theorem yJP {kind an ad bn bd:Int} {c:Ck}:ansQ kind an ad bn bd c≠.error 0:=by
 unfold ansQ
 split
 ·exact yFf
 ·exact yJN
theorem yIs (hf:finC l) (hl:l.length<4611686018427387904) {lg:List PV} (hlg:ycj 8 lg=true) {agent an ad vn vd:Int} (ha:I64 an) (ha':I64 ad) (hv:I64 vn) (hv':I64 vd) (K) :
  ydv (cks l) lg agent an ad vn vd K=qryK l lg (fun p=>qrow agent 1 an ad vn vd p.num p.den) (qryR l lg.length agent (Ck.value an ad vn vd)) K:=by
 refine yJK (fun r0 r1 r2 r3 r4 h K=>yz9 _ _ _ _ _ _ _ r0 r1 r2 r3 r4 h K) (fun K k=>?_) K
 unfold ydv ymE
 unfold qryR at k
 rw [ylJ hf hl]
 by_cases h:yd3 l lg.length=0
 case neg=>rw [cnT h];rw [if_neg h] at k;exact k
 obtain ⟨hd,hm⟩:=yhg h
 rw [if_pos h] at k
 rw [cnF h,yGK]
 by_cases h2:0≤agent∧agent<l.length
 case neg=>rw [decide_eq_false h2,qA3,yag];rw [if_neg h2] at k;exact k
 rw [if_pos h2] at k
 obtain ⟨a,rfl⟩:∃ a:Nat,agent=a:=⟨agent.toNat,by omega⟩
 have ha2:a<l.length:=by omega
 rw [qAh] at k
 obtain ⟨f1,f2⟩:=hf a ha2
 rw [decide_eq_true h2,qBh,yad,yfK,yfj,ybb,qAh,yc8 ha2,asT (by omega),asT (by omega),asCk,ck0,ck1,ck2,yIq (by omega) (by omega) ha ha' hv hv']
 have em:Ck.value an ad vn vd (l.getD a default)=valR (l.getD a default).len (l.getD a default).cuts (l.getD a default).dens an ad vn vd:=rfl
 rw [em] at k
 cases hr:valR (l.getD a default).len (l.getD a default).cuts (l.getD a default).dens an ad vn vd with
 | error c =>
  rw [hr] at k
  have k:K [] [] 0 0 c:=k
  rw [ysd]
  have hc:c≠0:=fun hc=>yFf (hc ▸ hr)
  rw [cnT hc];exact k
 | ok p =>
  rw [hr] at k
  rw [ysc,cnF rfl]
  by_cases h3:lg.length≥2000
  ·rw [cbT (by omega)]
   have k:qryK l lg _ (if lg.length≥2000 then .error 4 else .ok p) K:=k
   rw [if_pos h3] at k;exact k
  ·have k:qryK l lg _ (if lg.length≥2000 then .error 4 else .ok p) K:=k
   rw [if_neg h3] at k
   have k:K (cks l) (lg++[qrow a 1 an ad vn vd p.num p.den]) p.num p.den 0:=k
   have e1:=wib (n:=(lg.length:Int)+1) (by omega) (by omega)
   have e2:((lg.length:Int)+1).toNat=lg.length+1:=by omega
   rw [cbF (by omega),e1,e2,asT (by omega),asT (by unfold room;omega),yvF hd.low (by have:=hd.n6;omega),hlg,yaG]
   rw [asT (by simp),asT (by omega)]
   cases hlg2:lg with
   | nil =>
    rw [List.isEmpty_nil,yag,asT (by simp),asT (by simp),asT (by simp),asT (by simp),asT (by simp)]
    rw [hlg2] at k
    exact k
   | cons x t =>
    rw [← hlg2,show List.isEmpty lg=false by rw [hlg2];rfl,yad,asT (by omega),asT (by simp),asT (by omega),asT (by omega),asT (by simp),asT (by omega)]
    rw [mk1 rfl]
    exact k
theorem yIt {a:Nat} (ha2:a<l.length) (hf:finC l) (kind:Int) {an ad bn bd:Int} (cn cd:Int) (ha:I64 an) (ha':I64 ad) (hb:I64 bn) (hb':I64 bd) (K:Int→Int→Int→Prop) :
  yiv (cks l) a kind an ad bn bd cn cd K=exK (ansQ kind an ad bn bd (l.getD a default)) K:=by
 unfold yiv ykU ansQ
 obtain ⟨f1,f2⟩:=hf a ha2
 rw [ybb,qAh,yc8 ha2]
 by_cases h:kind=1
 ·rw [ceT h,if_pos h,asT (by omega),asT (by omega),asCk,ck0,ck1,ck2,yIr (by omega) (by omega) ha ha' hb hb'];rfl
 ·rw [ceF h,if_neg h,asT (by omega),asT (by omega),asCk,ck0,ck1,ck2,yJI (by omega) (by omega) ha ha' hb hb'];rfl
theorem yFg (hf:finC l) (hl:l.length<4611686018427387904) {lg:List PV} (hlg:ycj 8 lg=true) {agent:Int} (kind:Int) {an ad bn bd:Int} (cn cd:Int) (ha:I64 an) (ha':I64 ad) (hb:I64 bn) (hb':I64 bd) (K) :
  yeQ (cks l) lg agent kind an ad bn bd cn cd K=qryK l lg (fun p=>qrow agent kind an ad bn bd p.num p.den) (qryR l lg.length agent (ansQ kind an ad bn bd)) K:=by
 refine yJK (fun r0 r1 r2 r3 r4 h K=>yAo _ _ _ _ _ _ _ _ _ _ r0 r1 r2 r3 r4 h K) (fun K k=>?_) K
 unfold yeQ ym3
 unfold qryR at k
 rw [ypB hf hl]
 by_cases h:yd3 l lg.length=0
 case neg=>rw [cnT h,ypB hf hl];rw [if_neg h] at k;exact k
 obtain ⟨hd,hm⟩:=yhg h
 rw [if_pos h] at k
 rw [cnF h,yJL]
 by_cases h2:0≤agent∧agent<l.length
 case neg=>rw [decide_eq_false h2,qA3,yag];rw [if_neg h2] at k;exact k
 rw [if_pos h2] at k
 obtain ⟨a,rfl⟩:∃ a:Nat,agent=a:=⟨agent.toNat,by omega⟩
 have ha2:a<l.length:=by omega
 rw [qAh] at k
 rw [decide_eq_true h2,qBh,yad,yIt ha2 hf kind cn cd ha ha' hb hb']
 cases hr:ansQ kind an ad bn bd (l.getD a default) with
 | error c =>
  rw [hr] at k
  have k:K [] [] 0 0 c:=k
  rw [ysd]
  have hc:c≠0:=fun hc=>yJP (hc ▸ hr)
  rw [cnT hc];exact k
 | ok p =>
  rw [hr] at k
  rw [ysc,cnF rfl]
  by_cases h3:lg.length≥2000
  ·rw [ceT (by omega)]
   have k:qryK l lg _ (if lg.length≥2000 then .error 4 else .ok p) K:=k
   rw [if_pos h3] at k;exact k
  ·have k:qryK l lg _ (if lg.length≥2000 then .error 4 else .ok p) K:=k
   rw [if_neg h3] at k
   have k:K (cks l) (lg++[qrow a kind an ad bn bd p.num p.den]) p.num p.den 0:=k
   rw [ceF (by omega),yFb hd.low (by have:=hd.n6;omega),hlg,yaG]
   cases hlg2:lg with
   | nil =>
    rw [List.isEmpty_nil,yag]
    rw [hlg2] at k
    exact k
   | cons x t =>
    rw [← hlg2,show List.isEmpty lg=false by rw [hlg2];rfl,yad,asT (by unfold room;omega),asT rfl,asT (by omega),asTT (by rw [decide_eq_false (by omega)];rfl),asT rfl,asT (by unfold room;omega),asT rfl,asT (by omega),yiK]
    exact k
theorem yJQ (hf:finC l) (hl:l.length<4611686018427387904) {lg:List PV} (hlg:ycj 8 lg=true) {agent an ad vn vd:Int} (ha:I64 an) (ha':I64 ad) (hv:I64 vn) (hv':I64 vd) (K) :
  ybd (cks l) lg agent an ad vn vd K=qryK l lg (fun p=>qrow agent 2 an ad vn vd p.num p.den) (qryR l lg.length agent (Ck.mark an ad vn vd)) K:=by
 unfold ybd yoU
 rw [yFg hf hl hlg 2 0 0 ha ha' hv hv'];rfl
theorem yIu (hf:finC l) (hl:l.length<4611686018427387904) {lg:List PV} (hlg:ycj 8 lg=true) {agent an ad vn vd:Int} (ha:I64 an) (ha':I64 ad) (hv:I64 vn) (hv':I64 vd) (K) :
  yaV (cks l) lg agent an ad vn vd K=qryK l lg (fun p=>qrow agent 1 an ad vn vd p.num p.den) (qryR l lg.length agent (Ck.value an ad vn vd)) K:=by
 unfold yaV ym5
 rw [yFg hf hl hlg 1 0 0 ha ha' hv hv'];rfl
def yDh (l:List Ck):Bool:=l.any (fun c=>decide (c.cuts.length>60)||decide (c.dens.length>60))||decide (l.length>10)
theorem yIv {len:Int} {cuts dens:List Int} (K:Bool→Prop):yeN len (ints cuts) (ints dens) K=K (decide (cuts.length>60)||decide (dens.length>60)):=by
 unfold yeN ymL
 rw [yaI,yaI]
 by_cases h:cuts.length>60
 ·rw [cbT (by omega),decide_eq_true h];rfl
 ·rw [cbF (by omega),decide_eq_false h,Bool.false_or]
  congr 1;rw [decide_eq_decide];omega
theorem ynJ (hl:l.length≤9223372036854775807) (K:Bool→Prop) :
  ∀ (r i n:Nat),i+r=l.length→r<n→ycd yeN (fun a=>(K a)) (fun b _ _=>(K (decide ((((List.length b):Nat):Int)>(10:Int))))) n (cks l) i =
   K ((l.drop i).any (fun c=>decide (c.cuts.length>60)||decide (c.dens.length>60))||decide (l.length>10))
 | 0,i,n+1,hi,hn=>by
  unfold ycd
  rw [ybb,cbF (by omega),qA6 (by omega)]
  show K _=K (false||_)
  rw [Bool.false_or]
  congr 1;rw [decide_eq_decide];omega
 | r+1,i,n+1,hi,hn=>by
  unfold ycd
  have e1:=wib (n:=(i:Int)+1) (by omega) (by omega)
  rw [ybb,cbT (by omega),qAh,yc8 (by omega),asT (by omega),asT (by omega),asCk,ck0,ck1,ck2,yIv,ydW default (by omega),List.any_cons,e1,ygN]
  cases hb:(decide ((l.getD i default).cuts.length>60)||decide ((l.getD i default).dens.length>60)) with
  | true=>rw [yag];rfl
  | false=>rw [yad,Bool.false_or];exact ynJ hl K r (i+1) n (by omega) (by omega)
theorem yAy (hl:l.length≤9223372036854775807) (K:Bool→Prop):yc3 (cks l) K=K (yDh l):=by
 refine yrT _ _ (fun K k=>?_) K
 unfold yc3 ygs
 refine ⟨l.length+1,?_⟩
 have:=ynJ hl K l.length 0 (l.length+1) (by omega) (by omega)
 rw [show ((0:Nat):Int)=0 from rfl,qBz] at this
 rw [this];exact k
theorem yGL (h:yDh l=false):l.length≤10∧lowC l∧finC l:=by
 unfold yDh at h
 simp only [Bool.or_eq_false_iff,decide_eq_false_iff_not,List.any_eq_false,Bool.not_eq_true,Nat.not_lt] at h
 have hh:∀ i,i<l.length→(l.getD i default).cuts.length≤60∧(l.getD i default).dens.length≤60:=by
  intro i hi
  have hm:l.getD i default∈l:=by rw [qAb,qAd hi];exact qB0 hi
  have:=h.1 _ hm
  omega
 exact ⟨by omega,fun i hi=>⟨by have:=hh i hi;omega,by have:=hh i hi;omega⟩,fun i hi=>⟨by have:=hh i hi;omega,by have:=hh i hi;omega⟩⟩
theorem yIw {n d:Int} (hn:-1000000000000000000≤n∧n≤1000000000000000000) (hd:1≤d∧d≤1000000000000000000):small ((n:Rat) / (d:Rat)):=by
 have e:(n:Rat) / (d:Rat)=mkRat n d.toNat:=by
  rw [Rat.mkRat_eq_div]
  have h1:((d.toNat:Nat):Int)=d:=by omega
  have h2:((d.toNat:Nat):Rat)=(d:Rat):=by rw [← Rat.intCast_natCast,h1]
  rw [h2]
 rw [e]
 unfold small
 rw [Rat.num_mkRat,Rat.den_mkRat,if_neg (by omega),if_neg (by omega)]
 have g0:0<d.toNat.gcd n.natAbs:=Nat.gcd_pos_of_pos_left _ (by omega)
 have h1:(n / (d.toNat.gcd n.natAbs:Nat)).natAbs≤n.natAbs:=by
  rw [Int.natAbs_ediv_of_dvd,Int.natAbs_natCast]
  ·exact qA8 _ _
  ·rw [← Int.dvd_natAbs,Int.ofNat_dvd];exact Nat.gcd_dvd_right _ _
 have h2:d.toNat / d.toNat.gcd n.natAbs≤d.toNat:=qA8 _ _
 generalize n / (d.toNat.gcd n.natAbs:Nat)=x at *
 generalize d.toNat / d.toNat.gcd n.natAbs=y at *
 omega
end
theorem rne {D:Int} (h:1≤D):(D:Rat)≠0:=fun e=>by have:=Rat.intCast_eq_zero_iff.1 e;omega
section
variable {len:Int} {cuts dens:List Int}
def rem (cuts dens:List Int):Nat→Nat→Int
 | 0,_=>0
 | r+1,i=>dens.getD i 0*(cuts.getD (i+1) 0-cuts.getD i 0)+rem cuts dens r (i+1)
theorem yzq (cuts dens:List Int):∀ (r i:Nat) (s:Int),totS cuts dens r i s=s+rem cuts dens r i
 | 0,i,s=>by unfold totS rem;omega
 | r+1,i,s=>by unfold totS rem;rw [yzq cuts dens r (i+1)];omega
end
end Go.Pf.Vc
