/- Part 3 of what the statement rests on: a verified evaluator over pure values, the conditions of the program's functions, and their plain laws. -/
import Derived.Test.YtfdnnbmkmlhidaaGreatAtW2
namespace Go.Pf.Vc
open Go Go.Pf
set_option maxRecDepth 100000
def yh0 (F:Frm) (H:Hp) (A0:Int→Int→Int→Int→Int→Int→Int→Int→Int→Prop) (A1:Int→Int→Int→Int→Int→Int→Int→Int→Int→Bool→Prop):Prop :=
 match F,H with
 | [(2,.v (.int .u64 i0)),(8,.v (.int .u64 i1)),(9,.v (.int .u64 i2)),(10,.v (.int .u64 i3)),(11,.v (.int .u64 i4)),(13,.v (.int .u64 i5)),(14,.v (.int .u64 i6)),(15,.v (.int .u64 i7)),(16,.v (.int .u64 i8))],[]=>(A0 i0 i1 i2 i3 i4 i5 i6 i7 i8)
 | [(2,.v (.int .u64 i0)),(8,.v (.int .u64 i1)),(9,.v (.int .u64 i2)),(10,.v (.int .u64 i3)),(11,.v (.int .u64 i4)),(13,.v (.int .u64 i5)),(14,.v (.int .u64 i6)),(15,.v (.int .u64 i7)),(16,.v (.int .u64 i8)),(85,.v (.bool b9))],[]=>(A1 i0 i1 i2 i3 i4 i5 i6 i7 i8 b9)
 | _,_=>False
def yh1 (F:Frm) (H:Hp) (A0:Int→Int→Int→Int→Int→Int→Int→Int→Int→Prop) (A1:Int→Int→Int→Int→Int→Int→Int→Int→Int→Bool→Prop):Prop :=
 match F,H with
 | [(2,.v (.int .u64 i0)),(8,.v (.int .u64 i1)),(9,.v (.int .u64 i2)),(10,.v (.int .u64 i3)),(14,.v (.int .u64 i4)),(15,.v (.int .u64 i5)),(16,.v (.int .u64 i6)),(17,.v (.int .u64 i7)),(18,.v (.int .u64 i8))],[]=>(A0 i0 i1 i2 i3 i4 i5 i6 i7 i8)
 | [(2,.v (.int .u64 i0)),(8,.v (.int .u64 i1)),(9,.v (.int .u64 i2)),(10,.v (.int .u64 i3)),(14,.v (.int .u64 i4)),(15,.v (.int .u64 i5)),(16,.v (.int .u64 i6)),(17,.v (.int .u64 i7)),(18,.v (.int .u64 i8)),(120,.v (.bool b9))],[]=>(A1 i0 i1 i2 i3 i4 i5 i6 i7 i8 b9)
 | _,_=>False
def yfO (Q:Ex→Frm→Hp→Prop):Int→Int→Int→Int→Int→Int→Int→Int→Int→Bool→Prop:=(fun i0 i1 i2 i3 i4 i5 i6 i7 i8 b9=>Q (.exit 0) [(2,.v (.int .u64 i0)),(8,.v (.int .u64 i1)),(9,.v (.int .u64 i2)),(10,.v (.int .u64 i3)),(11,.v (.int .u64 i4)),(13,.v (.int .u64 i5)),(14,.v (.int .u64 i6)),(15,.v (.int .u64 i7)),(16,.v (.int .u64 i8)),(85,.v (.bool b9))] [])
def yfP (Q:Ex→Frm→Hp→Prop):Int→Int→Int→Int→Int→Int→Int→Int→Int→Bool→Prop:=(fun i0 i1 i2 i3 i4 i5 i6 i7 i8 b9=>Q (.exit 0) [(2,.v (.int .u64 i0)),(8,.v (.int .u64 i1)),(9,.v (.int .u64 i2)),(10,.v (.int .u64 i3)),(11,.v (.int .u64 i4)),(13,.v (.int .u64 i5)),(14,.v (.int .u64 i6)),(15,.v (.int .u64 i7)),(16,.v (.int .u64 i8)),(78,.v (.bool b9))] [])
def yfQ (Q:Ex→Frm→Hp→Prop):Int→Int→Int→Int→Int→Int→Int→Int→Int→Bool→Prop:=(fun i0 i1 i2 i3 i4 i5 i6 i7 i8 b9=>Q (.exit 2) [(2,.v (.int .u64 i0)),(8,.v (.int .u64 i1)),(9,.v (.int .u64 i2)),(10,.v (.int .u64 i3)),(14,.v (.int .u64 i4)),(15,.v (.int .u64 i5)),(16,.v (.int .u64 i6)),(17,.v (.int .u64 i7)),(18,.v (.int .u64 i8)),(120,.v (.bool b9))] [])
def yfR (Q:Ex→Frm→Hp→Prop):Int→Int→Int→Int→Int→Int→Int→Int→Int→Bool→Prop:=(fun i0 i1 i2 i3 i4 i5 i6 i7 i8 b9=>Q (.exit 2) [(2,.v (.int .u64 i0)),(8,.v (.int .u64 i1)),(9,.v (.int .u64 i2)),(10,.v (.int .u64 i3)),(14,.v (.int .u64 i4)),(15,.v (.int .u64 i5)),(16,.v (.int .u64 i6)),(17,.v (.int .u64 i7)),(18,.v (.int .u64 i8)),(113,.v (.bool b9))] [])
def yks (a0:ybc) (Q:Ex→Frm→Hp→Prop) (n:Nat) (F:Frm) (H:Hp):Prop:=yh0 F H (fun i0 i1 i2 i3 i4 i5 i6 i7 i8=>yfM a0 (yfO Q) (yfP Q) n i0 i1 i2 i3 i4 i5 i6 i7 i8) (fun i0 i1 i2 i3 i4 i5 i6 i7 i8 b9=>ycJ a0 (yfO Q) (yfP Q) n i0 i1 i2 i3 i4 i5 i6 i7 i8 b9)
def ykt (a0:ybc) (Q:Ex→Frm→Hp→Prop) (n:Nat) (F:Frm) (H:Hp):Prop:=yh1 F H (fun i0 i1 i2 i3 i4 i5 i6 i7 i8=>ydV a0 (yfQ Q) (yfR Q) n i0 i1 i2 i3 i4 i5 i6 i7 i8) (fun i0 i1 i2 i3 i4 i5 i6 i7 i8 b9=>ycK a0 (yfQ Q) (yfR Q) n i0 i1 i2 i3 i4 i5 i6 i7 i8 b9)
def yfo (a0:ybc):LP:=fun id F H Q =>
 bif Nat.beq id 60530100 then yh0 F H (fun i0 i1 i2 i3 i4 i5 i6 i7 i8=>∃ n:Nat,yfM a0 (yfO Q) (yfP Q) n i0 i1 i2 i3 i4 i5 i6 i7 i8) (fun i0 i1 i2 i3 i4 i5 i6 i7 i8 b9=>∃ n:Nat,ycJ a0 (yfO Q) (yfP Q) n i0 i1 i2 i3 i4 i5 i6 i7 i8 b9) else
 bif Nat.beq id 60530101 then yh1 F H (fun i0 i1 i2 i3 i4 i5 i6 i7 i8=>∃ n:Nat,ydV a0 (yfQ Q) (yfR Q) n i0 i1 i2 i3 i4 i5 i6 i7 i8) (fun i0 i1 i2 i3 i4 i5 i6 i7 i8 b9=>∃ n:Nat,ycK a0 (yfQ Q) (yfR Q) n i0 i1 i2 i3 i4 i5 i6 i7 i8 b9) else
 False
def yjz (e:List (Nat×EffF)) (a0:ybc):SE:=⟨(E e),lookS [(yd4,yg7 a0)],lookI [],yfo a0⟩
theorem yp0 (e:List (Nat×EffF)) (he:EG e):SEOk (yjz e yaM):=yai ⟨(yrj e he),trivial⟩ trivial he.ok
theorem yvf (e:List (Nat×EffF)) (a0 Q n i0 i1 i2 i3 i4 i5 i6 i7 i8):WC (E e) (callW (yjz e a0) 5) (yfo a0) yjt [(2,.v (.int .u64 i0)),(8,.v (.int .u64 i1)),(9,.v (.int .u64 i2)),(10,.v (.int .u64 i3)),(11,.v (.int .u64 i4)),(13,.v (.int .u64 i5)),(14,.v (.int .u64 i6)),(15,.v (.int .u64 i7)),(16,.v (.int .u64 i8))] [] (fun x F' H'=>match x with | .norm=>yks a0 Q n F' H' | .exit i=>Q (.exit i) F' H' | .ret=>Q .ret F' H')=yfM a0 (yfO Q) (yfP Q) (n+1) i0 i1 i2 i3 i4 i5 i6 i7 i8:=by kernel_rfl
theorem yvg (e:List (Nat×EffF)) (a0 Q n i0 i1 i2 i3 i4 i5 i6 i7 i8 b9):WC (E e) (callW (yjz e a0) 5) (yfo a0) yjt [(2,.v (.int .u64 i0)),(8,.v (.int .u64 i1)),(9,.v (.int .u64 i2)),(10,.v (.int .u64 i3)),(11,.v (.int .u64 i4)),(13,.v (.int .u64 i5)),(14,.v (.int .u64 i6)),(15,.v (.int .u64 i7)),(16,.v (.int .u64 i8)),(85,.v (.bool b9))] [] (fun x F' H'=>match x with | .norm=>yks a0 Q n F' H' | .exit i=>Q (.exit i) F' H' | .ret=>Q .ret F' H')=ycJ a0 (yfO Q) (yfP Q) (n+1) i0 i1 i2 i3 i4 i5 i6 i7 i8 b9:=by kernel_rfl
theorem yzm (e:List (Nat×EffF)) (_:EG e):LpOk (E e) (yfo yaM) yjt:=(yah (by kernel_rfl))
theorem yxV (e:List (Nat×EffF)) (he:EG e):∀ F H Q,yfo yaM 60530100 F H Q→LoopT (E e) yjt F H Q:=by
 intro F H Q h
 have go:=LoopT.intro (yaF (yp0 e he) 5) (yzm e he) (yks yaM Q) (by
   intro F H h
   unfold yks yh0 at h
   split at h
   · exact h
   · exact h
   · exact h) (by
   intro n F H h
   unfold yks yh0 at h
   split at h
   · exact (yvf ..).mpr h
   · exact (yvg ..).mpr h
   · exact h.elim)
 have h:yh0 F H _ _:=h
 unfold yh0 at h
 split at h
 · obtain ⟨n,h⟩:=h;exact go n _ _ h
 · obtain ⟨n,h⟩:=h;exact go n _ _ h
 · exact h.elim
theorem yvh (e:List (Nat×EffF)) (a0 Q n i0 i1 i2 i3 i4 i5 i6 i7 i8):WC (E e) (callW (yjz e a0) 5) (yfo a0) yju [(2,.v (.int .u64 i0)),(8,.v (.int .u64 i1)),(9,.v (.int .u64 i2)),(10,.v (.int .u64 i3)),(14,.v (.int .u64 i4)),(15,.v (.int .u64 i5)),(16,.v (.int .u64 i6)),(17,.v (.int .u64 i7)),(18,.v (.int .u64 i8))] [] (fun x F' H'=>match x with | .norm=>ykt a0 Q n F' H' | .exit i=>Q (.exit i) F' H' | .ret=>Q .ret F' H')=ydV a0 (yfQ Q) (yfR Q) (n+1) i0 i1 i2 i3 i4 i5 i6 i7 i8:=by kernel_rfl
theorem yvi (e:List (Nat×EffF)) (a0 Q n i0 i1 i2 i3 i4 i5 i6 i7 i8 b9):WC (E e) (callW (yjz e a0) 5) (yfo a0) yju [(2,.v (.int .u64 i0)),(8,.v (.int .u64 i1)),(9,.v (.int .u64 i2)),(10,.v (.int .u64 i3)),(14,.v (.int .u64 i4)),(15,.v (.int .u64 i5)),(16,.v (.int .u64 i6)),(17,.v (.int .u64 i7)),(18,.v (.int .u64 i8)),(120,.v (.bool b9))] [] (fun x F' H'=>match x with | .norm=>ykt a0 Q n F' H' | .exit i=>Q (.exit i) F' H' | .ret=>Q .ret F' H')=ycK a0 (yfQ Q) (yfR Q) (n+1) i0 i1 i2 i3 i4 i5 i6 i7 i8 b9:=by kernel_rfl
theorem yzn (e:List (Nat×EffF)) (_:EG e):LpOk (E e) (yfo yaM) yju:=(yah (by kernel_rfl))
theorem yxW (e:List (Nat×EffF)) (he:EG e):∀ F H Q,yfo yaM 60530101 F H Q→LoopT (E e) yju F H Q:=by
 intro F H Q h
 have go:=LoopT.intro (yaF (yp0 e he) 5) (yzn e he) (ykt yaM Q) (by
   intro F H h
   unfold ykt yh1 at h
   split at h
   · exact h
   · exact h
   · exact h) (by
   intro n F H h
   unfold ykt yh1 at h
   split at h
   · exact (yvh ..).mpr h
   · exact (yvi ..).mpr h
   · exact h.elim)
 have h:yh1 F H _ _:=h
 unfold yh1 at h
 split at h
 · obtain ⟨n,h⟩:=h;exact go n _ _ h
 · obtain ⟨n,h⟩:=h;exact go n _ _ h
 · exact h.elim
theorem yFD (e:List (Nat×EffF)) (a0 p0 p1 p2 K):WP (yjz e a0) 6 yHP [(.int .u64 p0),(.int .u64 p1),(.int .u64 p2)] K=ysC a0 p0 p1 p2 (fun r0 r1=>K (.tup [(.int .u64 r0),(.int .u64 r1)])):=by kernel_rfl
theorem yxX (e:List (Nat×EffF)) (he:EG e):OkF (E e) yxU yjj:=by
 intro as K h
 unfold yxU yol at h
 split at h
 · exact WP_ok (yp0 e he) (ybe (l:=[(60530100,yjt),(60530101,yju)]) ⟨yxV e he,yxW e he,trivial⟩ (by kernel_rfl)) (by kernel_rfl) (by kernel_rfl) (fun _=>yac (by kernel_rfl) _) (he.num _ (by kernel_rfl)) ((yFD ..).mpr h)
 · exact h.elim
abbrev yqZ:Type:=Int→Int→Int→(Int→Prop)→Prop
def ysD (a0:yjy) (p0 p1 p2:Int) (K:Int→Prop):Prop :=
 (asr (!(decide (p2=(0:Int))))
 (a0 (Int.tmod p0 p2) p1 p2 (fun _ yi1 =>
 (K yi1))))
def yh2 (p0 p1 p2:Int) (K:Int→Prop):Prop:=ysD yfN p0 p1 p2 K
def ysE (w:yqZ) (as:Ls) (K:PV→Prop):Prop :=
 match as with
 | [(.int .u64 p0),(.int .u64 p1),(.int .u64 p2)]=>w p0 p1 p2 (fun r0=>K (.int .u64 r0))
 | _=>False
def yxY (as:Ls) (K:PV→Prop):Prop:=ysE yh2 as K
def yFE (_:yjy):LP:=fun _ _ _ _ =>
 False
def yxZ (e:List (Nat×EffF)) (a0:yjy):SE:=⟨(E e),lookS [(yjj,yol a0)],lookI [],yFE a0⟩
theorem yDB (e:List (Nat×EffF)) (he:EG e):SEOk (yxZ e yfN):=yai ⟨(yxX e he),trivial⟩ trivial he.ok
theorem yFF (e:List (Nat×EffF)) (a0 p0 p1 p2 K):WP (yxZ e a0) 6 yHQ [(.int .u64 p0),(.int .u64 p1),(.int .u64 p2)] K=ysD a0 p0 p1 p2 (fun r0=>K (.int .u64 r0)):=by kernel_rfl
theorem yFG (e:List (Nat×EffF)) (he:EG e):OkF (E e) yxY ynC:=by
 intro as K h
 unfold yxY ysE at h
 split at h
 · exact WP_ok (yDB e he) (yah (by kernel_rfl)) (by kernel_rfl) (by kernel_rfl) (fun _=>yac (by kernel_rfl) _) (he.num _ (by kernel_rfl)) ((yFF ..).mpr h)
 · exact h.elim
abbrev yaK:Type:=Int→Int→Int→Int→(Int→Int→Int→Prop)→Prop
def yom (a0:ya0) (a1:ycw) (a2:ybf) (a3:yfL) (a4:yva) (a5:yqZ) (a6:yjy) (a7:ycl) (a8:yvb) (p0 p1 p2 p3:Int) (K:Int→Int→Int→Prop):Prop :=
 (a0 p0 p1 p2 p3 (fun yi0 =>
 (cbr (yi0 !=(0:Int))
 (K (0:Int) (0:Int) yi0)
 (a1 (IntKind.u64.wrap p1) (IntKind.u64.wrap p3) (fun yi1 =>
 (a2 p0 (fun yi2 =>
 (asr (!(decide (yi1=(0:Int))))
 (a3 yi2 (IntKind.u64.wrap (Int.tdiv (IntKind.u64.wrap p3) yi1)) (fun yi3 yi4 =>
 (a2 p2 (fun yi5 =>
 (asr (!(decide (yi1=(0:Int))))
 (a3 yi5 (IntKind.u64.wrap (Int.tdiv (IntKind.u64.wrap p1) yi1)) (fun yi6 yi7 =>
 (cbr ((decide (p0<(0:Int))) ==(decide (p2<(0:Int))))
 (a4 yi4 yi7 (0:Int) (fun yi8 yi9 =>
 (a4 yi3 yi6 yi9 (fun yi10 _ =>
 (cbr (yi10 ==(0:Int))
 (cbr (yi8 ==(0:Int))
 (K (0:Int) (1:Int) (0:Int))
 (a5 yi10 yi8 yi1 (fun yi12 =>
 (a1 yi12 yi1 (fun yi13 =>
 (cbr (decide (yi10≥yi13))
 (K (0:Int) (0:Int) (16:Int))
 (a6 yi10 yi8 yi13 (fun yi14 _ =>
 (asr (!(decide (yi1=(0:Int))))
 (asr (!(decide (yi13=(0:Int))))
 (a3 (IntKind.u64.wrap (Int.tdiv (IntKind.u64.wrap p1) yi1)) (IntKind.u64.wrap (Int.tdiv (IntKind.u64.wrap p3) yi13)) (fun yi16 yi17 =>
 (cbr (decide (yi16>(0:Int)))
 (K (0:Int) (0:Int) (16:Int))
 (a7 (decide (p0<(0:Int))) yi14 yi17 (fun yi18 yi19 yi20 =>
 (K yi18 yi19 yi20))))))))))))))))
 (a5 yi10 yi8 yi1 (fun yi21 =>
 (a1 yi21 yi1 (fun yi22 =>
 (cbr (decide (yi10≥yi22))
 (K (0:Int) (0:Int) (16:Int))
 (a6 yi10 yi8 yi22 (fun yi23 _ =>
 (asr (!(decide (yi1=(0:Int))))
 (asr (!(decide (yi22=(0:Int))))
 (a3 (IntKind.u64.wrap (Int.tdiv (IntKind.u64.wrap p1) yi1)) (IntKind.u64.wrap (Int.tdiv (IntKind.u64.wrap p3) yi22)) (fun yi25 yi26 =>
 (cbr (decide (yi25>(0:Int)))
 (K (0:Int) (0:Int) (16:Int))
 (a7 (decide (p0<(0:Int))) yi23 yi26 (fun yi27 yi28 yi29 =>
 (K yi27 yi28 yi29))))))))))))))))))))
 (cbr (decide (yi3<yi6))
 (a8 yi7 yi4 (0:Int) (fun yi30 yi31 =>
 (a8 yi6 yi3 yi31 (fun yi32 _ =>
 (cbr (yi32 ==(0:Int))
 (cbr (yi30 ==(0:Int))
 (K (0:Int) (1:Int) (0:Int))
 (a5 yi32 yi30 yi1 (fun yi34 =>
 (a1 yi34 yi1 (fun yi35 =>
 (cbr (decide (yi32≥yi35))
 (K (0:Int) (0:Int) (16:Int))
 (a6 yi32 yi30 yi35 (fun yi36 _ =>
 (asr (!(decide (yi1=(0:Int))))
 (asr (!(decide (yi35=(0:Int))))
 (a3 (IntKind.u64.wrap (Int.tdiv (IntKind.u64.wrap p1) yi1)) (IntKind.u64.wrap (Int.tdiv (IntKind.u64.wrap p3) yi35)) (fun yi38 yi39 =>
 (cbr (decide (yi38>(0:Int)))
 (K (0:Int) (0:Int) (16:Int))
 (a7 (!(decide (p0<(0:Int)))) yi36 yi39 (fun yi40 yi41 yi42 =>
 (K yi40 yi41 yi42))))))))))))))))
 (a5 yi32 yi30 yi1 (fun yi43 =>
 (a1 yi43 yi1 (fun yi44 =>
 (cbr (decide (yi32≥yi44))
 (K (0:Int) (0:Int) (16:Int))
 (a6 yi32 yi30 yi44 (fun yi45 _ =>
 (asr (!(decide (yi1=(0:Int))))
 (asr (!(decide (yi44=(0:Int))))
 (a3 (IntKind.u64.wrap (Int.tdiv (IntKind.u64.wrap p1) yi1)) (IntKind.u64.wrap (Int.tdiv (IntKind.u64.wrap p3) yi44)) (fun yi47 yi48 =>
 (cbr (decide (yi47>(0:Int)))
 (K (0:Int) (0:Int) (16:Int))
 (a7 (!(decide (p0<(0:Int)))) yi45 yi48 (fun yi49 yi50 yi51 =>
 (K yi49 yi50 yi51))))))))))))))))))))
 (cbr (yi3 == yi6)
 (cbr (decide (yi4<yi7))
 (a8 yi7 yi4 (0:Int) (fun yi52 yi53 =>
 (a8 yi6 yi3 yi53 (fun yi54 _ =>
 (cbr (yi54 ==(0:Int))
 (cbr (yi52 ==(0:Int))
 (K (0:Int) (1:Int) (0:Int))
 (a5 yi54 yi52 yi1 (fun yi56 =>
 (a1 yi56 yi1 (fun yi57 =>
 (cbr (decide (yi54≥yi57))
 (K (0:Int) (0:Int) (16:Int))
 (a6 yi54 yi52 yi57 (fun yi58 _ =>
 (asr (!(decide (yi1=(0:Int))))
 (asr (!(decide (yi57=(0:Int))))
 (a3 (IntKind.u64.wrap (Int.tdiv (IntKind.u64.wrap p1) yi1)) (IntKind.u64.wrap (Int.tdiv (IntKind.u64.wrap p3) yi57)) (fun yi60 yi61 =>
 (cbr (decide (yi60>(0:Int)))
 (K (0:Int) (0:Int) (16:Int))
 (a7 (!(decide (p0<(0:Int)))) yi58 yi61 (fun yi62 yi63 yi64 =>
 (K yi62 yi63 yi64))))))))))))))))
 (a5 yi54 yi52 yi1 (fun yi65 =>
 (a1 yi65 yi1 (fun yi66 =>
 (cbr (decide (yi54≥yi66))
 (K (0:Int) (0:Int) (16:Int))
 (a6 yi54 yi52 yi66 (fun yi67 _ =>
 (asr (!(decide (yi1=(0:Int))))
 (asr (!(decide (yi66=(0:Int))))
 (a3 (IntKind.u64.wrap (Int.tdiv (IntKind.u64.wrap p1) yi1)) (IntKind.u64.wrap (Int.tdiv (IntKind.u64.wrap p3) yi66)) (fun yi69 yi70 =>
 (cbr (decide (yi69>(0:Int)))
 (K (0:Int) (0:Int) (16:Int))
 (a7 (!(decide (p0<(0:Int)))) yi67 yi70 (fun yi71 yi72 yi73 =>
 (K yi71 yi72 yi73))))))))))))))))))))
 (a8 yi4 yi7 (0:Int) (fun yi74 yi75 =>
 (a8 yi3 yi6 yi75 (fun yi76 _ =>
 (cbr (yi76 ==(0:Int))
 (cbr (yi74 ==(0:Int))
 (K (0:Int) (1:Int) (0:Int))
 (a5 yi76 yi74 yi1 (fun yi78 =>
 (a1 yi78 yi1 (fun yi79 =>
 (cbr (decide (yi76≥yi79))
 (K (0:Int) (0:Int) (16:Int))
 (a6 yi76 yi74 yi79 (fun yi80 _ =>
 (asr (!(decide (yi1=(0:Int))))
 (asr (!(decide (yi79=(0:Int))))
 (a3 (IntKind.u64.wrap (Int.tdiv (IntKind.u64.wrap p1) yi1)) (IntKind.u64.wrap (Int.tdiv (IntKind.u64.wrap p3) yi79)) (fun yi82 yi83 =>
 (cbr (decide (yi82>(0:Int)))
 (K (0:Int) (0:Int) (16:Int))
 (a7 (decide (p0<(0:Int))) yi80 yi83 (fun yi84 yi85 yi86 =>
 (K yi84 yi85 yi86))))))))))))))))
 (a5 yi76 yi74 yi1 (fun yi87 =>
 (a1 yi87 yi1 (fun yi88 =>
 (cbr (decide (yi76≥yi88))
 (K (0:Int) (0:Int) (16:Int))
 (a6 yi76 yi74 yi88 (fun yi89 _ =>
 (asr (!(decide (yi1=(0:Int))))
 (asr (!(decide (yi88=(0:Int))))
 (a3 (IntKind.u64.wrap (Int.tdiv (IntKind.u64.wrap p1) yi1)) (IntKind.u64.wrap (Int.tdiv (IntKind.u64.wrap p3) yi88)) (fun yi91 yi92 =>
 (cbr (decide (yi91>(0:Int)))
 (K (0:Int) (0:Int) (16:Int))
 (a7 (decide (p0<(0:Int))) yi89 yi92 (fun yi93 yi94 yi95 =>
 (K yi93 yi94 yi95)))))))))))))))))))))
 (a8 yi4 yi7 (0:Int) (fun yi96 yi97 =>
 (a8 yi3 yi6 yi97 (fun yi98 _ =>
 (cbr (yi98 ==(0:Int))
 (cbr (yi96 ==(0:Int))
 (K (0:Int) (1:Int) (0:Int))
 (a5 yi98 yi96 yi1 (fun yi100 =>
 (a1 yi100 yi1 (fun yi101 =>
 (cbr (decide (yi98≥yi101))
 (K (0:Int) (0:Int) (16:Int))
 (a6 yi98 yi96 yi101 (fun yi102 _ =>
 (asr (!(decide (yi1=(0:Int))))
 (asr (!(decide (yi101=(0:Int))))
 (a3 (IntKind.u64.wrap (Int.tdiv (IntKind.u64.wrap p1) yi1)) (IntKind.u64.wrap (Int.tdiv (IntKind.u64.wrap p3) yi101)) (fun yi104 yi105 =>
 (cbr (decide (yi104>(0:Int)))
 (K (0:Int) (0:Int) (16:Int))
 (a7 (decide (p0<(0:Int))) yi102 yi105 (fun yi106 yi107 yi108 =>
 (K yi106 yi107 yi108))))))))))))))))
 (a5 yi98 yi96 yi1 (fun yi109 =>
 (a1 yi109 yi1 (fun yi110 =>
 (cbr (decide (yi98≥yi110))
 (K (0:Int) (0:Int) (16:Int))
 (a6 yi98 yi96 yi110 (fun yi111 _ =>
 (asr (!(decide (yi1=(0:Int))))
 (asr (!(decide (yi110=(0:Int))))
 (a3 (IntKind.u64.wrap (Int.tdiv (IntKind.u64.wrap p1) yi1)) (IntKind.u64.wrap (Int.tdiv (IntKind.u64.wrap p3) yi110)) (fun yi113 yi114 =>
 (cbr (decide (yi113>(0:Int)))
 (K (0:Int) (0:Int) (16:Int))
 (a7 (decide (p0<(0:Int))) yi111 yi114 (fun yi115 yi116 yi117 =>
 (K yi115 yi116 yi117))))))))))))))))))))))))))))))))))))))
def yar (p0 p1 p2 p3:Int) (K:Int→Int→Int→Prop):Prop:=yom ybs ybv ybR yek yjg yh2 yfN ybp yjh p0 p1 p2 p3 K
def yfp (w:yaK) (as:Ls) (K:PV→Prop):Prop :=
 match as with
 | [(.agg [(.int .i64 p0),(.int .i64 p1)]),(.agg [(.int .i64 p2),(.int .i64 p3)])]=>w p0 p1 p2 p3 (fun r0 r1 r2=>K (.tup [(.agg [(.int .i64 r0),(.int .i64 r1)]),(.int .i64 r2)]))
 | _=>False
def ytB (as:Ls) (K:PV→Prop):Prop:=yfp yar as K
def yBi (_:ya0) (_:ycw) (_:ybf) (_:yfL) (_:yva) (_:yqZ) (_:yjy) (_:ycl) (_:yvb):LP:=fun _ _ _ _ =>
 False
def ytC (e:List (Nat×EffF)) (a0:ya0) (a1:ycw) (a2:ybf) (a3:yfL) (a4:yva) (a5:yqZ) (a6:yjy) (a7:ycl) (a8:yvb):SE:=⟨(E e),lookS [(ybr,yd8 a0),(yct,ygJ a1),(yaX,yeK a2),(ydZ,yl7 a3),(yhV,ysn a4),(ynC,ysE a5),(yjj,yol a6),(ycN,yfD a7),(yhW,ysp a8)],lookI [],yBi a0 a1 a2 a3 a4 a5 a6 a7 a8⟩
theorem yzo (e:List (Nat×EffF)) (he:EG e):SEOk (ytC e ybs ybv ybR yek yjg yh2 yfN ybp yjh):=yai ⟨(ygo e he),(yk0 e he),(yho e he),(ysz e he),(yFw e he),(yFG e he),(yxX e he),(ykG e he),(yFx e he),trivial⟩ trivial he.ok
theorem yBj (e:List (Nat×EffF)) (a0 a1 a2 a3 a4 a5 a6 a7 a8 p0 p1 p2 p3 K):WP (ytC e a0 a1 a2 a3 a4 a5 a6 a7 a8) 6 yDj [(.agg [(.int .i64 p0),(.int .i64 p1)]),(.agg [(.int .i64 p2),(.int .i64 p3)])] K=yom a0 a1 a2 a3 a4 a5 a6 a7 a8 p0 p1 p2 p3 (fun r0 r1 r2=>K (.tup [(.agg [(.int .i64 r0),(.int .i64 r1)]),(.int .i64 r2)])):=by kernel_rfl
theorem ygK (e:List (Nat×EffF)) (he:EG e):OkF (E e) ytB ycR:=by
 intro as K h
 unfold ytB yfp at h
 split at h
 · exact WP_ok (yzo e he) (yah (by kernel_rfl)) (by kernel_rfl) (by kernel_rfl) (fun _=>yac (by kernel_rfl) _) (he.num _ (by kernel_rfl)) ((yBj ..).mpr h)
 · exact h.elim
abbrev ycS:Type:=Int→Int→Int→Int→(Int→Int→Int→Prop)→Prop
def yon (a0:ya0) (a1:yaK) (p0 p1 p2 p3:Int) (K:Int→Int→Int→Prop):Prop :=
 (a0 p0 p1 p2 p3 (fun yi0 =>
 (cbr (yi0 !=(0:Int))
 (K (0:Int) (0:Int) yi0)
 (a1 p0 p1 (IntKind.i64.wrap ((0:Int)-p2)) p3 (fun yi1 yi2 yi3 =>
 (K yi1 yi2 yi3))))))
def ya8 (p0 p1 p2 p3:Int) (K:Int→Int→Int→Prop):Prop:=yon ybs yar p0 p1 p2 p3 K
def yiq (w:ycS) (as:Ls) (K:PV→Prop):Prop :=
 match as with
 | [(.agg [(.int .i64 p0),(.int .i64 p1)]),(.agg [(.int .i64 p2),(.int .i64 p3)])]=>w p0 p1 p2 p3 (fun r0 r1 r2=>K (.tup [(.agg [(.int .i64 r0),(.int .i64 r1)]),(.int .i64 r2)]))
 | _=>False
def ytD (as:Ls) (K:PV→Prop):Prop:=yiq ya8 as K
def yBk (_:ya0) (_:yaK):LP:=fun _ _ _ _ =>
 False
def ytE (e:List (Nat×EffF)) (a0:ya0) (a1:yaK):SE:=⟨(E e),lookS [(ybr,yd8 a0),(ycR,yfp a1)],lookI [],yBk a0 a1⟩
theorem yzp (e:List (Nat×EffF)) (he:EG e):SEOk (ytE e ybs yar):=yai ⟨(ygo e he),(ygK e he),trivial⟩ trivial he.ok
theorem yBl (e:List (Nat×EffF)) (a0 a1 p0 p1 p2 p3 K):WP (ytE e a0 a1) 6 yDk [(.agg [(.int .i64 p0),(.int .i64 p1)]),(.agg [(.int .i64 p2),(.int .i64 p3)])] K=yon a0 a1 p0 p1 p2 p3 (fun r0 r1 r2=>K (.tup [(.agg [(.int .i64 r0),(.int .i64 r1)]),(.int .i64 r2)])):=by kernel_rfl
theorem yk3 (e:List (Nat×EffF)) (he:EG e):OkF (E e) ytD yev:=by
 intro as K h
 unfold ytD yiq at h
 split at h
 · exact WP_ok (yzp e he) (yah (by kernel_rfl)) (by kernel_rfl) (by kernel_rfl) (fun _=>yac (by kernel_rfl) _) (he.num _ (by kernel_rfl)) ((yBl ..).mpr h)
 · exact h.elim
abbrev ybF:Type:=Int→Int→Int→Int→(Int→Int→Int→Prop)→Prop
def yoo (a0:ya0) (a1:ybf) (a2:ycw) (a3:yfL) (a4:ycl) (p0 p1 p2 p3:Int) (K:Int→Int→Int→Prop):Prop :=
 (a0 p0 p1 p2 p3 (fun yi0 =>
 (cbr (yi0 !=(0:Int))
 (K (0:Int) (0:Int) yi0)
 (a1 p0 (fun yi1 =>
 (a1 p2 (fun yi2 =>
 (a2 yi1 (IntKind.u64.wrap p3) (fun yi3 =>
 (a2 yi2 (IntKind.u64.wrap p1) (fun yi4 =>
 (asr (!(decide (yi3=(0:Int))))
 (asr (!(decide (yi4=(0:Int))))
 (a3 (IntKind.u64.wrap (Int.tdiv yi1 yi3)) (IntKind.u64.wrap (Int.tdiv yi2 yi4)) (fun yi5 yi6 =>
 (asr (!(decide (yi4=(0:Int))))
 (asr (!(decide (yi3=(0:Int))))
 (a3 (IntKind.u64.wrap (Int.tdiv (IntKind.u64.wrap p1) yi4)) (IntKind.u64.wrap (Int.tdiv (IntKind.u64.wrap p3) yi3)) (fun yi7 yi8 =>
 (cbr (decide ((IntKind.u64.wrap (yi5+yi7))>(0:Int)))
 (K (0:Int) (0:Int) (16:Int))
 (cbr (decide (yi6>(0:Int)))
 (a4 ((decide (p0<(0:Int))) !=(decide (p2<(0:Int)))) yi6 yi8 (fun yi9 yi10 yi11 =>
 (K yi9 yi10 yi11)))
 (a4 false yi6 yi8 (fun yi12 yi13 yi14 =>
 (K yi12 yi13 yi14))))))))))))))))))))))))
def yaR (p0 p1 p2 p3:Int) (K:Int→Int→Int→Prop):Prop:=yoo ybs ybR ybv yek ybp p0 p1 p2 p3 K
def ygL (w:ybF) (as:Ls) (K:PV→Prop):Prop :=
 match as with
 | [(.agg [(.int .i64 p0),(.int .i64 p1)]),(.agg [(.int .i64 p2),(.int .i64 p3)])]=>w p0 p1 p2 p3 (fun r0 r1 r2=>K (.tup [(.agg [(.int .i64 r0),(.int .i64 r1)]),(.int .i64 r2)]))
 | _=>False
def ytF (as:Ls) (K:PV→Prop):Prop:=ygL yaR as K
def yBm (_:ya0) (_:ybf) (_:ycw) (_:yfL) (_:ycl):LP:=fun _ _ _ _ =>
 False
def ytG (e:List (Nat×EffF)) (a0:ya0) (a1:ybf) (a2:ycw) (a3:yfL) (a4:ycl):SE:=⟨(E e),lookS [(ybr,yd8 a0),(yaX,yeK a1),(yct,ygJ a2),(ydZ,yl7 a3),(ycN,yfD a4)],lookI [],yBm a0 a1 a2 a3 a4⟩
theorem yzq (e:List (Nat×EffF)) (he:EG e):SEOk (ytG e ybs ybR ybv yek ybp):=yai ⟨(ygo e he),(yho e he),(yk0 e he),(ysz e he),(ykG e he),trivial⟩ trivial he.ok
theorem yBn (e:List (Nat×EffF)) (a0 a1 a2 a3 a4 p0 p1 p2 p3 K):WP (ytG e a0 a1 a2 a3 a4) 6 yDl [(.agg [(.int .i64 p0),(.int .i64 p1)]),(.agg [(.int .i64 p2),(.int .i64 p3)])] K=yoo a0 a1 a2 a3 a4 p0 p1 p2 p3 (fun r0 r1 r2=>K (.tup [(.agg [(.int .i64 r0),(.int .i64 r1)]),(.int .i64 r2)])):=by kernel_rfl
theorem yir (e:List (Nat×EffF)) (he:EG e):OkF (E e) ytF ydk:=by
 intro as K h
 unfold ytF ygL at h
 split at h
 · exact WP_ok (yzq e he) (yah (by kernel_rfl)) (by kernel_rfl) (by kernel_rfl) (fun _=>yac (by kernel_rfl) _) (he.num _ (by kernel_rfl)) ((yBn ..).mpr h)
 · exact h.elim
abbrev ygs:Type:=Int→Int→Int→Int→(Int→Int→Int→Prop)→Prop
def yop (a0:ya0) (a1:ybF) (p0 p1 p2 p3:Int) (K:Int→Int→Int→Prop):Prop :=
 (a0 p0 p1 p2 p3 (fun yi0 =>
 (cbr (yi0 !=(0:Int))
 (K (0:Int) (0:Int) yi0)
 (cbr (p2 ==(0:Int))
 (K (0:Int) (0:Int) (18:Int))
 (cbr (decide (p2<(0:Int)))
 (a1 p0 p1 (IntKind.i64.wrap ((0:Int)-p3)) (IntKind.i64.wrap ((0:Int)-p2)) (fun yi1 yi2 yi3 =>
 (K yi1 yi2 yi3)))
 (a1 p0 p1 p3 p2 (fun yi4 yi5 yi6 =>
 (K yi4 yi5 yi6))))))))
def ycz (p0 p1 p2 p3:Int) (K:Int→Int→Int→Prop):Prop:=yop ybs yaR p0 p1 p2 p3 K
def yk4 (w:ygs) (as:Ls) (K:PV→Prop):Prop :=
 match as with
 | [(.agg [(.int .i64 p0),(.int .i64 p1)]),(.agg [(.int .i64 p2),(.int .i64 p3)])]=>w p0 p1 p2 p3 (fun r0 r1 r2=>K (.tup [(.agg [(.int .i64 r0),(.int .i64 r1)]),(.int .i64 r2)]))
 | _=>False
def ytH (as:Ls) (K:PV→Prop):Prop:=yk4 ycz as K
def yBo (_:ya0) (_:ybF):LP:=fun _ _ _ _ =>
 False
def ytI (e:List (Nat×EffF)) (a0:ya0) (a1:ybF):SE:=⟨(E e),lookS [(ybr,yd8 a0),(ydk,ygL a1)],lookI [],yBo a0 a1⟩
theorem yzr (e:List (Nat×EffF)) (he:EG e):SEOk (ytI e ybs yaR):=yai ⟨(ygo e he),(yir e he),trivial⟩ trivial he.ok
theorem yBp (e:List (Nat×EffF)) (a0 a1 p0 p1 p2 p3 K):WP (ytI e a0 a1) 6 yDm [(.agg [(.int .i64 p0),(.int .i64 p1)]),(.agg [(.int .i64 p2),(.int .i64 p3)])] K=yop a0 a1 p0 p1 p2 p3 (fun r0 r1 r2=>K (.tup [(.agg [(.int .i64 r0),(.int .i64 r1)]),(.int .i64 r2)])):=by kernel_rfl
theorem yoq (e:List (Nat×EffF)) (he:EG e):OkF (E e) ytH yhX:=by
 intro as K h
 unfold ytH yk4 at h
 split at h
 · exact WP_ok (yzr e he) (yah (by kernel_rfl)) (by kernel_rfl) (by kernel_rfl) (fun _=>yac (by kernel_rfl) _) (he.num _ (by kernel_rfl)) ((yBp ..).mpr h)
 · exact h.elim
end Go.Pf.Vc
namespace Go.Pf.Vc
open Go Go.Pf
set_option linter.unusedVariables false
theorem ywF (p0:Int) (p1:Int) (r0:Int) (h:∀ K:Int→Prop,K r0→yal p0 p1 K) (K:Int→Prop):yal p0 p1 K=K r0 :=
 propext ⟨fun k=>detC (yd6 [] ybE) (as:=[(.agg [(.int .i64 p0),(.int .i64 p1)])]) (x:=(.int .i64 r0)) (fun K' k'=>h (fun r0=>K' (.int .i64 r0)) k') (K:=fun x=>match x with | (.int .i64 r0)=>K r0 | _=>False) k,h K⟩
theorem yzs (p0:Int) (p1:Int) (p2:Int) (p3:Int) (r0:Int) (r1:Int) (h:∀ K:Int→Int→Prop,K r0 r1→ydU p0 p1 p2 p3 K) (K:Int→Int→Prop):ydU p0 p1 p2 p3 K=K r0 r1 :=
 propext ⟨fun k=>detC (yok [] ybE) (as:=[(.agg [(.int .i64 p0),(.int .i64 p1)]),(.agg [(.int .i64 p2),(.int .i64 p3)])]) (x:=(.tup [(.int .i64 r0),(.int .i64 r1)])) (fun K' k'=>h (fun r0 r1=>K' (.tup [(.int .i64 r0),(.int .i64 r1)])) k') (K:=fun x=>match x with | (.tup [(.int .i64 r0),(.int .i64 r1)])=>K r0 r1 | _=>False) k,h K⟩
theorem yx0 (p0:Int) (p1:Int) (r0:Int) (r1:Int) (r2:Int) (h:∀ K:Int→Int→Int→Prop,K r0 r1 r2→ybS p0 p1 K) (K:Int→Int→Int→Prop):ybS p0 p1 K=K r0 r1 r2 :=
 propext ⟨fun k=>detC (yrQ [] ybE) (as:=[(.int .i64 p0),(.int .i64 p1)]) (x:=(.tup [(.agg [(.int .i64 r0),(.int .i64 r1)]),(.int .i64 r2)])) (fun K' k'=>h (fun r0 r1 r2=>K' (.tup [(.agg [(.int .i64 r0),(.int .i64 r1)]),(.int .i64 r2)])) k') (K:=fun x=>match x with | (.tup [(.agg [(.int .i64 r0),(.int .i64 r1)]),(.int .i64 r2)])=>K r0 r1 r2 | _=>False) k,h K⟩
theorem yzt (p0:Int) (p1:Int) (p2:Int) (p3:Int) (r0:Int) (r1:Int) (r2:Int) (h:∀ K:Int→Int→Int→Prop,K r0 r1 r2→yar p0 p1 p2 p3 K) (K:Int→Int→Int→Prop):yar p0 p1 p2 p3 K=K r0 r1 r2 :=
 propext ⟨fun k=>detC (ygK [] ybE) (as:=[(.agg [(.int .i64 p0),(.int .i64 p1)]),(.agg [(.int .i64 p2),(.int .i64 p3)])]) (x:=(.tup [(.agg [(.int .i64 r0),(.int .i64 r1)]),(.int .i64 r2)])) (fun K' k'=>h (fun r0 r1 r2=>K' (.tup [(.agg [(.int .i64 r0),(.int .i64 r1)]),(.int .i64 r2)])) k') (K:=fun x=>match x with | (.tup [(.agg [(.int .i64 r0),(.int .i64 r1)]),(.int .i64 r2)])=>K r0 r1 r2 | _=>False) k,h K⟩
theorem yzu (p0:Int) (p1:Int) (p2:Int) (p3:Int) (r0:Int) (r1:Int) (r2:Int) (h:∀ K:Int→Int→Int→Prop,K r0 r1 r2→ya8 p0 p1 p2 p3 K) (K:Int→Int→Int→Prop):ya8 p0 p1 p2 p3 K=K r0 r1 r2 :=
 propext ⟨fun k=>detC (yk3 [] ybE) (as:=[(.agg [(.int .i64 p0),(.int .i64 p1)]),(.agg [(.int .i64 p2),(.int .i64 p3)])]) (x:=(.tup [(.agg [(.int .i64 r0),(.int .i64 r1)]),(.int .i64 r2)])) (fun K' k'=>h (fun r0 r1 r2=>K' (.tup [(.agg [(.int .i64 r0),(.int .i64 r1)]),(.int .i64 r2)])) k') (K:=fun x=>match x with | (.tup [(.agg [(.int .i64 r0),(.int .i64 r1)]),(.int .i64 r2)])=>K r0 r1 r2 | _=>False) k,h K⟩
theorem yzv (p0:Int) (p1:Int) (p2:Int) (p3:Int) (r0:Int) (r1:Int) (r2:Int) (h:∀ K:Int→Int→Int→Prop,K r0 r1 r2→yaR p0 p1 p2 p3 K) (K:Int→Int→Int→Prop):yaR p0 p1 p2 p3 K=K r0 r1 r2 :=
 propext ⟨fun k=>detC (yir [] ybE) (as:=[(.agg [(.int .i64 p0),(.int .i64 p1)]),(.agg [(.int .i64 p2),(.int .i64 p3)])]) (x:=(.tup [(.agg [(.int .i64 r0),(.int .i64 r1)]),(.int .i64 r2)])) (fun K' k'=>h (fun r0 r1 r2=>K' (.tup [(.agg [(.int .i64 r0),(.int .i64 r1)]),(.int .i64 r2)])) k') (K:=fun x=>match x with | (.tup [(.agg [(.int .i64 r0),(.int .i64 r1)]),(.int .i64 r2)])=>K r0 r1 r2 | _=>False) k,h K⟩
theorem yzw (p0:Int) (p1:Int) (p2:Int) (p3:Int) (r0:Int) (r1:Int) (r2:Int) (h:∀ K:Int→Int→Int→Prop,K r0 r1 r2→ycz p0 p1 p2 p3 K) (K:Int→Int→Int→Prop):ycz p0 p1 p2 p3 K=K r0 r1 r2 :=
 propext ⟨fun k=>detC (yoq [] ybE) (as:=[(.agg [(.int .i64 p0),(.int .i64 p1)]),(.agg [(.int .i64 p2),(.int .i64 p3)])]) (x:=(.tup [(.agg [(.int .i64 r0),(.int .i64 r1)]),(.int .i64 r2)])) (fun K' k'=>h (fun r0 r1 r2=>K' (.tup [(.agg [(.int .i64 r0),(.int .i64 r1)]),(.int .i64 r2)])) k') (K:=fun x=>match x with | (.tup [(.agg [(.int .i64 r0),(.int .i64 r1)]),(.int .i64 r2)])=>K r0 r1 r2 | _=>False) k,h K⟩
end Go.Pf.Vc
namespace Go.Pf.Vc
open Go Go.Pf
set_option maxRecDepth 100000
abbrev yaj:Type:=Ls→Ls→(Bool→Prop)→Prop
def yaN (x0:Ls→Ls→Int→Int→Bool→Prop) (x1:Bool→Prop):Nat→Ls→Ls→Int→Int→Prop
 | 0,_,_,_,_=>False
 | n+1,l0,l1,i2,i3 =>
 (cbr (decide (i3<i2))
 (asr (decide ((0:Int)≤i3))
 (asr (decide (i3<(((List.length l0):Nat):Int)))
 (lt (List.getD l0 (i3.toNat) .nils) (fun yr6 =>
 (asr (conf (.one (.i .i64)) yr6)
 (asr (decide ((0:Int)≤i3))
 (asr (decide (i3<(((List.length l1):Nat):Int)))
 (lt (List.getD l1 (i3.toNat) .nils) (fun yr7 =>
 (asr (conf (.one (.i .i64)) yr7)
 (cbr ((intOfV yr6) !=(intOfV yr7))
 (x1 false)
 (lt (IntKind.i64.wrap (i3+(1:Int))) (fun yi8 =>
 (yaN x0 x1 n l0 l1 i2 yi8))))))))))))))
 (x0 l0 l1 i2 i3 false))
def yfq (p0 p1:Ls) (K:Bool→Prop):Prop :=
 (cbr ((((List.length p0):Nat):Int) !=(((List.length p1):Nat):Int))
 (K false)
 (∃ n:Nat,yaN
 (fun _ _ _ _ _=>(K true))
 (fun yb20=>(K yb20))
 n p0 p1 (((List.length p0):Nat):Int) (0:Int)))
def yag (p0 p1:Ls) (K:Bool→Prop):Prop:=yfq p0 p1 K
def ydQ (w:yaj) (as:Ls) (K:PV→Prop):Prop :=
 match as with
 | [(.data p0),(.data p1)]=>w p0 p1 (fun r0=>K (.bool r0))
 | _=>False
def yis (as:Ls) (K:PV→Prop):Prop:=ydQ yag as K
def ybC (F:Frm) (H:Hp) (A0:Ls→Ls→Int→Int→Prop):Prop :=
 match F,H with
 | [(0,.v (.data l0)),(1,.v (.data l1)),(12,.v (.int .i64 i2)),(13,.v (.int .i64 i3))],[]=>(A0 l0 l1 i2 i3)
 | _,_=>False
def yeg (Q:Ex→Frm→Hp→Prop):Ls→Ls→Int→Int→Bool→Prop:=(fun l0 l1 i2 i3 b4=>Q (.exit 0) [(0,.v (.data l0)),(1,.v (.data l1)),(12,.v (.int .i64 i2)),(13,.v (.int .i64 i3)),(14,.v (.bool b4))] [])
def yeh (Q:Ex→Frm→Hp→Prop):Bool→Prop:=(fun b0=>Q .ret [(4,.v (.bool b0))] [])
def ydv (Q:Ex→Frm→Hp→Prop) (n:Nat) (F:Frm) (H:Hp):Prop:=ybC F H (fun l0 l1 i2 i3=>yaN (yeg Q) (yeh Q) n l0 l1 i2 i3)
def ydR:LP:=fun id F H Q =>
 bif Nat.beq id 67911700 then ybC F H (fun l0 l1 i2 i3=>∃ n:Nat,yaN (yeg Q) (yeh Q) n l0 l1 i2 i3) else
 False
def yfr (e:List (Nat×EffF)):SE:=⟨(E e),lookS [],lookI [],ydR⟩
theorem yh3 (e:List (Nat×EffF)) (he:EG e):SEOk (yfr e):=yai trivial trivial he.ok
theorem ykH (e:List (Nat×EffF)) ( Q n l0 l1 i2 i3):WC (E e) (callW (yfr e) 5) (ydR) ylI [(0,.v (.data l0)),(1,.v (.data l1)),(12,.v (.int .i64 i2)),(13,.v (.int .i64 i3))] [] (fun x F' H'=>match x with | .norm=>ydv Q n F' H' | .exit i=>Q (.exit i) F' H' | .ret=>Q .ret F' H')=yaN (yeg Q) (yeh Q) (n+1) l0 l1 i2 i3:=by kernel_rfl
theorem ymz (e:List (Nat×EffF)) (_:EG e):LpOk (E e) (ydR) ylI:=(yah (by kernel_rfl))
theorem yl8 (e:List (Nat×EffF)) (he:EG e):∀ F H Q,ydR 67911700 F H Q→LoopT (E e) ylI F H Q:=by
 intro F H Q h
 have go:=LoopT.intro (yaF (yh3 e he) 5) (ymz e he) (ydv Q) (by
   intro F H h
   unfold ydv ybC at h
   split at h
   · exact h
   · exact h) (by
   intro n F H h
   unfold ydv ybC at h
   split at h
   · exact (ykH ..).mpr h
   · exact h.elim)
 have h:ybC F H _:=h
 unfold ybC at h
 split at h
 · obtain ⟨n,h⟩:=h;exact go n _ _ h
 · exact h.elim
theorem yor (e:List (Nat×EffF)) ( p0 p1 K):WP (yfr e) 6 ypx [(.data p0),(.data p1)] K=yfq p0 p1 (fun r0=>K (.bool r0)):=by kernel_rfl
theorem yfs (e:List (Nat×EffF)) (he:EG e):OkF (E e) yis yci:=by
 intro as K h
 unfold yis ydQ at h
 split at h
 · exact WP_ok (yh3 e he) (ybe (l:=[(67911700,ylI)]) ⟨yl8 e he,trivial⟩ (by kernel_rfl)) (by kernel_rfl) (by kernel_rfl) (fun _=>yac (by kernel_rfl) _) (he.num _ (by kernel_rfl)) ((yor ..).mpr h)
 · exact h.elim
abbrev yel:Type:=Ls→(Int→Prop)→Prop
def ybw (x0:Ls→Int→Int→Bool→Prop):Nat→Ls→Int→Int→Prop
 | 0,_,_,_=>False
 | n+1,l0,i1,i2 =>
 (cbr (decide (i2<(((List.length l0):Nat):Int)))
 (asr (decide ((0:Int)≤i2))
 (asr (decide (i2<(((List.length l0):Nat):Int)))
 (asr (conf (.one (.i .i64)) (List.getD l0 (i2.toNat) .nils))
 (ybw x0 n l0 (if (intOfV (List.getD l0 (i2.toNat) .nils))<i1 then (intOfV (List.getD l0 (i2.toNat) .nils)) else i1) (IntKind.i64.wrap (i2+(1:Int)))))))
 (x0 l0 i1 i2 false))
def yjA (p0:Ls) (K:Int→Prop):Prop :=
 (cbr (decide ((((List.length p0):Nat):Int)<(1:Int)))
 False
 (asr (decide ((0:Int)<(((List.length p0):Nat):Int)))
 (asr (conf (.one (.i .i64)) (List.getD p0 0 .nils))
 (∃ n:Nat,ybw
 (fun _ yi1 _ _=>(K yi1))
 n p0 (intOfV (List.getD p0 0 .nils)) (1:Int)))))
def ycT (p0:Ls) (K:Int→Prop):Prop:=yjA p0 K
def yjB (w:yel) (as:Ls) (K:PV→Prop):Prop :=
 match as with
 | [(.data p0)]=>w p0 (fun r0=>K (.int .i64 r0))
 | _=>False
def ynH (as:Ls) (K:PV→Prop):Prop:=yjB ycT as K
def ydw (F:Frm) (H:Hp) (A0:Ls→Int→Int→Prop):Prop :=
 match F,H with
 | [(0,.v (.data l0)),(3,.v (.int .i64 i1)),(4,.v (.int .i64 i2))],[]=>(A0 l0 i1 i2)
 | _,_=>False
def yg8 (Q:Ex→Frm→Hp→Prop):Ls→Int→Int→Bool→Prop:=(fun l0 i1 i2 b3=>Q (.exit 0) [(0,.v (.data l0)),(3,.v (.int .i64 i1)),(4,.v (.int .i64 i2)),(15,.v (.bool b3))] [])
def yf3 (Q:Ex→Frm→Hp→Prop) (n:Nat) (F:Frm) (H:Hp):Prop:=ydw F H (fun l0 i1 i2=>ybw (yg8 Q) n l0 i1 i2)
def ygM:LP:=fun id F H Q =>
 bif Nat.beq id 10434000 then ydw F H (fun l0 i1 i2=>∃ n:Nat,ybw (yg8 Q) n l0 i1 i2) else
 False
def yjC (e:List (Nat×EffF)):SE:=⟨(E e),lookS [],lookI [],ygM⟩
theorem ymH (e:List (Nat×EffF)) (he:EG e):SEOk (yjC e):=yai trivial trivial he.ok
theorem yos (e:List (Nat×EffF)) ( Q n l0 i1 i2):WC (E e) (callW (yjC e) 5) (ygM) ylN [(0,.v (.data l0)),(3,.v (.int .i64 i1)),(4,.v (.int .i64 i2))] [] (fun x F' H'=>match x with | .norm=>yf3 Q n F' H' | .exit i=>Q (.exit i) F' H' | .ret=>Q .ret F' H')=ybw (yg8 Q) (n+1) l0 i1 i2:=by kernel_rfl
theorem yrk (e:List (Nat×EffF)) (_:EG e):LpOk (E e) (ygM) ylN:=(yah (by kernel_rfl))
theorem yp1 (e:List (Nat×EffF)) (he:EG e):∀ F H Q,ygM 10434000 F H Q→LoopT (E e) ylN F H Q:=by
 intro F H Q h
 have go:=LoopT.intro (yaF (ymH e he) 5) (yrk e he) (yf3 Q) (by
   intro F H h
   unfold yf3 ydw at h
   split at h
   · exact h
   · exact h) (by
   intro n F H h
   unfold yf3 ydw at h
   split at h
   · exact (yos ..).mpr h
   · exact h.elim)
 have h:ydw F H _:=h
 unfold ydw at h
 split at h
 · obtain ⟨n,h⟩:=h;exact go n _ _ h
 · exact h.elim
theorem yvj (e:List (Nat×EffF)) ( p0 K):WP (yjC e) 6 yww [(.data p0)] K=yjA p0 (fun r0=>K (.int .i64 r0)):=by kernel_rfl
theorem yvk (e:List (Nat×EffF)) (he:EG e):OkF (E e) ynH yfB:=by
 intro as K h
 unfold ynH yjB at h
 split at h
 · exact WP_ok (ymH e he) (ybe (l:=[(10434000,ylN)]) ⟨yp1 e he,trivial⟩ (by kernel_rfl)) (by kernel_rfl) (by kernel_rfl) (fun _=>yac (by kernel_rfl) _) (he.num _ (by kernel_rfl)) ((yvj ..).mpr h)
 · exact h.elim
abbrev yem:Type:=Ls→(Int→Prop)→Prop
def ybx (x0:Ls→Int→Int→Bool→Prop):Nat→Ls→Int→Int→Prop
 | 0,_,_,_=>False
 | n+1,l0,i1,i2 =>
 (cbr (decide (i2<(((List.length l0):Nat):Int)))
 (asr (decide ((0:Int)≤i2))
 (asr (decide (i2<(((List.length l0):Nat):Int)))
 (asr (conf (.one (.i .i64)) (List.getD l0 (i2.toNat) .nils))
 (ybx x0 n l0 (if (intOfV (List.getD l0 (i2.toNat) .nils))>i1 then (intOfV (List.getD l0 (i2.toNat) .nils)) else i1) (IntKind.i64.wrap (i2+(1:Int)))))))
 (x0 l0 i1 i2 false))
def yjD (p0:Ls) (K:Int→Prop):Prop :=
 (cbr (decide ((((List.length p0):Nat):Int)<(1:Int)))
 False
 (asr (decide ((0:Int)<(((List.length p0):Nat):Int)))
 (asr (conf (.one (.i .i64)) (List.getD p0 0 .nils))
 (∃ n:Nat,ybx
 (fun _ yi1 _ _=>(K yi1))
 n p0 (intOfV (List.getD p0 0 .nils)) (1:Int)))))
def ycU (p0:Ls) (K:Int→Prop):Prop:=yjD p0 K
def yjE (w:yem) (as:Ls) (K:PV→Prop):Prop :=
 match as with
 | [(.data p0)]=>w p0 (fun r0=>K (.int .i64 r0))
 | _=>False
def ynI (as:Ls) (K:PV→Prop):Prop:=yjE ycU as K
def ydx (F:Frm) (H:Hp) (A0:Ls→Int→Int→Prop):Prop :=
 match F,H with
 | [(0,.v (.data l0)),(3,.v (.int .i64 i1)),(4,.v (.int .i64 i2))],[]=>(A0 l0 i1 i2)
 | _,_=>False
def yg9 (Q:Ex→Frm→Hp→Prop):Ls→Int→Int→Bool→Prop:=(fun l0 i1 i2 b3=>Q (.exit 0) [(0,.v (.data l0)),(3,.v (.int .i64 i1)),(4,.v (.int .i64 i2)),(15,.v (.bool b3))] [])
def yf4 (Q:Ex→Frm→Hp→Prop) (n:Nat) (F:Frm) (H:Hp):Prop:=ydx F H (fun l0 i1 i2=>ybx (yg9 Q) n l0 i1 i2)
def ygN:LP:=fun id F H Q =>
 bif Nat.beq id 64079100 then ydx F H (fun l0 i1 i2=>∃ n:Nat,ybx (yg9 Q) n l0 i1 i2) else
 False
def yjF (e:List (Nat×EffF)):SE:=⟨(E e),lookS [],lookI [],ygN⟩
theorem ymI (e:List (Nat×EffF)) (he:EG e):SEOk (yjF e):=yai trivial trivial he.ok
theorem yot (e:List (Nat×EffF)) ( Q n l0 i1 i2):WC (E e) (callW (yjF e) 5) (ygN) ylO [(0,.v (.data l0)),(3,.v (.int .i64 i1)),(4,.v (.int .i64 i2))] [] (fun x F' H'=>match x with | .norm=>yf4 Q n F' H' | .exit i=>Q (.exit i) F' H' | .ret=>Q .ret F' H')=ybx (yg9 Q) (n+1) l0 i1 i2:=by kernel_rfl
theorem yrl (e:List (Nat×EffF)) (_:EG e):LpOk (E e) (ygN) ylO:=(yah (by kernel_rfl))
theorem yp2 (e:List (Nat×EffF)) (he:EG e):∀ F H Q,ygN 64079100 F H Q→LoopT (E e) ylO F H Q:=by
 intro F H Q h
 have go:=LoopT.intro (yaF (ymI e he) 5) (yrl e he) (yf4 Q) (by
   intro F H h
   unfold yf4 ydx at h
   split at h
   · exact h
   · exact h) (by
   intro n F H h
   unfold yf4 ydx at h
   split at h
   · exact (yot ..).mpr h
   · exact h.elim)
 have h:ydx F H _:=h
 unfold ydx at h
 split at h
 · obtain ⟨n,h⟩:=h;exact go n _ _ h
 · exact h.elim
theorem yvl (e:List (Nat×EffF)) ( p0 K):WP (yjF e) 6 ywx [(.data p0)] K=yjD p0 (fun r0=>K (.int .i64 r0)):=by kernel_rfl
theorem yvm (e:List (Nat×EffF)) (he:EG e):OkF (E e) ynI yej:=by
 intro as K h
 unfold ynI yjE at h
 split at h
 · exact WP_ok (ymI e he) (ybe (l:=[(64079100,ylO)]) ⟨yp2 e he,trivial⟩ (by kernel_rfl)) (by kernel_rfl) (by kernel_rfl) (fun _=>yac (by kernel_rfl) _) (he.num _ (by kernel_rfl)) ((yvl ..).mpr h)
 · exact h.elim
abbrev yco:Type:=Int→Ls→Ls→(Int→Prop)→Prop
def ycA (a0:yel) (a1:yem) (x0:Int→Prop) (x1:Int→Ls→Ls→Int→Int→Bool→Prop):Nat→Int→Ls→Ls→Int→Int→Prop
 | 0,_,_,_,_,_=>False
 | n+1,i0,l1,l2,i3,i4 =>
 (cbr (decide (i4<i3))
 (asr (decide ((0:Int)≤i4))
 (asr (decide (i4<(((List.length l1):Nat):Int)))
 (asr (conf (.one (.i .i64)) (List.getD l1 (i4.toNat) .nils))
 (asr (decide ((0:Int)≤(IntKind.i64.wrap (i4+(1:Int)))))
 (asr (decide ((IntKind.i64.wrap (i4+(1:Int)))<(((List.length l1):Nat):Int)))
 (asr (conf (.one (.i .i64)) (List.getD l1 ((IntKind.i64.wrap (i4+(1:Int))).toNat) .nils))
 (cbr (decide ((intOfV (List.getD l1 (i4.toNat) .nils))≥(intOfV (List.getD l1 ((IntKind.i64.wrap (i4+(1:Int))).toNat) .nils))))
 (x0 (8:Int))
 (ycA a0 a1 x0 x1 n i0 l1 l2 i3 (IntKind.i64.wrap (i4+(1:Int)))))))))))
 (x1 i0 l1 l2 i3 i4 false))
def ynf (a0:yel) (a1:yem) (p0:Int) (p1 p2:Ls) (K:Int→Prop):Prop :=
 (cbr (decide (p0>(1000:Int)))
 (K (4:Int))
 (cbr (decide ((((List.length p1):Nat):Int)>(40:Int)))
 (K (4:Int))
 (cbr (decide (p0<(1:Int)))
 (K (8:Int))
 (cbr (decide ((((List.length p1):Nat):Int)<(2:Int)))
 (K (8:Int))
 (cbr ((((List.length p2):Nat):Int) !=(IntKind.i64.wrap ((((List.length p1):Nat):Int)-(1:Int))))
 (K (8:Int))
 (asr (decide ((0:Int)<(((List.length p1):Nat):Int)))
 (asr (conf (.one (.i .i64)) (List.getD p1 0 .nils))
 (cbr ((intOfV (List.getD p1 0 .nils)) !=(0:Int))
 (K (8:Int))
 (asr (decide ((0:Int)≤(IntKind.i64.wrap ((((List.length p1):Nat):Int)-(1:Int)))))
 (asr (decide ((IntKind.i64.wrap ((((List.length p1):Nat):Int)-(1:Int)))<(((List.length p1):Nat):Int)))
 (asr (conf (.one (.i .i64)) (List.getD p1 ((IntKind.i64.wrap ((((List.length p1):Nat):Int)-(1:Int))).toNat) .nils))
 (cbr ((intOfV (List.getD p1 ((IntKind.i64.wrap ((((List.length p1):Nat):Int)-(1:Int))).toNat) .nils)) != p0)
 (K (8:Int))
 (∃ n:Nat,ycA a0 a1
 (fun yi0=>(K yi0))
 (fun _ _ yl3 _ _ _=>(a0 yl3 (fun yi7 =>
 (cbr (decide (yi7<(0:Int)))
 (K (8:Int))
 (a1 yl3 (fun yi8 =>
 (cbr (decide (yi8>(12:Int)))
 (K (8:Int))
 (a1 yl3 (fun yi9 =>
 (cbr (yi9 ==(0:Int))
 (K (8:Int))
 (K (0:Int))))))))))))
 n p0 p1 p2 (IntKind.i64.wrap ((((List.length p1):Nat):Int)-(1:Int))) (0:Int))))))))))))))
def yaY (p0:Int) (p1 p2:Ls) (K:Int→Prop):Prop:=ynf ycT ycU p0 p1 p2 K
def yhp (w:yco) (as:Ls) (K:PV→Prop):Prop :=
 match as with
 | [(.agg [(.int .i64 p0),(.data p1),(.data p2)])]=>w p0 p1 p2 (fun r0=>K (.int .i64 r0))
 | _=>False
def yrR (as:Ls) (K:PV→Prop):Prop:=yhp yaY as K
def yeW (F:Frm) (H:Hp) (A0:Int→Ls→Ls→Int→Int→Prop):Prop :=
 match F,H with
 | [(1,.box (.agg [(.int .i64 i0),(.data l1),(.data l2)])),(49,.v (.int .i64 i3)),(50,.v (.int .i64 i4))],[]=>(A0 i0 l1 l2 i3 i4)
 | _,_=>False
def yjG (Q:Ex→Frm→Hp→Prop):Int→Prop:=(fun i0=>Q .ret [(2,.v (.int .i64 i0))] [])
def yjH (Q:Ex→Frm→Hp→Prop):Int→Ls→Ls→Int→Int→Bool→Prop:=(fun i0 l1 l2 i3 i4 b5=>Q (.exit 0) [(1,.box (.agg [(.int .i64 i0),(.data l1),(.data l2)])),(49,.v (.int .i64 i3)),(50,.v (.int .i64 i4)),(51,.v (.bool b5))] [])
def yit (a0:yel) (a1:yem) (Q:Ex→Frm→Hp→Prop) (n:Nat) (F:Frm) (H:Hp):Prop:=yeW F H (fun i0 l1 l2 i3 i4=>ycA a0 a1 (yjG Q) (yjH Q) n i0 l1 l2 i3 i4)
def yj5 (a0:yel) (a1:yem):LP:=fun id F H Q =>
 bif Nat.beq id 87419700 then yeW F H (fun i0 l1 l2 i3 i4=>∃ n:Nat,ycA a0 a1 (yjG Q) (yjH Q) n i0 l1 l2 i3 i4) else
 False
def yng (e:List (Nat×EffF)) (a0:yel) (a1:yem):SE:=⟨(E e),lookS [(yfB,yjB a0),(yej,yjE a1)],lookI [],yj5 a0 a1⟩
theorem yp3 (e:List (Nat×EffF)) (he:EG e):SEOk (yng e ycT ycU):=yai ⟨(yvk e he),(yvm e he),trivial⟩ trivial he.ok
theorem yrm (e:List (Nat×EffF)) (a0 a1 Q n i0 l1 l2 i3 i4):WC (E e) (callW (yng e a0 a1) 5) (yj5 a0 a1) ylP [(1,.box (.agg [(.int .i64 i0),(.data l1),(.data l2)])),(49,.v (.int .i64 i3)),(50,.v (.int .i64 i4))] [] (fun x F' H'=>match x with | .norm=>yit a0 a1 Q n F' H' | .exit i=>Q (.exit i) F' H' | .ret=>Q .ret F' H')=ycA a0 a1 (yjG Q) (yjH Q) (n+1) i0 l1 l2 i3 i4:=by kernel_rfl
theorem yvn (e:List (Nat×EffF)) (_:EG e):LpOk (E e) (yj5 ycT ycU) ylP:=(yah (by kernel_rfl))
theorem ytJ (e:List (Nat×EffF)) (he:EG e):∀ F H Q,yj5 ycT ycU 87419700 F H Q→LoopT (E e) ylP F H Q:=by
 intro F H Q h
 have go:=LoopT.intro (yaF (yp3 e he) 5) (yvn e he) (yit ycT ycU Q) (by
   intro F H h
   unfold yit yeW at h
   split at h
   · exact h
   · exact h) (by
   intro n F H h
   unfold yit yeW at h
   split at h
   · exact (yrm ..).mpr h
   · exact h.elim)
 have h:yeW F H _:=h
 unfold yeW at h
 split at h
 · obtain ⟨n,h⟩:=h;exact go n _ _ h
 · exact h.elim
theorem yzx (e:List (Nat×EffF)) (a0 a1 p0 p1 p2 K):WP (yng e a0 a1) 6 yA8 [(.agg [(.int .i64 p0),(.data p1),(.data p2)])] K=ynf a0 a1 p0 p1 p2 (fun r0=>K (.int .i64 r0)):=by kernel_rfl
theorem yj7 (e:List (Nat×EffF)) (he:EG e):OkF (E e) yrR yeu:=by
 intro as K h
 unfold yrR yhp at h
 split at h
 · exact WP_ok (yp3 e he) (ybe (l:=[(87419700,ylP)]) ⟨ytJ e he,trivial⟩ (by kernel_rfl)) (by kernel_rfl) (by kernel_rfl) (fun _=>yac (by kernel_rfl) _) (he.num _ (by kernel_rfl)) ((yzx ..).mpr h)
 · exact h.elim
abbrev ybo:Type:=Int→(Int→Int→Prop)→Prop
def yrS (p0:Int) (K:Int→Int→Prop):Prop :=
 (K p0 (1:Int))
def ya9 (p0:Int) (K:Int→Int→Prop):Prop:=yrS p0 K
def yfS (w:ybo) (as:Ls) (K:PV→Prop):Prop :=
 match as with
 | [(.int .i64 p0)]=>w p0 (fun r0 r1=>K (.agg [(.int .i64 r0),(.int .i64 r1)]))
 | _=>False
def yrT (as:Ls) (K:PV→Prop):Prop:=yfS ya9 as K
def yzy:LP:=fun _ _ _ _ =>
 False
def yrU (e:List (Nat×EffF)):SE:=⟨(E e),lookS [],lookI [],yzy⟩
theorem yx1 (e:List (Nat×EffF)) (he:EG e):SEOk (yrU e):=yai trivial trivial he.ok
theorem yzz (e:List (Nat×EffF)) ( p0 K):WP (yrU e) 6 yA9 [(.int .i64 p0)] K=yrS p0 (fun r0 r1=>K (.agg [(.int .i64 r0),(.int .i64 r1)])):=by kernel_rfl
theorem yj8 (e:List (Nat×EffF)) (he:EG e):OkF (E e) yrT ybn:=by
 intro as K h
 unfold yrT yfS at h
 split at h
 · exact WP_ok (yx1 e he) (yah (by kernel_rfl)) (by kernel_rfl) (by kernel_rfl) (fun _=>yac (by kernel_rfl) _) (he.num _ (by kernel_rfl)) ((yzz ..).mpr h)
 · exact h.elim
abbrev ybG:Type:=Int→Int→Int→Int→(Bool→Prop)→Prop
def you (a0:ygr) (p0 p1 p2 p3:Int) (K:Bool→Prop):Prop :=
 (a0 p0 p1 p2 p3 (fun yi0 _ =>
 (K (decide (yi0<(0:Int))))))
def ybd (p0 p1 p2 p3:Int) (K:Bool→Prop):Prop:=you ydU p0 p1 p2 p3 K
def ygO (w:ybG) (as:Ls) (K:PV→Prop):Prop :=
 match as with
 | [(.agg [(.int .i64 p0),(.int .i64 p1)]),(.agg [(.int .i64 p2),(.int .i64 p3)])]=>w p0 p1 p2 p3 (fun r0=>K (.bool r0))
 | _=>False
def ytK (as:Ls) (K:PV→Prop):Prop:=ygO ybd as K
def yBq (_:ygr):LP:=fun _ _ _ _ =>
 False
def ytL (e:List (Nat×EffF)) (a0:ygr):SE:=⟨(E e),lookS [(ygj,yk2 a0)],lookI [],yBq a0⟩
theorem yzA (e:List (Nat×EffF)) (he:EG e):SEOk (ytL e ydU):=yai ⟨(yok e he),trivial⟩ trivial he.ok
theorem yBr (e:List (Nat×EffF)) (a0 p0 p1 p2 p3 K):WP (ytL e a0) 6 yDi [(.agg [(.int .i64 p0),(.int .i64 p1)]),(.agg [(.int .i64 p2),(.int .i64 p3)])] K=you a0 p0 p1 p2 p3 (fun r0=>K (.bool r0)):=by kernel_rfl
theorem yk5 (e:List (Nat×EffF)) (he:EG e):OkF (E e) ytK yca:=by
 intro as K h
 unfold ytK ygO at h
 split at h
 · exact WP_ok (yzA e he) (yah (by kernel_rfl)) (by kernel_rfl) (by kernel_rfl) (fun _=>yac (by kernel_rfl) _) (he.num _ (by kernel_rfl)) ((yBr ..).mpr h)
 · exact h.elim
abbrev ycp:Type:=Int→Ls→Ls→Int→Int→(Bool→Prop)→Prop
def ynh (a0:yaA) (a1:ybo) (a2:ybG) (p0:Int) (_ _:Ls) (p3 p4:Int) (K:Bool→Prop):Prop :=
 (a0 p3 p4 (fun yi0 =>
 (cbr (yi0 ==(0:Int))
 (cbr (decide (p3≥(0:Int)))
 (a1 p0 (fun yi1 yi2 =>
 (a2 yi1 yi2 p3 p4 (fun yb3 =>
 (K (!yb3))))))
 (K false))
 (K false))))
def ybg (p0:Int) (p1 p2:Ls) (p3 p4:Int) (K:Bool→Prop):Prop:=ynh yal ya9 ybd p0 p1 p2 p3 p4 K
def yhq (w:ycp) (as:Ls) (K:PV→Prop):Prop :=
 match as with
 | [(.agg [(.int .i64 p0),(.data p1),(.data p2)]),(.agg [(.int .i64 p3),(.int .i64 p4)])]=>w p0 p1 p2 p3 p4 (fun r0=>K (.bool r0))
 | _=>False
def yrV (as:Ls) (K:PV→Prop):Prop:=yhq ybg as K
def yzB (_:yaA) (_:ybo) (_:ybG):LP:=fun _ _ _ _ =>
 False
def yrW (e:List (Nat×EffF)) (a0:yaA) (a1:ybo) (a2:ybG):SE:=⟨(E e),lookS [(yaZ,ydm a0),(ybn,yfS a1),(yca,ygO a2)],lookI [],yzB a0 a1 a2⟩
theorem yx2 (e:List (Nat×EffF)) (he:EG e):SEOk (yrW e yal ya9 ybd):=yai ⟨(yd6 e he),(yj8 e he),(yk5 e he),trivial⟩ trivial he.ok
theorem yzC (e:List (Nat×EffF)) (a0 a1 a2 p0 p1 p2 p3 p4 K):WP (yrW e a0 a1 a2) 6 yBa [(.agg [(.int .i64 p0),(.data p1),(.data p2)]),(.agg [(.int .i64 p3),(.int .i64 p4)])] K=ynh a0 a1 a2 p0 p1 p2 p3 p4 (fun r0=>K (.bool r0)):=by kernel_rfl
theorem yni (e:List (Nat×EffF)) (he:EG e):OkF (E e) yrV ydP:=by
 intro as K h
 unfold yrV yhq at h
 split at h
 · exact WP_ok (yx2 e he) (yah (by kernel_rfl)) (by kernel_rfl) (by kernel_rfl) (fun _=>yac (by kernel_rfl) _) (he.num _ (by kernel_rfl)) ((yzC ..).mpr h)
 · exact h.elim
abbrev yft:Type:=Int→Ls→Ls→Int→Int→Int→Int→(Int→Int→Int→Prop)→Prop
def yaE (a0:yco) (a1:ycp) (a2:ybG) (a3:ybo) (a4:ycS) (a5:ybF) (a6:yaK) (x0:Int→Int→Int→Prop) (x1:Int→Ls→Ls→Int→Int→Int→Int→Int→Int→Int→Int→Ls→Int→Int→Bool→Prop):Nat→Int→Ls→Ls→Int→Int→Int→Int→Int→Int→Int→Int→Ls→Int→Int→Prop
 | 0,_,_,_,_,_,_,_,_,_,_,_,_,_,_=>False
 | n+1,i0,l1,l2,i3,i4,i5,i6,i7,i8,i9,i10,l11,i12,i13 =>
 (cbr (decide (i13<i12))
 (asr (decide ((0:Int)≤i13))
 (asr (decide (i13<(((List.length l11):Nat):Int)))
 (asr (conf (.one (.i .i64)) (List.getD l11 (i13.toNat) .nils))
 (asr (decide ((0:Int)≤(IntKind.i64.wrap (i13+(1:Int)))))
 (asr (decide ((IntKind.i64.wrap (i13+(1:Int)))<(((List.length l1):Nat):Int)))
 (asr (conf (.one (.i .i64)) (List.getD l1 ((IntKind.i64.wrap (i13+(1:Int))).toNat) .nils))
 (a3 (intOfV (List.getD l1 ((IntKind.i64.wrap (i13+(1:Int))).toNat) .nils)) (fun yi6 yi7 =>
 (a2 i3 i4 yi6 yi7 (fun yb8 =>
 (cbr yb8
 (cbr ((intOfV (List.getD l11 (i13.toNat) .nils)) ==(0:Int))
 (a2 i9 i10 i3 i4 (fun yb9 =>
 (cbr yb9
 (yaE a0 a1 a2 a3 a4 a5 a6 x0 x1 n i0 l1 l2 i3 i4 i5 i6 i7 i8 i3 i4 l11 i12 (IntKind.i64.wrap (i13+(1:Int))))
 (yaE a0 a1 a2 a3 a4 a5 a6 x0 x1 n i0 l1 l2 i3 i4 i5 i6 i7 i8 i9 i10 l11 i12 (IntKind.i64.wrap (i13+(1:Int)))))))
 (a2 i9 i10 i3 i4 (fun yb10 =>
 (cbr (!yb10)
 (a2 i9 i10 i3 i4 (fun yb11 =>
 (cbr yb11
 (yaE a0 a1 a2 a3 a4 a5 a6 x0 x1 n i0 l1 l2 i3 i4 i5 i6 i7 i8 i3 i4 l11 i12 (IntKind.i64.wrap (i13+(1:Int))))
 (yaE a0 a1 a2 a3 a4 a5 a6 x0 x1 n i0 l1 l2 i3 i4 i5 i6 i7 i8 i9 i10 l11 i12 (IntKind.i64.wrap (i13+(1:Int)))))))
 (a4 i3 i4 i9 i10 (fun yi12 yi13 yi14 =>
 (cbr (yi14 !=(0:Int))
 (x0 (0:Int) (0:Int) yi14)
 (a3 (intOfV (List.getD l11 (i13.toNat) .nils)) (fun yi15 yi16 =>
 (a5 yi12 yi13 yi15 yi16 (fun yi17 yi18 yi19 =>
 (cbr (yi19 !=(0:Int))
 (x0 (0:Int) (0:Int) yi19)
 (a6 i7 i8 yi17 yi18 (fun yi20 yi21 yi22 =>
 (cbr (yi22 !=(0:Int))
 (x0 (0:Int) (0:Int) yi22)
 (yaE a0 a1 a2 a3 a4 a5 a6 x0 x1 n i0 l1 l2 i3 i4 i5 i6 yi20 yi21 i3 i4 l11 i12 (IntKind.i64.wrap (i13+(1:Int)))))))))))))))))))
 (cbr ((intOfV (List.getD l11 (i13.toNat) .nils)) ==(0:Int))
 (a2 i9 i10 yi6 yi7 (fun yb23 =>
 (cbr yb23
 (yaE a0 a1 a2 a3 a4 a5 a6 x0 x1 n i0 l1 l2 i3 i4 i5 i6 i7 i8 yi6 yi7 l11 i12 (IntKind.i64.wrap (i13+(1:Int))))
 (yaE a0 a1 a2 a3 a4 a5 a6 x0 x1 n i0 l1 l2 i3 i4 i5 i6 i7 i8 i9 i10 l11 i12 (IntKind.i64.wrap (i13+(1:Int)))))))
 (a2 i9 i10 yi6 yi7 (fun yb24 =>
 (cbr (!yb24)
 (a2 i9 i10 yi6 yi7 (fun yb25 =>
 (cbr yb25
 (yaE a0 a1 a2 a3 a4 a5 a6 x0 x1 n i0 l1 l2 i3 i4 i5 i6 i7 i8 yi6 yi7 l11 i12 (IntKind.i64.wrap (i13+(1:Int))))
 (yaE a0 a1 a2 a3 a4 a5 a6 x0 x1 n i0 l1 l2 i3 i4 i5 i6 i7 i8 i9 i10 l11 i12 (IntKind.i64.wrap (i13+(1:Int)))))))
 (a4 yi6 yi7 i9 i10 (fun yi26 yi27 yi28 =>
 (cbr (yi28 !=(0:Int))
 (x0 (0:Int) (0:Int) yi28)
 (a3 (intOfV (List.getD l11 (i13.toNat) .nils)) (fun yi29 yi30 =>
 (a5 yi26 yi27 yi29 yi30 (fun yi31 yi32 yi33 =>
 (cbr (yi33 !=(0:Int))
 (x0 (0:Int) (0:Int) yi33)
 (a6 i7 i8 yi31 yi32 (fun yi34 yi35 yi36 =>
 (cbr (yi36 !=(0:Int))
 (x0 (0:Int) (0:Int) yi36)
 (yaE a0 a1 a2 a3 a4 a5 a6 x0 x1 n i0 l1 l2 i3 i4 i5 i6 yi34 yi35 yi6 yi7 l11 i12 (IntKind.i64.wrap (i13+(1:Int))))))))))))))))))))))))))))))
 (x1 i0 l1 l2 i3 i4 i5 i6 i7 i8 i9 i10 l11 i12 i13 false))
def ynj (a0:yco) (a1:ycp) (a2:ybG) (a3:ybo) (a4:ycS) (a5:ybF) (a6:yaK) (p0:Int) (p1 p2:Ls) (p3 p4 p5 p6:Int) (K:Int→Int→Int→Prop):Prop :=
 (a0 p0 p1 p2 (fun yi0 =>
 (cbr (yi0 !=(0:Int))
 (K (0:Int) (0:Int) yi0)
 (a1 p0 p1 p2 p3 p4 (fun yb1 =>
 (cbr (!yb1)
 (K (0:Int) (0:Int) (2:Int))
 (a1 p0 p1 p2 p5 p6 (fun yb2 =>
 (cbr (!yb2)
 (K (0:Int) (0:Int) (2:Int))
 (a2 p5 p6 p3 p4 (fun yb3 =>
 (cbr yb3
 (K (0:Int) (0:Int) (2:Int))
 (a3 (0:Int) (fun yi4 yi5 =>
 (∃ n:Nat,yaE a0 a1 a2 a3 a4 a5 a6
 (fun yi37 yi38 yi39=>(K yi37 yi38 yi39))
 (fun _ _ _ _ _ _ _ yi47 yi48 _ _ _ _ _ _=>(K yi47 yi48 (0:Int)))
 n p0 p1 p2 p5 p6 (0:Int) (0:Int) yi4 yi5 p3 p4 p2 (((List.length p2):Nat):Int) (0:Int))))))))))))))))
def ybT (p0:Int) (p1 p2:Ls) (p3 p4 p5 p6:Int) (K:Int→Int→Int→Prop):Prop:=ynj yaY ybg ybd ya9 ya8 yaR yar p0 p1 p2 p3 p4 p5 p6 K
def ynk (w:yft) (as:Ls) (K:PV→Prop):Prop :=
 match as with
 | [(.agg [(.int .i64 p0),(.data p1),(.data p2)]),(.agg [(.int .i64 p3),(.int .i64 p4)]),(.agg [(.int .i64 p5),(.int .i64 p6)])]=>w p0 p1 p2 p3 p4 p5 p6 (fun r0 r1 r2=>K (.tup [(.agg [(.int .i64 r0),(.int .i64 r1)]),(.int .i64 r2)]))
 | _=>False
def yrX (as:Ls) (K:PV→Prop):Prop:=ynk ybT as K
def yeX (F:Frm) (H:Hp) (A0:Int→Ls→Ls→Int→Int→Int→Int→Int→Int→Int→Int→Ls→Int→Int→Prop):Prop :=
 match F,H with
 | [(3,.box (.agg [(.int .i64 i0),(.data l1),(.data l2)])),(5,.box (.agg [(.int .i64 i3),(.int .i64 i4)])),(6,.box (.agg [(.int .i64 i5),(.int .i64 i6)])),(9,.box (.agg [(.int .i64 i7),(.int .i64 i8)])),(10,.box (.agg [(.int .i64 i9),(.int .i64 i10)])),(42,.v (.data l11)),(43,.v (.int .i64 i12)),(44,.v (.int .i64 i13))],[]=>(A0 i0 l1 l2 i3 i4 i5 i6 i7 i8 i9 i10 l11 i12 i13)
 | _,_=>False
def yjI (Q:Ex→Frm→Hp→Prop):Int→Int→Int→Prop:=(fun i0 i1 i2=>Q .ret [(6,.box (.agg [(.int .i64 i0),(.int .i64 i1)])),(7,.v (.int .i64 i2))] [])
def yjJ (Q:Ex→Frm→Hp→Prop):Int→Ls→Ls→Int→Int→Int→Int→Int→Int→Int→Int→Ls→Int→Int→Bool→Prop:=(fun i0 l1 l2 i3 i4 i5 i6 i7 i8 i9 i10 l11 i12 i13 b14=>Q (.exit 0) [(3,.box (.agg [(.int .i64 i0),(.data l1),(.data l2)])),(5,.box (.agg [(.int .i64 i3),(.int .i64 i4)])),(6,.box (.agg [(.int .i64 i5),(.int .i64 i6)])),(9,.box (.agg [(.int .i64 i7),(.int .i64 i8)])),(10,.box (.agg [(.int .i64 i9),(.int .i64 i10)])),(42,.v (.data l11)),(43,.v (.int .i64 i12)),(44,.v (.int .i64 i13)),(45,.v (.bool b14))] [])
def yiu (a0:yco) (a1:ycp) (a2:ybG) (a3:ybo) (a4:ycS) (a5:ybF) (a6:yaK) (Q:Ex→Frm→Hp→Prop) (n:Nat) (F:Frm) (H:Hp):Prop:=yeX F H (fun i0 l1 l2 i3 i4 i5 i6 i7 i8 i9 i10 l11 i12 i13=>yaE a0 a1 a2 a3 a4 a5 a6 (yjI Q) (yjJ Q) n i0 l1 l2 i3 i4 i5 i6 i7 i8 i9 i10 l11 i12 i13)
def yj9 (a0:yco) (a1:ycp) (a2:ybG) (a3:ybo) (a4:ycS) (a5:ybF) (a6:yaK):LP:=fun id F H Q =>
 bif Nat.beq id 85339800 then yeX F H (fun i0 l1 l2 i3 i4 i5 i6 i7 i8 i9 i10 l11 i12 i13=>∃ n:Nat,yaE a0 a1 a2 a3 a4 a5 a6 (yjI Q) (yjJ Q) n i0 l1 l2 i3 i4 i5 i6 i7 i8 i9 i10 l11 i12 i13) else
 False
def ynl (e:List (Nat×EffF)) (a0:yco) (a1:ycp) (a2:ybG) (a3:ybo) (a4:ycS) (a5:ybF) (a6:yaK):SE:=⟨(E e),lookS [(yeu,yhp a0),(ydP,yhq a1),(yca,ygO a2),(ybn,yfS a3),(yev,yiq a4),(ydk,ygL a5),(ycR,yfp a6)],lookI [],yj9 a0 a1 a2 a3 a4 a5 a6⟩
theorem yp4 (e:List (Nat×EffF)) (he:EG e):SEOk (ynl e yaY ybg ybd ya9 ya8 yaR yar):=yai ⟨(yj7 e he),(yni e he),(yk5 e he),(yj8 e he),(yk3 e he),(yir e he),(ygK e he),trivial⟩ trivial he.ok
theorem yrn (e:List (Nat×EffF)) (a0 a1 a2 a3 a4 a5 a6 Q n i0 l1 l2 i3 i4 i5 i6 i7 i8 i9 i10 l11 i12 i13):WC (E e) (callW (ynl e a0 a1 a2 a3 a4 a5 a6) 5) (yj9 a0 a1 a2 a3 a4 a5 a6) ylQ [(3,.box (.agg [(.int .i64 i0),(.data l1),(.data l2)])),(5,.box (.agg [(.int .i64 i3),(.int .i64 i4)])),(6,.box (.agg [(.int .i64 i5),(.int .i64 i6)])),(9,.box (.agg [(.int .i64 i7),(.int .i64 i8)])),(10,.box (.agg [(.int .i64 i9),(.int .i64 i10)])),(42,.v (.data l11)),(43,.v (.int .i64 i12)),(44,.v (.int .i64 i13))] [] (fun x F' H'=>match x with | .norm=>yiu a0 a1 a2 a3 a4 a5 a6 Q n F' H' | .exit i=>Q (.exit i) F' H' | .ret=>Q .ret F' H')=yaE a0 a1 a2 a3 a4 a5 a6 (yjI Q) (yjJ Q) (n+1) i0 l1 l2 i3 i4 i5 i6 i7 i8 i9 i10 l11 i12 i13:=by kernel_rfl
theorem yvo (e:List (Nat×EffF)) (_:EG e):LpOk (E e) (yj9 yaY ybg ybd ya9 ya8 yaR yar) ylQ:=(yah (by kernel_rfl))
theorem ytM (e:List (Nat×EffF)) (he:EG e):∀ F H Q,yj9 yaY ybg ybd ya9 ya8 yaR yar 85339800 F H Q→LoopT (E e) ylQ F H Q:=by
 intro F H Q h
 have go:=LoopT.intro (yaF (yp4 e he) 5) (yvo e he) (yiu yaY ybg ybd ya9 ya8 yaR yar Q) (by
   intro F H h
   unfold yiu yeX at h
   split at h
   · exact h
   · exact h) (by
   intro n F H h
   unfold yiu yeX at h
   split at h
   · exact (yrn ..).mpr h
   · exact h.elim)
 have h:yeX F H _:=h
 unfold yeX at h
 split at h
 · obtain ⟨n,h⟩:=h;exact go n _ _ h
 · exact h.elim
theorem yzD (e:List (Nat×EffF)) (a0 a1 a2 a3 a4 a5 a6 p0 p1 p2 p3 p4 p5 p6 K):WP (ynl e a0 a1 a2 a3 a4 a5 a6) 6 yBb [(.agg [(.int .i64 p0),(.data p1),(.data p2)]),(.agg [(.int .i64 p3),(.int .i64 p4)]),(.agg [(.int .i64 p5),(.int .i64 p6)])] K=ynj a0 a1 a2 a3 a4 a5 a6 p0 p1 p2 p3 p4 p5 p6 (fun r0 r1 r2=>K (.tup [(.agg [(.int .i64 r0),(.int .i64 r1)]),(.int .i64 r2)])):=by kernel_rfl
theorem yrY (e:List (Nat×EffF)) (he:EG e):OkF (E e) yrX yij:=by
 intro as K h
 unfold yrX ynk at h
 split at h
 · exact WP_ok (yp4 e he) (ybe (l:=[(85339800,ylQ)]) ⟨ytM e he,trivial⟩ (by kernel_rfl)) (by kernel_rfl) (by kernel_rfl) (fun _=>yac (by kernel_rfl) _) (he.num _ (by kernel_rfl)) ((yzD ..).mpr h)
 · exact h.elim
abbrev ygt:Type:=Int→Ls→Ls→Int→Int→Int→Int→(Int→Int→Int→Prop)→Prop
def yaS (a0:yco) (a1:ycp) (a2:yaA) (a3:ybo) (a4:ybG) (a5:ycS) (a6:ybF) (a7:ygs) (a8:yaK) (x0:Int→Int→Int→Int→Int→Int→Prop) (x1:Int→Int→Int→Int→Int→Int→Ls→Ls→Int→Int→Ls→Int→Int→Bool→Prop):Nat→Int→Int→Int→Int→Int→Int→Ls→Ls→Int→Int→Ls→Int→Int→Prop
 | 0,_,_,_,_,_,_,_,_,_,_,_,_,_=>False
 | n+1,i0,i1,i2,i3,i4,i5,l6,l7,i8,i9,l10,i11,i12 =>
 (cbr (decide (i12<i11))
 (asr (decide ((0:Int)≤i12))
 (asr (decide (i12<(((List.length l10):Nat):Int)))
 (asr (conf (.one (.i .i64)) (List.getD l10 (i12.toNat) .nils))
 (asr (decide ((0:Int)≤(IntKind.i64.wrap (i12+(1:Int)))))
 (asr (decide ((IntKind.i64.wrap (i12+(1:Int)))<(((List.length l6):Nat):Int)))
 (asr (conf (.one (.i .i64)) (List.getD l6 ((IntKind.i64.wrap (i12+(1:Int))).toNat) .nils))
 (a3 (intOfV (List.getD l6 ((IntKind.i64.wrap (i12+(1:Int))).toNat) .nils)) (fun yi3 yi4 =>
 (a4 i8 i9 yi3 yi4 (fun yb5 =>
 (cbr (!yb5)
 (yaS a0 a1 a2 a3 a4 a5 a6 a7 a8 x0 x1 n i0 i1 i2 i3 i4 i5 l6 l7 i8 i9 l10 i11 (IntKind.i64.wrap (i12+(1:Int))))
 (a3 (0:Int) (fun yi6 yi7 =>
 (cbr (decide ((intOfV (List.getD l10 (i12.toNat) .nils))>(0:Int)))
 (a5 yi3 yi4 i8 i9 (fun yi8 yi9 yi10 =>
 (cbr (yi10 !=(0:Int))
 (x0 i0 i1 i2 i3 i4 yi10)
 (a3 (intOfV (List.getD l10 (i12.toNat) .nils)) (fun yi11 yi12 =>
 (a6 yi8 yi9 yi11 yi12 (fun yi13 yi14 yi15 =>
 (cbr (yi15 !=(0:Int))
 (x0 i0 i1 i2 i3 i4 yi15)
 (cbr ((intOfV (List.getD l10 (i12.toNat) .nils)) ==(0:Int))
 (yaS a0 a1 a2 a3 a4 a5 a6 a7 a8 x0 x1 n i0 i1 i2 i3 i4 i5 l6 l7 yi3 yi4 l10 i11 (IntKind.i64.wrap (i12+(1:Int))))
 (a4 yi13 yi14 i0 i1 (fun yb16 =>
 (cbr yb16
 (a5 i0 i1 yi13 yi14 (fun yi17 yi18 yi19 =>
 (cbr (yi19 !=(0:Int))
 (cbr (yi19 !=(0:Int))
 (x0 yi17 yi18 i2 i3 yi19 (0:Int))
 (yaS a0 a1 a2 a3 a4 a5 a6 a7 a8 x0 x1 n yi17 yi18 i2 i3 yi19 i5 l6 l7 yi3 yi4 l10 i11 (IntKind.i64.wrap (i12+(1:Int)))))
 (cbr (yi19 !=(0:Int))
 (x0 yi17 yi18 i2 i3 (6:Int) (0:Int))
 (yaS a0 a1 a2 a3 a4 a5 a6 a7 a8 x0 x1 n yi17 yi18 i2 i3 (6:Int) i5 l6 l7 yi3 yi4 l10 i11 (IntKind.i64.wrap (i12+(1:Int))))))))
 (a3 (intOfV (List.getD l10 (i12.toNat) .nils)) (fun yi20 yi21 =>
 (a7 i0 i1 yi20 yi21 (fun yi22 yi23 yi24 =>
 (cbr (yi24 ==(0:Int))
 (a8 i8 i9 yi22 yi23 (fun yi25 yi26 yi27 =>
 (x0 i0 i1 yi25 yi26 yi27 (0:Int))))
 (x0 i0 i1 i2 i3 yi24 (0:Int)))))))))))))))))))
 (cbr ((intOfV (List.getD l10 (i12.toNat) .nils)) ==(0:Int))
 (yaS a0 a1 a2 a3 a4 a5 a6 a7 a8 x0 x1 n i0 i1 i2 i3 i4 i5 l6 l7 yi3 yi4 l10 i11 (IntKind.i64.wrap (i12+(1:Int))))
 (a4 yi6 yi7 i0 i1 (fun yb28 =>
 (cbr yb28
 (a5 i0 i1 yi6 yi7 (fun yi29 yi30 yi31 =>
 (cbr (yi31 !=(0:Int))
 (cbr (yi31 !=(0:Int))
 (x0 yi29 yi30 i2 i3 yi31 (0:Int))
 (yaS a0 a1 a2 a3 a4 a5 a6 a7 a8 x0 x1 n yi29 yi30 i2 i3 yi31 i5 l6 l7 yi3 yi4 l10 i11 (IntKind.i64.wrap (i12+(1:Int)))))
 (cbr (yi31 !=(0:Int))
 (x0 yi29 yi30 i2 i3 (6:Int) (0:Int))
 (yaS a0 a1 a2 a3 a4 a5 a6 a7 a8 x0 x1 n yi29 yi30 i2 i3 (6:Int) i5 l6 l7 yi3 yi4 l10 i11 (IntKind.i64.wrap (i12+(1:Int))))))))
 (a3 (intOfV (List.getD l10 (i12.toNat) .nils)) (fun yi32 yi33 =>
 (a7 i0 i1 yi32 yi33 (fun yi34 yi35 yi36 =>
 (cbr (yi36 ==(0:Int))
 (a8 i8 i9 yi34 yi35 (fun yi37 yi38 yi39 =>
 (x0 i0 i1 yi37 yi38 yi39 (0:Int))))
 (x0 i0 i1 i2 i3 yi36 (0:Int)))))))))))))))))))))))))
 (x1 i0 i1 i2 i3 i4 i5 l6 l7 i8 i9 l10 i11 i12 false))
def yov (a0:yco) (a1:ycp) (a2:yaA) (a3:ybo) (a4:ybG) (a5:ycS) (a6:ybF) (a7:ygs) (a8:yaK) (p0:Int) (p1 p2:Ls) (p3 p4 p5 p6:Int) (K:Int→Int→Int→Prop):Prop :=
 (a0 p0 p1 p2 (fun yi0 =>
 (cbr (yi0 !=(0:Int))
 (K (0:Int) (0:Int) yi0)
 (a1 p0 p1 p2 p3 p4 (fun yb1 =>
 (cbr (!yb1)
 (K (0:Int) (0:Int) (2:Int))
 (a2 p5 p6 (fun yi2 =>
 (cbr (yi2 !=(0:Int))
 (K (0:Int) (0:Int) (2:Int))
 (cbr (decide (p5<(0:Int)))
 (K (0:Int) (0:Int) (2:Int))
 (cbr (p5 ==(0:Int))
 (K p3 p4 (0:Int))
 (∃ n:Nat,yaS a0 a1 a2 a3 a4 a5 a6 a7 a8
 (fun _ _ yi42 yi43 yi44 yi45=>(cbr (yi45 !=(0:Int))
 (cbr (yi45 !=(0:Int))
 (K (0:Int) (0:Int) yi45)
 (K yi42 yi43 (0:Int)))
 (cbr (yi44 !=(0:Int))
 (K (0:Int) (0:Int) yi44)
 (K yi42 yi43 (0:Int)))))
 (fun _ _ yi48 yi49 yi50 _ _ _ _ _ _ _ _ _=>(cbr (yi50 !=(0:Int))
 (K (0:Int) (0:Int) yi50)
 (K yi48 yi49 (0:Int))))
 n p5 p6 (0:Int) (0:Int) (6:Int) p0 p1 p2 p3 p4 p2 (((List.length p2):Nat):Int) (0:Int)))))))))))))
def ycb (p0:Int) (p1 p2:Ls) (p3 p4 p5 p6:Int) (K:Int→Int→Int→Prop):Prop:=yov yaY ybg yal ya9 ybd ya8 yaR ycz yar p0 p1 p2 p3 p4 p5 p6 K
def yow (w:ygt) (as:Ls) (K:PV→Prop):Prop :=
 match as with
 | [(.agg [(.int .i64 p0),(.data p1),(.data p2)]),(.agg [(.int .i64 p3),(.int .i64 p4)]),(.agg [(.int .i64 p5),(.int .i64 p6)])]=>w p0 p1 p2 p3 p4 p5 p6 (fun r0 r1 r2=>K (.tup [(.agg [(.int .i64 r0),(.int .i64 r1)]),(.int .i64 r2)]))
 | _=>False
def ytN (as:Ls) (K:PV→Prop):Prop:=yow ycb as K
def yfT (F:Frm) (H:Hp) (A0:Int→Int→Int→Int→Int→Int→Ls→Ls→Int→Int→Ls→Int→Int→Prop):Prop :=
 match F,H with
 | [(2,.v (.fn (.func q0) [] [(.ptr 0 1 0 0),(.ptr 2 1 0 0),(.ptr 1 1 0 0)])),(3,.box (.agg [(.int .i64 i5),(.data l6),(.data l7)])),(4,.box (.agg [(.int .i64 i8),(.int .i64 i9)])),(14,.v (.data l10)),(15,.v (.int .i64 i11)),(16,.v (.int .i64 i12))],[⟨false,true,2,[(.agg [(.int .i64 i0),(.int .i64 i1)])]⟩,⟨false,true,2,[(.agg [(.int .i64 i2),(.int .i64 i3)])]⟩,⟨false,true,1,[(.int .i64 i4)]⟩]=>asr (Nat.beq q0 yeJ) (A0 i0 i1 i2 i3 i4 i5 l6 l7 i8 i9 l10 i11 i12)
 | _,_=>False
def ykI (Q:Ex→Frm→Hp→Prop):Int→Int→Int→Int→Int→Int→Prop:=(fun i0 i1 i2 i3 i4 i5=>Q .ret [(6,.v (.int .i64 i5))] [⟨false,true,2,([(.agg [(.int .i64 i0),(.int .i64 i1)])]:Ls)⟩,⟨false,true,2,([(.agg [(.int .i64 i2),(.int .i64 i3)])]:Ls)⟩,⟨false,true,1,([(.int .i64 i4)]:Ls)⟩])
def ykJ (Q:Ex→Frm→Hp→Prop):Int→Int→Int→Int→Int→Int→Ls→Ls→Int→Int→Ls→Int→Int→Bool→Prop:=(fun i0 i1 i2 i3 i4 i5 l6 l7 i8 i9 l10 i11 i12 b13=>Q (.exit 0) [(2,.v (.fn (.func yeJ) [] [(.ptr 0 1 0 0),(.ptr 2 1 0 0),(.ptr 1 1 0 0)])),(3,.box (.agg [(.int .i64 i5),(.data l6),(.data l7)])),(4,.box (.agg [(.int .i64 i8),(.int .i64 i9)])),(14,.v (.data l10)),(15,.v (.int .i64 i11)),(16,.v (.int .i64 i12)),(17,.v (.bool b13))] [⟨false,true,2,([(.agg [(.int .i64 i0),(.int .i64 i1)])]:Ls)⟩,⟨false,true,2,([(.agg [(.int .i64 i2),(.int .i64 i3)])]:Ls)⟩,⟨false,true,1,([(.int .i64 i4)]:Ls)⟩])
def yka (a0:yco) (a1:ycp) (a2:yaA) (a3:ybo) (a4:ybG) (a5:ycS) (a6:ybF) (a7:ygs) (a8:yaK) (Q:Ex→Frm→Hp→Prop) (n:Nat) (F:Frm) (H:Hp):Prop:=yfT F H (fun i0 i1 i2 i3 i4 i5 l6 l7 i8 i9 l10 i11 i12=>yaS a0 a1 a2 a3 a4 a5 a6 a7 a8 (ykI Q) (ykJ Q) n i0 i1 i2 i3 i4 i5 l6 l7 i8 i9 l10 i11 i12)
def yiv (a0:yco) (a1:ycp) (a2:yaA) (a3:ybo) (a4:ybG) (a5:ycS) (a6:ybF) (a7:ygs) (a8:yaK):LP:=fun id F H Q =>
 bif Nat.beq id 41613500 then yfT F H (fun i0 i1 i2 i3 i4 i5 l6 l7 i8 i9 l10 i11 i12=>∃ n:Nat,yaS a0 a1 a2 a3 a4 a5 a6 a7 a8 (ykI Q) (ykJ Q) n i0 i1 i2 i3 i4 i5 l6 l7 i8 i9 l10 i11 i12) else
 False
def ytO (e:List (Nat×EffF)) (a0:yco) (a1:ycp) (a2:yaA) (a3:ybo) (a4:ybG) (a5:ycS) (a6:ybF) (a7:ygs) (a8:yaK):SE:=⟨(E e),lookS [(yeu,yhp a0),(ydP,yhq a1),(yaZ,ydm a2),(ybn,yfS a3),(yca,ygO a4),(yev,yiq a5),(ydk,ygL a6),(yhX,yk4 a7),(ycR,yfp a8)],lookI [(yeJ,yrJ)],yiv a0 a1 a2 a3 a4 a5 a6 a7 a8⟩
def ytP (e:List (Nat×EffF)) (a0:yco) (a1:ycp) (a2:yaA) (a3:ybo) (a4:ybG) (a5:ycS) (a6:ybF) (a7:ygs) (a8:yaK):SE:=⟨(E e),lookS [(yeu,yhp a0),(ydP,yhq a1),(yaZ,ydm a2),(ybn,yfS a3),(yca,ygO a4),(yev,yiq a5),(ydk,ygL a6),(yhX,yk4 a7),(ycR,yfp a8)],lookI [(ypO,yDn),(yeJ,yrJ)],yiv a0 a1 a2 a3 a4 a5 a6 a7 a8⟩
theorem yzE (e:List (Nat×EffF)) (he:EG e):SEOk (ytO e yaY ybg yal ya9 ybd ya8 yaR ycz yar):=yai ⟨(yj7 e he),(yni e he),(yd6 e he),(yj8 e he),(yk5 e he),(yk3 e he),(yir e he),(yoq e he),(ygK e he),trivial⟩ ⟨⟨by kernel_rfl,by kernel_rfl,rfl,fun as=>yac (by kernel_rfl) as,he.num _ (by kernel_rfl),(yah (by kernel_rfl))⟩,trivial⟩ he.ok
theorem ysF (e:List (Nat×EffF)) (a0 a1 a2 a3 a4 a5 a6 a7 a8 Q n i0 i1 i2 i3 i4 i5 l6 l7 i8 i9 l10 i11 i12):WC (E e) (callW (ytO e a0 a1 a2 a3 a4 a5 a6 a7 a8) 5) (yiv a0 a1 a2 a3 a4 a5 a6 a7 a8) ylR [(2,.v (.fn (.func yeJ) [] [(.ptr 0 1 0 0),(.ptr 2 1 0 0),(.ptr 1 1 0 0)])),(3,.box (.agg [(.int .i64 i5),(.data l6),(.data l7)])),(4,.box (.agg [(.int .i64 i8),(.int .i64 i9)])),(14,.v (.data l10)),(15,.v (.int .i64 i11)),(16,.v (.int .i64 i12))] [⟨false,true,2,([(.agg [(.int .i64 i0),(.int .i64 i1)])]:Ls)⟩,⟨false,true,2,([(.agg [(.int .i64 i2),(.int .i64 i3)])]:Ls)⟩,⟨false,true,1,([(.int .i64 i4)]:Ls)⟩] (fun x F' H'=>match x with | .norm=>yka a0 a1 a2 a3 a4 a5 a6 a7 a8 Q n F' H' | .exit i=>Q (.exit i) F' H' | .ret=>Q .ret F' H')=yaS a0 a1 a2 a3 a4 a5 a6 a7 a8 (ykI Q) (ykJ Q) (n+1) i0 i1 i2 i3 i4 i5 l6 l7 i8 i9 l10 i11 i12:=by kernel_rfl
theorem ywG (e:List (Nat×EffF)) (_:EG e):LpOk (E e) (yiv yaY ybg yal ya9 ybd ya8 yaR ycz yar) ylR:=(yah (by kernel_rfl))
theorem yvp (e:List (Nat×EffF)) (he:EG e):∀ F H Q,yiv yaY ybg yal ya9 ybd ya8 yaR ycz yar 41613500 F H Q→LoopT (E e) ylR F H Q:=by
 intro F H Q h
 have go:=LoopT.intro (yaF (yzE e he) 5) (ywG e he) (yka yaY ybg yal ya9 ybd ya8 yaR ycz yar Q) (by
   intro F H h
   unfold yka yfT at h
   split at h
   · obtain ⟨hg,k⟩:=yad.1 h
     clear h
     have h:=k
     clear k
     try simp only [Bool.and_eq_true,decide_eq_true_eq] at hg
     have g0:=hg;have g0:=Nat.eq_of_beq_eq_true g0;subst g0;exact h
   · exact h) (by
   intro n F H h
   unfold yka yfT at h
   split at h
   · obtain ⟨hg,k⟩:=yad.1 h
     clear h
     have h:=k
     clear k
     try simp only [Bool.and_eq_true,decide_eq_true_eq] at hg
     have g0:=hg;have g0:=Nat.eq_of_beq_eq_true g0;subst g0;exact (ysF ..).mpr h
   · exact h.elim)
 have h:yfT F H _:=h
 unfold yfT at h
 split at h
 · obtain ⟨hg,n,h⟩:=yad.1 h;exact go n _ _ (yad.2 ⟨hg,h⟩)
 · exact h.elim
theorem yzF (e:List (Nat×EffF)) (he:EG e):SEOk (ytP e yaY ybg yal ya9 ybd ya8 yaR ycz yar):=yai ⟨(yj7 e he),(yni e he),(yd6 e he),(yj8 e he),(yk5 e he),(yk3 e he),(yir e he),(yoq e he),(ygK e he),trivial⟩ ⟨⟨by kernel_rfl,by kernel_rfl,rfl,fun as=>yac (by kernel_rfl) as,he.num _ (by kernel_rfl),(ybe (l:=[(41613500,ylR)]) ⟨yvp e he,trivial⟩ (by kernel_rfl))⟩,⟨by kernel_rfl,by kernel_rfl,rfl,fun as=>yac (by kernel_rfl) as,he.num _ (by kernel_rfl),(yah (by kernel_rfl))⟩,trivial⟩ he.ok
theorem yBs (e:List (Nat×EffF)) (a0 a1 a2 a3 a4 a5 a6 a7 a8 p0 p1 p2 p3 p4 p5 p6 K):WP (ytP e a0 a1 a2 a3 a4 a5 a6 a7 a8) 6 yDo [(.agg [(.int .i64 p0),(.data p1),(.data p2)]),(.agg [(.int .i64 p3),(.int .i64 p4)]),(.agg [(.int .i64 p5),(.int .i64 p6)])] K=yov a0 a1 a2 a3 a4 a5 a6 a7 a8 p0 p1 p2 p3 p4 p5 p6 (fun r0 r1 r2=>K (.tup [(.agg [(.int .i64 r0),(.int .i64 r1)]),(.int .i64 r2)])):=by kernel_rfl
theorem ytQ (e:List (Nat×EffF)) (he:EG e):OkF (E e) ytN ykk:=by
 intro as K h
 unfold ytN yow at h
 split at h
 · exact WP_ok (yzF e he) (yah (by kernel_rfl)) (by kernel_rfl) (by kernel_rfl) (fun _=>yac (by kernel_rfl) _) (he.num _ (by kernel_rfl)) ((yBs ..).mpr h)
 · exact h.elim
abbrev yam:Type:=Ls→Int→Int→(Int→Prop)→Prop
def yay (x0:Ls→Int→Int→Int→Int→Bool→Prop) (x1:Int→Prop):Nat→Ls→Int→Int→Int→Int→Prop
 | 0,_,_,_,_,_=>False
 | n+1,l0,i1,i2,i3,i4 =>
 (cbr (decide (i4<i3))
 (asr (decide ((0:Int)≤i4))
 (asr (decide (i4<(((List.length l0):Nat):Int)))
 (lt (List.getD l0 (i4.toNat) .nils) (fun yr3 =>
 (asr (conf (.agg [.i .i64,.i .i64]) yr3)
 (cbr ((i1 ==(intOfV (cellAt yr3 0)))&&((i2 ==(intOfV (cellAt yr3 1)))&&true))
 (x1 i4)
 (lt (IntKind.i64.wrap (i4+(1:Int))) (fun yi4 =>
 (yay x0 x1 n l0 i1 i2 i3 yi4)))))))))
 (x0 l0 i1 i2 i3 i4 false))
def yc2 (p0:Ls) (p1 p2:Int) (K:Int→Prop):Prop :=
 (∃ n:Nat,yay
 (fun _ _ _ _ _ _=>(K (-1:Int)))
 (fun yi18=>(K yi18))
 n p0 p1 p2 (((List.length p0):Nat):Int) (0:Int))
def yae (p0:Ls) (p1 p2:Int) (K:Int→Prop):Prop:=yc2 p0 p1 p2 K
def ybU (w:yam) (as:Ls) (K:PV→Prop):Prop :=
 match as with
 | [(.data p0),(.agg [(.int .i64 p1),(.int .i64 p2)])]=>w p0 p1 p2 (fun r0=>K (.int .i64 r0))
 | _=>False
def yeY (as:Ls) (K:PV→Prop):Prop:=ybU yae as K
def yaQ (F:Frm) (H:Hp) (A0:Ls→Int→Int→Int→Int→Prop):Prop :=
 match F,H with
 | [(0,.v (.data l0)),(3,.box (.agg [(.int .i64 i1),(.int .i64 i2)])),(7,.v (.int .i64 i3)),(8,.v (.int .i64 i4))],[]=>(A0 l0 i1 i2 i3 i4)
 | _,_=>False
def ycF (Q:Ex→Frm→Hp→Prop):Ls→Int→Int→Int→Int→Bool→Prop:=(fun l0 i1 i2 i3 i4 b5=>Q (.exit 0) [(0,.v (.data l0)),(3,.box (.agg [(.int .i64 i1),(.int .i64 i2)])),(7,.v (.int .i64 i3)),(8,.v (.int .i64 i4)),(9,.v (.bool b5))] [])
def ycG (Q:Ex→Frm→Hp→Prop):Int→Prop:=(fun i0=>Q .ret [(4,.v (.int .i64 i0))] [])
def ybD (Q:Ex→Frm→Hp→Prop) (n:Nat) (F:Frm) (H:Hp):Prop:=yaQ F H (fun l0 i1 i2 i3 i4=>yay (ycF Q) (ycG Q) n l0 i1 i2 i3 i4)
def ybV:LP:=fun id F H Q =>
 bif Nat.beq id 94483500 then yaQ F H (fun l0 i1 i2 i3 i4=>∃ n:Nat,yay (ycF Q) (ycG Q) n l0 i1 i2 i3 i4) else
 False
def yc3 (e:List (Nat×EffF)):SE:=⟨(E e),lookS [],lookI [],ybV⟩
theorem yeN (e:List (Nat×EffF)) (he:EG e):SEOk (yc3 e):=yai trivial trivial he.ok
theorem yha (e:List (Nat×EffF)) ( Q n l0 i1 i2 i3 i4):WC (E e) (callW (yc3 e) 5) (ybV) ylX [(0,.v (.data l0)),(3,.box (.agg [(.int .i64 i1),(.int .i64 i2)])),(7,.v (.int .i64 i3)),(8,.v (.int .i64 i4))] [] (fun x F' H'=>match x with | .norm=>ybD Q n F' H' | .exit i=>Q (.exit i) F' H' | .ret=>Q .ret F' H')=yay (ycF Q) (ycG Q) (n+1) l0 i1 i2 i3 i4:=by kernel_rfl
theorem yh9 (e:List (Nat×EffF)) (_:EG e):LpOk (E e) (ybV) ylX:=(yah (by kernel_rfl))
theorem yhM (e:List (Nat×EffF)) (he:EG e):∀ F H Q,ybV 94483500 F H Q→LoopT (E e) ylX F H Q:=by
 intro F H Q h
 have go:=LoopT.intro (yaF (yeN e he) 5) (yh9 e he) (ybD Q) (by
   intro F H h
   unfold ybD yaQ at h
   split at h
   · exact h
   · exact h) (by
   intro n F H h
   unfold ybD yaQ at h
   split at h
   · exact (yha ..).mpr h
   · exact h.elim)
 have h:yaQ F H _:=h
 unfold yaQ at h
 split at h
 · obtain ⟨n,h⟩:=h;exact go n _ _ h
 · exact h.elim
theorem yjK (e:List (Nat×EffF)) ( p0 p1 p2 K):WP (yc3 e) 6 yko [(.data p0),(.agg [(.int .i64 p1),(.int .i64 p2)])] K=yc2 p0 p1 p2 (fun r0=>K (.int .i64 r0)):=by kernel_rfl
theorem yc4 (e:List (Nat×EffF)) (he:EG e):OkF (E e) yeY yaG:=by
 intro as K h
 unfold yeY ybU at h
 split at h
 · exact WP_ok (yeN e he) (ybe (l:=[(94483500,ylX)]) ⟨yhM e he,trivial⟩ (by kernel_rfl)) (by kernel_rfl) (by kernel_rfl) (fun _=>yac (by kernel_rfl) _) (he.num _ (by kernel_rfl)) ((yjK ..).mpr h)
 · exact h.elim
abbrev yaq:Type:=Ls→Int→Int→(Bool→Prop)→Prop
def ycH (a0:yam) (p0:Ls) (p1 p2:Int) (K:Bool→Prop):Prop :=
 (a0 p0 p1 p2 (fun yi1 =>
 (K (decide (yi1≥(0:Int))))))
def yak (p0:Ls) (p1 p2:Int) (K:Bool→Prop):Prop:=ycH yae p0 p1 p2 K
def ycI (w:yaq) (as:Ls) (K:PV→Prop):Prop :=
 match as with
 | [(.data p0),(.agg [(.int .i64 p1),(.int .i64 p2)])]=>w p0 p1 p2 (fun r0=>K (.bool r0))
 | _=>False
def yee (as:Ls) (K:PV→Prop):Prop:=ycI yak as K
def yia (_:yam):LP:=fun _ _ _ _ =>
 False
def yef (e:List (Nat×EffF)) (a0:yam):SE:=⟨(E e),lookS [(yaG,ybU a0)],lookI [],yia a0⟩
theorem yhN (e:List (Nat×EffF)) (he:EG e):SEOk (yef e yae):=yai ⟨(yc4 e he),trivial⟩ trivial he.ok
theorem yib (e:List (Nat×EffF)) (a0 p0 p1 p2 K):WP (yef e a0) 6 yin [(.data p0),(.agg [(.int .i64 p1),(.int .i64 p2)])] K=ycH a0 p0 p1 p2 (fun r0=>K (.bool r0)):=by kernel_rfl
theorem yic (e:List (Nat×EffF)) (he:EG e):OkF (E e) yee ya6:=by
 intro as K h
 unfold yee ycI at h
 split at h
 · exact WP_ok (yhN e he) (yah (by kernel_rfl)) (by kernel_rfl) (by kernel_rfl) (fun _=>yac (by kernel_rfl) _) (he.num _ (by kernel_rfl)) ((yib ..).mpr h)
 · exact h.elim
end Go.Pf.Vc
namespace Go.Pf.Vc
open Go Go.Pf
set_option linter.unusedVariables false
theorem ynJ (p0:Ls) (p1:Ls) (r0:Bool) (h:∀ K:Bool→Prop,K r0→yag p0 p1 K) (K:Bool→Prop):yag p0 p1 K=K r0 :=
 propext ⟨fun k=>detC (yfs [] ybE) (as:=[(.data p0),(.data p1)]) (x:=(.bool r0)) (fun K' k'=>h (fun r0=>K' (.bool r0)) k') (K:=fun x=>match x with | (.bool r0)=>K r0 | _=>False) k,h K⟩
theorem yx3 (p0:Int) (p1:Ls) (p2:Ls) (r0:Int) (h:∀ K:Int→Prop,K r0→yaY p0 p1 p2 K) (K:Int→Prop):yaY p0 p1 p2 K=K r0 :=
 propext ⟨fun k=>detC (yj7 [] ybE) (as:=[(.agg [(.int .i64 p0),(.data p1),(.data p2)])]) (x:=(.int .i64 r0)) (fun K' k'=>h (fun r0=>K' (.int .i64 r0)) k') (K:=fun x=>match x with | (.int .i64 r0)=>K r0 | _=>False) k,h K⟩
theorem yx4 (p0:Int) (p1:Ls) (p2:Ls) (p3:Int) (p4:Int) (p5:Int) (p6:Int) (r0:Int) (r1:Int) (r2:Int) (h:∀ K:Int→Int→Int→Prop,K r0 r1 r2→ybT p0 p1 p2 p3 p4 p5 p6 K) (K:Int→Int→Int→Prop):ybT p0 p1 p2 p3 p4 p5 p6 K=K r0 r1 r2 :=
 propext ⟨fun k=>detC (yrY [] ybE) (as:=[(.agg [(.int .i64 p0),(.data p1),(.data p2)]),(.agg [(.int .i64 p3),(.int .i64 p4)]),(.agg [(.int .i64 p5),(.int .i64 p6)])]) (x:=(.tup [(.agg [(.int .i64 r0),(.int .i64 r1)]),(.int .i64 r2)])) (fun K' k'=>h (fun r0 r1 r2=>K' (.tup [(.agg [(.int .i64 r0),(.int .i64 r1)]),(.int .i64 r2)])) k') (K:=fun x=>match x with | (.tup [(.agg [(.int .i64 r0),(.int .i64 r1)]),(.int .i64 r2)])=>K r0 r1 r2 | _=>False) k,h K⟩
theorem yzG (p0:Int) (p1:Ls) (p2:Ls) (p3:Int) (p4:Int) (p5:Int) (p6:Int) (r0:Int) (r1:Int) (r2:Int) (h:∀ K:Int→Int→Int→Prop,K r0 r1 r2→ycb p0 p1 p2 p3 p4 p5 p6 K) (K:Int→Int→Int→Prop):ycb p0 p1 p2 p3 p4 p5 p6 K=K r0 r1 r2 :=
 propext ⟨fun k=>detC (ytQ [] ybE) (as:=[(.agg [(.int .i64 p0),(.data p1),(.data p2)]),(.agg [(.int .i64 p3),(.int .i64 p4)]),(.agg [(.int .i64 p5),(.int .i64 p6)])]) (x:=(.tup [(.agg [(.int .i64 r0),(.int .i64 r1)]),(.int .i64 r2)])) (fun K' k'=>h (fun r0 r1 r2=>K' (.tup [(.agg [(.int .i64 r0),(.int .i64 r1)]),(.int .i64 r2)])) k') (K:=fun x=>match x with | (.tup [(.agg [(.int .i64 r0),(.int .i64 r1)]),(.int .i64 r2)])=>K r0 r1 r2 | _=>False) k,h K⟩
theorem yiY (p0:Ls) (p1:Int) (p2:Int) (r0:Int) (h:∀ K:Int→Prop,K r0→yae p0 p1 p2 K) (K:Int→Prop):yae p0 p1 p2 K=K r0 :=
 propext ⟨fun k=>detC (yc4 [] ybE) (as:=[(.data p0),(.agg [(.int .i64 p1),(.int .i64 p2)])]) (x:=(.int .i64 r0)) (fun K' k'=>h (fun r0=>K' (.int .i64 r0)) k') (K:=fun x=>match x with | (.int .i64 r0)=>K r0 | _=>False) k,h K⟩
end Go.Pf.Vc
namespace Go.Pf.Vc
open Go Go.Pf
set_option maxRecDepth 100000
abbrev yas:Type:=Int→Int→Int→Int→(Int→Prop)→Prop
def yma (a0:ygr) (p0 p1 p2 p3:Int) (K:Int→Prop):Prop :=
 (a0 p0 p1 p2 p3 (fun yi2 _ =>
 (K yi2)))
def yaf (p0 p1 p2 p3:Int) (K:Int→Prop):Prop:=yma ydU p0 p1 p2 p3 K
def yeZ (w:yas) (as:Ls) (K:PV→Prop):Prop :=
 match as with
 | [(.agg [(.int .i64 p0),(.int .i64 p1)]),(.agg [(.int .i64 p2),(.int .i64 p3)])]=>w p0 p1 p2 p3 (fun r0=>K (.int .i64 r0))
 | _=>False
def yp5 (as:Ls) (K:PV→Prop):Prop:=yeZ yaf as K
def yx5 (_:ygr):LP:=fun _ _ _ _ =>
 False
def yp6 (e:List (Nat×EffF)) (a0:ygr):SE:=⟨(E e),lookS [(ygj,yk2 a0)],lookI [],yx5 a0⟩
theorem ywH (e:List (Nat×EffF)) (he:EG e):SEOk (yp6 e ydU):=yai ⟨(yok e he),trivial⟩ trivial he.ok
theorem yx6 (e:List (Nat×EffF)) (a0 p0 p1 p2 p3 K):WP (yp6 e a0) 6 yy9 [(.agg [(.int .i64 p0),(.int .i64 p1)]),(.agg [(.int .i64 p2),(.int .i64 p3)])] K=yma a0 p0 p1 p2 p3 (fun r0=>K (.int .i64 r0)):=by kernel_rfl
theorem ygu (e:List (Nat×EffF)) (he:EG e):OkF (E e) yp5 yaD:=by
 intro as K h
 unfold yp5 yeZ at h
 split at h
 · exact WP_ok (ywH e he) (yah (by kernel_rfl)) (by kernel_rfl) (by kernel_rfl) (fun _=>yac (by kernel_rfl) _) (he.num _ (by kernel_rfl)) ((yx6 ..).mpr h)
 · exact h.elim
abbrev yaB:Type:=Int→(Int→Int→Prop)→Prop
def yp7 (p0:Int) (K:Int→Int→Prop):Prop :=
 (K p0 (1:Int))
def yap (p0:Int) (K:Int→Int→Prop):Prop:=yp7 p0 K
def ye0 (w:yaB) (as:Ls) (K:PV→Prop):Prop :=
 match as with
 | [(.int .i64 p0)]=>w p0 (fun r0 r1=>K (.agg [(.int .i64 r0),(.int .i64 r1)]))
 | _=>False
def yp8 (as:Ls) (K:PV→Prop):Prop:=ye0 yap as K
def yx7:LP:=fun _ _ _ _ =>
 False
def yp9 (e:List (Nat×EffF)):SE:=⟨(E e),lookS [],lookI [],yx7⟩
theorem ywI (e:List (Nat×EffF)) (he:EG e):SEOk (yp9 e):=yai trivial trivial he.ok
theorem yx8 (e:List (Nat×EffF)) ( p0 K):WP (yp9 e) 6 yza [(.int .i64 p0)] K=yp7 p0 (fun r0 r1=>K (.agg [(.int .i64 r0),(.int .i64 r1)])):=by kernel_rfl
theorem yiw (e:List (Nat×EffF)) (he:EG e):OkF (E e) yp8 yck:=by
 intro as K h
 unfold yp8 ye0 at h
 split at h
 · exact WP_ok (ywI e he) (yah (by kernel_rfl)) (by kernel_rfl) (by kernel_rfl) (fun _=>yac (by kernel_rfl) _) (he.num _ (by kernel_rfl)) ((yx8 ..).mpr h)
 · exact h.elim
abbrev ydK:Type:=Int→Int→Int→Int→Int→Int→Int→Int→Int→(Int→Int→Int→Int→Int→Int→Bool→Bool→Prop)→Prop
def ya1 (a0:yaA) (a1:yas) (a2:yaB) (x0:Ls→Int→Int→Int→Int→Int→Int→Int→Int→Int→Int→Int→Int→Int→Int→Int→Bool→Int→Int→Bool→Prop) (x1:Ls→Int→Int→Int→Int→Int→Int→Bool→Bool→Prop):Nat→Ls→Int→Int→Int→Int→Int→Int→Int→Int→Int→Int→Int→Int→Int→Int→Int→Bool→Int→Int→Prop
 | 0,_,_,_,_,_,_,_,_,_,_,_,_,_,_,_,_,_,_,_=>False
 | n+1,l0,i1,i2,i3,i4,i5,i6,i7,i8,i9,i10,i11,i12,i13,i14,i15,b16,i20,i21 =>
 (cbr (decide (i21<i20))
 (asr (decide ((0:Int)≤i21))
 (asr (decide (i21<(((List.length l0):Nat):Int)))
 (asr (decide ((List.length l0)=(List.length l0)))
 (asr (decide ((0+(i21.toNat))<(List.length l0)))
 (lt (List.getD l0 (0+(i21.toNat)) .nils) (fun yr7 =>
 (asr (conf (.agg [.i .i64,.i .i64]) yr7)
 (jn (fun (yj10:Bool→Prop) =>
 (a0 (intOfV (cellAt yr7 0)) (intOfV (cellAt yr7 1)) (fun yi12 =>
 (cbr (yi12 !=(0:Int))
 (yj10 true)
 (yj10 (decide ((intOfV (cellAt yr7 0))<(0:Int))))))))
 (fun yb9=>(cbr yb9
 (x1 l0 (0:Int) (0:Int) (0:Int) (0:Int) (0:Int) (0:Int) false false)
 (lt (IntKind.i64.wrap (i21+(1:Int))) (fun yi11 =>
 (asr (decide ((List.length l0)=List.length l0)&&decide ((List.length l0)=List.length l0)&&decide ((List.length l0)=List.length l0))
 (ya1 a0 a1 a2 x0 x1 n l0 i1 i2 i3 i4 i5 i6 i7 i8 i9 i10 i11 i12 i13 i14 i15 b16 i20 yi11))))))))))))))
 (x0 l0 i1 i2 i3 i4 i5 i6 i7 i8 i9 i10 i11 i12 i13 i14 i15 b16 i20 i21 false))
def yjL (a0:yaA) (a1:yas) (a2:yaB) (p0 p1 p2 p3 p4 p5 p6 p7 p8:Int) (K:Int→Int→Int→Int→Int→Int→Bool→Bool→Prop):Prop :=
 (asr (decide (3=List.length ([(.agg [(.int .i64 p3),(.int .i64 p4)]),(.agg [(.int .i64 p5),(.int .i64 p6)]),(.agg [(.int .i64 p7),(.int .i64 p8)])]:Ls))&&decide (3=List.length ([(.agg [(.int .i64 p3),(.int .i64 p4)]),(.agg [(.int .i64 p5),(.int .i64 p6)]),(.agg [(.int .i64 p7),(.int .i64 p8)])]:Ls))&&decide (3=List.length ([(.agg [(.int .i64 p3),(.int .i64 p4)]),(.agg [(.int .i64 p5),(.int .i64 p6)]),(.agg [(.int .i64 p7),(.int .i64 p8)])]:Ls)))
 (∃ n:Nat,ya1 a0 a1 a2
 (fun _ yi43 _ yi45 yi46 yi47 yi48 yi49 yi50 yi51 _ _ _ _ _ _ _ _ _ _=>(jn (fun (yj67:Int→Int→Int→Int→Bool→Prop) =>
 (cbr (yi45 ==(1:Int))
 (yj67 yi48 yi49 yi50 yi51 false)
 (cbr (yi45 ==(2:Int))
 (yj67 yi50 yi51 yi48 yi49 true)
 (K (0:Int) (0:Int) (0:Int) (0:Int) (0:Int) (0:Int) false false))))
 (fun yi62 yi63 yi64 yi65 yb66=>(jn (fun (yj73:Bool→Prop) =>
 (a1 yi46 yi47 yi62 yi63 (fun yi74 =>
 (cbr (decide (yi74≤(0:Int)))
 (a2 yi43 (fun yi75 yi76 =>
 (a1 yi62 yi63 yi75 yi76 (fun yi77 =>
 (yj73 (decide (yi77≤(0:Int))))))))
 (yj73 false)))))
 (fun yb72=>(K yi46 yi47 yi62 yi63 yi64 yi65 yb66 yb72))))))
 (fun _ yi79 yi80 yi81 yi82 yi83 yi84 yb85 yb86=>(K yi79 yi80 yi81 yi82 yi83 yi84 yb85 yb86))
 n ([(.agg [(.int .i64 p3),(.int .i64 p4)]),(.agg [(.int .i64 p5),(.int .i64 p6)]),(.agg [(.int .i64 p7),(.int .i64 p8)])]:Ls) p0 p1 p2 p3 p4 p5 p6 p7 p8 (0:Int) (0:Int) (0:Int) (0:Int) (0:Int) (0:Int) false (3:Int) (0:Int)))
def yaT (p0 p1 p2 p3 p4 p5 p6 p7 p8:Int) (K:Int→Int→Int→Int→Int→Int→Bool→Bool→Prop):Prop:=yjL yal yaf yap p0 p1 p2 p3 p4 p5 p6 p7 p8 K
def yjM (w:ydK) (as:Ls) (K:PV→Prop):Prop :=
 match as with
 | [(.int .i64 p0),(.agg [(.int .i64 p1),(.int .u8 p2),(.int .i64 p3),(.int .i64 p4),(.int .i64 p5),(.int .i64 p6),(.int .i64 p7),(.int .i64 p8)])]=>w p0 p1 p2 p3 p4 p5 p6 p7 p8 (fun r0 r1 r2 r3 r4 r5 r6 r7=>K (.tup [(.agg [(.int .i64 r0),(.int .i64 r1),(.int .i64 r2),(.int .i64 r3),(.int .i64 r4),(.int .i64 r5),(.bool r6)]),(.bool r7)]))
 | _=>False
def ynK (as:Ls) (K:PV→Prop):Prop:=yjM yaT as K
def ydy (F:Frm) (H:Hp) (A0:Ls→Int→Int→Int→Int→Int→Int→Int→Int→Int→Int→Int→Int→Int→Int→Int→Bool→Int→Int→Prop):Prop :=
 match F,H with
 | [(0,.v (.int .i64 i1)),(3,.box (.agg [(.int .i64 i2),(.int .u8 i3),(.int .i64 i4),(.int .i64 i5),(.int .i64 i6),(.int .i64 i7),(.int .i64 i8),(.int .i64 i9)])),(4,.box (.agg [(.int .i64 i10),(.int .i64 i11),(.int .i64 i12),(.int .i64 i13),(.int .i64 i14),(.int .i64 i15),(.bool b16)])),(15,.v (.own 0 0 t17 t18 (some t19))),(16,.v (.int .i64 i20)),(17,.v (.int .i64 i21))],[⟨false,true,2,l0⟩]=>asr (decide (t17=List.length l0)&&decide (t18=List.length l0)&&decide (t19=List.length l0)) (A0 l0 i1 i2 i3 i4 i5 i6 i7 i8 i9 i10 i11 i12 i13 i14 i15 b16 i20 i21)
 | _,_=>False
def yhb (Q:Ex→Frm→Hp→Prop):Ls→Int→Int→Int→Int→Int→Int→Int→Int→Int→Int→Int→Int→Int→Int→Int→Bool→Int→Int→Bool→Prop:=(fun l0 i1 i2 i3 i4 i5 i6 i7 i8 i9 i10 i11 i12 i13 i14 i15 b16 i20 i21 b22=>Q (.exit 0) [(0,.v (.int .i64 i1)),(3,.box (.agg [(.int .i64 i2),(.int .u8 i3),(.int .i64 i4),(.int .i64 i5),(.int .i64 i6),(.int .i64 i7),(.int .i64 i8),(.int .i64 i9)])),(4,.box (.agg [(.int .i64 i10),(.int .i64 i11),(.int .i64 i12),(.int .i64 i13),(.int .i64 i14),(.int .i64 i15),(.bool b16)])),(15,.v (.own 0 0 (List.length l0) (List.length l0) (some (List.length l0)))),(16,.v (.int .i64 i20)),(17,.v (.int .i64 i21)),(18,.v (.bool b22))] [⟨false,true,2,l0⟩])
def yhc (Q:Ex→Frm→Hp→Prop):Ls→Int→Int→Int→Int→Int→Int→Bool→Bool→Prop:=(fun l0 i1 i2 i3 i4 i5 i6 b7 b8=>Q .ret [(4,.box (.agg [(.int .i64 i1),(.int .i64 i2),(.int .i64 i3),(.int .i64 i4),(.int .i64 i5),(.int .i64 i6),(.bool b7)])),(5,.v (.bool b8))] [⟨false,true,2,l0⟩])
def yf5 (a0:yaA) (a1:yas) (a2:yaB) (Q:Ex→Frm→Hp→Prop) (n:Nat) (F:Frm) (H:Hp):Prop:=ydy F H (fun l0 i1 i2 i3 i4 i5 i6 i7 i8 i9 i10 i11 i12 i13 i14 i15 b16 i20 i21=>ya1 a0 a1 a2 (yhb Q) (yhc Q) n l0 i1 i2 i3 i4 i5 i6 i7 i8 i9 i10 i11 i12 i13 i14 i15 b16 i20 i21)
def ygP (a0:yaA) (a1:yas) (a2:yaB):LP:=fun id F H Q =>
 bif Nat.beq id 42727200 then ydy F H (fun l0 i1 i2 i3 i4 i5 i6 i7 i8 i9 i10 i11 i12 i13 i14 i15 b16 i20 i21=>∃ n:Nat,ya1 a0 a1 a2 (yhb Q) (yhc Q) n l0 i1 i2 i3 i4 i5 i6 i7 i8 i9 i10 i11 i12 i13 i14 i15 b16 i20 i21) else
 False
def yjN (e:List (Nat×EffF)) (a0:yaA) (a1:yas) (a2:yaB):SE:=⟨(E e),lookS [(yaZ,ydm a0),(yaD,yeZ a1),(yck,ye0 a2)],lookI [],ygP a0 a1 a2⟩
theorem ymJ (e:List (Nat×EffF)) (he:EG e):SEOk (yjN e yal yaf yap):=yai ⟨(yd6 e he),(ygu e he),(yiw e he),trivial⟩ trivial he.ok
theorem yox (e:List (Nat×EffF)) (a0 a1 a2 Q n l0 i1 i2 i3 i4 i5 i6 i7 i8 i9 i10 i11 i12 i13 i14 i15 b16 i20 i21):WC (E e) (callW (yjN e a0 a1 a2) 5) (ygP a0 a1 a2) ylD [(0,.v (.int .i64 i1)),(3,.box (.agg [(.int .i64 i2),(.int .u8 i3),(.int .i64 i4),(.int .i64 i5),(.int .i64 i6),(.int .i64 i7),(.int .i64 i8),(.int .i64 i9)])),(4,.box (.agg [(.int .i64 i10),(.int .i64 i11),(.int .i64 i12),(.int .i64 i13),(.int .i64 i14),(.int .i64 i15),(.bool b16)])),(15,.v (.own 0 0 (List.length l0) (List.length l0) (some (List.length l0)))),(16,.v (.int .i64 i20)),(17,.v (.int .i64 i21))] [⟨false,true,2,l0⟩] (fun x F' H'=>match x with | .norm=>yf5 a0 a1 a2 Q n F' H' | .exit i=>Q (.exit i) F' H' | .ret=>Q .ret F' H')=ya1 a0 a1 a2 (yhb Q) (yhc Q) (n+1) l0 i1 i2 i3 i4 i5 i6 i7 i8 i9 i10 i11 i12 i13 i14 i15 b16 i20 i21:=by kernel_rfl
theorem yro (e:List (Nat×EffF)) (_:EG e):LpOk (E e) (ygP yal yaf yap) ylD:=(yah (by kernel_rfl))
theorem yqa (e:List (Nat×EffF)) (he:EG e):∀ F H Q,ygP yal yaf yap 42727200 F H Q→LoopT (E e) ylD F H Q:=by
 intro F H Q h
 have go:=LoopT.intro (yaF (ymJ e he) 5) (yro e he) (yf5 yal yaf yap Q) (by
   intro F H h
   unfold yf5 ydy at h
   split at h
   · obtain ⟨hg,k⟩:=yad.1 h
     clear h
     have h:=k
     clear k
     try simp only [Bool.and_eq_true,decide_eq_true_eq] at hg
     obtain ⟨⟨g0,g1⟩,g2⟩:=hg;subst g0;subst g1;subst g2;exact h
   · exact h) (by
   intro n F H h
   unfold yf5 ydy at h
   split at h
   · obtain ⟨hg,k⟩:=yad.1 h
     clear h
     have h:=k
     clear k
     try simp only [Bool.and_eq_true,decide_eq_true_eq] at hg
     obtain ⟨⟨g0,g1⟩,g2⟩:=hg;subst g0;subst g1;subst g2;exact (yox ..).mpr h
   · exact h.elim)
 have h:ydy F H _:=h
 unfold ydy at h
 split at h
 · obtain ⟨hg,n,h⟩:=yad.1 h;exact go n _ _ (yad.2 ⟨hg,h⟩)
 · exact h.elim
theorem yvq (e:List (Nat×EffF)) (a0 a1 a2 p0 p1 p2 p3 p4 p5 p6 p7 p8 K):WP (yjN e a0 a1 a2) 6 ywu [(.int .i64 p0),(.agg [(.int .i64 p1),(.int .u8 p2),(.int .i64 p3),(.int .i64 p4),(.int .i64 p5),(.int .i64 p6),(.int .i64 p7),(.int .i64 p8)])] K=yjL a0 a1 a2 p0 p1 p2 p3 p4 p5 p6 p7 p8 (fun r0 r1 r2 r3 r4 r5 r6 r7=>K (.tup [(.agg [(.int .i64 r0),(.int .i64 r1),(.int .i64 r2),(.int .i64 r3),(.int .i64 r4),(.int .i64 r5),(.bool r6)]),(.bool r7)])):=by kernel_rfl
theorem ynL (e:List (Nat×EffF)) (he:EG e):OkF (E e) ynK yfA:=by
 intro as K h
 unfold ynK yjM at h
 split at h
 · exact WP_ok (ymJ e he) (ybe (l:=[(42727200,ylD)]) ⟨yqa e he,trivial⟩ (by kernel_rfl)) (by kernel_rfl) (by kernel_rfl) (fun _=>yac (by kernel_rfl) _) (he.num _ (by kernel_rfl)) ((yvq ..).mpr h)
 · exact h.elim
abbrev yav:Type:=Int→Ls→(Ls→Int→Prop)→Prop
mutual
def yc5 (a0:ydK) (x0:Int→Ls→Int→Int→Bool→Prop) (x1:Int→Prop) (x2:Ls→Int→Ls→Int→Int→Bool→Prop) (x3:Ls→Int→Prop):Nat→Int→Ls→Int→Int→Prop
 | 0,_,_,_,_=>False
 | n+1,i0,l1,i2,i3 =>
 (cbr (decide (i3<i2))
 (asr (decide ((0:Int)≤i3))
 (asr (decide (i3<(((List.length l1):Nat):Int)))
 (lt (List.getD l1 (i3.toNat) .nils) (fun yr23 =>
 (asr (conf (.agg [.i .i64,.i .u8,.i .i64,.i .i64,.i .i64,.i .i64,.i .i64,.i .i64]) yr23)
 (a0 i0 (intOfV (cellAt yr23 0)) (intOfV (cellAt yr23 1)) (intOfV (cellAt yr23 2)) (intOfV (cellAt yr23 3)) (intOfV (cellAt yr23 4)) (intOfV (cellAt yr23 5)) (intOfV (cellAt yr23 6)) (intOfV (cellAt yr23 7)) (fun yi32 yi33 yi34 yi35 yi36 yi37 yb38 yb39 =>
 (cbr (!yb39)
 (x1 (8:Int))
 (lt (IntKind.i64.wrap (i3+(1:Int))) (fun yi40 =>
 (asr (decide (1=List.length ([(.agg [(.int .i64 yi32),(.int .i64 yi33),(.int .i64 yi34),(.int .i64 yi35),(.int .i64 yi36),(.int .i64 yi37),(.bool yb38)])]:Ls))&&decide (1=List.length ([(.agg [(.int .i64 yi32),(.int .i64 yi33),(.int .i64 yi34),(.int .i64 yi35),(.int .i64 yi36),(.int .i64 yi37),(.bool yb38)])]:Ls)))
 (ybH a0 x0 x1 x2 x3 n ([(.agg [(.int .i64 yi32),(.int .i64 yi33),(.int .i64 yi34),(.int .i64 yi35),(.int .i64 yi36),(.int .i64 yi37),(.bool yb38)])]:Ls) i0 l1 i2 yi40))))))))))))
 (x0 i0 l1 i2 i3 false))
def ybH (a0:ydK) (x0:Int→Ls→Int→Int→Bool→Prop) (x1:Int→Prop) (x2:Ls→Int→Ls→Int→Int→Bool→Prop) (x3:Ls→Int→Prop):Nat→Ls→Int→Ls→Int→Int→Prop
 | 0,_,_,_,_,_=>False
 | n+1,l0,i1,l4,i5,i6 =>
 (cbr (decide (i6<i5))
 (asr (decide ((0:Int)≤i6))
 (asr (decide (i6<(((List.length l4):Nat):Int)))
 (lt (List.getD l4 (i6.toNat) .nils) (fun yr60 =>
 (asr (conf (.agg [.i .i64,.i .u8,.i .i64,.i .i64,.i .i64,.i .i64,.i .i64,.i .i64]) yr60)
 (a0 i1 (intOfV (cellAt yr60 0)) (intOfV (cellAt yr60 1)) (intOfV (cellAt yr60 2)) (intOfV (cellAt yr60 3)) (intOfV (cellAt yr60 4)) (intOfV (cellAt yr60 5)) (intOfV (cellAt yr60 6)) (intOfV (cellAt yr60 7)) (fun yi69 yi70 yi71 yi72 yi73 yi74 yb75 yb76 =>
 (cbr (!yb76)
 (x3 l0 (8:Int))
 (asr (decide ((List.length l0)=(List.length l0)))
 (asr (decide ((0+(List.length l0))≤(List.length l0)))
 (asr (!(decide (((0+(List.length l0))+1)≤(List.length l0))))
 (asr (decide ((List.length l0)=(List.length l0)))
 (asr (decide ((((List.length l0)+1)+64)*(56+1)≤room))
 (lt (IntKind.i64.wrap (i6+(1:Int))) (fun yi77 =>
 (asr (decide ((List.length (l0++([(.agg [(.int .i64 yi69),(.int .i64 yi70),(.int .i64 yi71),(.int .i64 yi72),(.int .i64 yi73),(.int .i64 yi74),(.bool yb75)])]:Ls)))=List.length (l0++([(.agg [(.int .i64 yi69),(.int .i64 yi70),(.int .i64 yi71),(.int .i64 yi72),(.int .i64 yi73),(.int .i64 yi74),(.bool yb75)])]:Ls)))&&decide ((List.length (l0++([(.agg [(.int .i64 yi69),(.int .i64 yi70),(.int .i64 yi71),(.int .i64 yi72),(.int .i64 yi73),(.int .i64 yi74),(.bool yb75)])]:Ls)))=List.length (l0++([(.agg [(.int .i64 yi69),(.int .i64 yi70),(.int .i64 yi71),(.int .i64 yi72),(.int .i64 yi73),(.int .i64 yi74),(.bool yb75)])]:Ls))))
 (ybH a0 x0 x1 x2 x3 n (l0++([(.agg [(.int .i64 yi69),(.int .i64 yi70),(.int .i64 yi71),(.int .i64 yi72),(.int .i64 yi73),(.int .i64 yi74),(.bool yb75)])]:Ls)) i1 l4 i5 yi77)))))))))))))))))
 (x2 l0 i1 l4 i5 i6 false))
end
def ykK (a0:ydK) (p0:Int) (p1:Ls) (K:Ls→Int→Prop):Prop :=
 (jn (fun (yj3:Bool→Prop) =>
 (cbr (decide (p0<(1:Int)))
 (yj3 true)
 (yj3 (decide (p0>(1000:Int))))))
 (fun yb2=>(cbr yb2
 (K ([]:Ls) (2:Int))
 (cbr (decide ((((List.length p1):Nat):Int)>(40:Int)))
 (K ([]:Ls) (4:Int))
 (∃ n:Nat,yc5 a0
 (fun _ _ _ _ _=>(K ([]:Ls) (0:Int)))
 (fun yi97=>(K ([]:Ls) yi97))
 (fun yl98 _ _ _ _ _=>(asr (decide ((List.length yl98)=(List.length yl98)))
 (asr (decide ((0+(List.length yl98))≤(List.length yl98)))
 (K (List.take (List.length yl98) yl98) (0:Int)))))
 (fun _ yi105=>(K ([]:Ls) yi105))
 n p0 p1 (((List.length p1):Nat):Int) (0:Int))))))
def yaw (p0:Int) (p1:Ls) (K:Ls→Int→Prop):Prop:=ykK yaT p0 p1 K
def yfE (w:yav) (as:Ls) (K:PV→Prop):Prop :=
 match as with
 | [(.int .i64 p0),(.data p1)]=>w p0 p1 (fun r0 r1=>K (.tup [(.data r0),(.int .i64 r1)]))
 | _=>False
def ypq (as:Ls) (K:PV→Prop):Prop:=yfE yaw as K
def yd0 (F:Frm) (H:Hp) (A0:Int→Ls→Int→Int→Prop) (A1:Ls→Int→Ls→Int→Int→Prop):Prop :=
 match F,H with
 | [(0,.v (.int .i64 i0)),(6,.v .nils),(20,.v (.data l1)),(21,.v (.int .i64 i2)),(22,.v (.int .i64 i3))],[]=>(A0 i0 l1 i2 i3)
 | [(0,.v (.int .i64 i1)),(6,.v (.own 0 0 t2 t3 none)),(20,.v (.data l4)),(21,.v (.int .i64 i5)),(22,.v (.int .i64 i6))],[⟨false,true,7,l0⟩]=>asr (decide (t2=List.length l0)&&decide (t3=List.length l0)) (A1 l0 i1 l4 i5 i6)
 | _,_=>False
def yc6 (Q:Ex→Frm→Hp→Prop):Int→Ls→Int→Int→Bool→Prop:=(fun i0 l1 i2 i3 b4=>Q (.exit 0) [(0,.v (.int .i64 i0)),(6,.v .nils),(20,.v (.data l1)),(21,.v (.int .i64 i2)),(22,.v (.int .i64 i3)),(23,.v (.bool b4))] [])
def yc7 (Q:Ex→Frm→Hp→Prop):Int→Prop:=(fun i0=>Q .ret [(4,.v .nils),(5,.v (.int .i64 i0))] [])
def yc8 (Q:Ex→Frm→Hp→Prop):Ls→Int→Ls→Int→Int→Bool→Prop:=(fun l0 i1 l4 i5 i6 b7=>Q (.exit 0) [(0,.v (.int .i64 i1)),(6,.v (.own 0 0 (List.length l0) (List.length l0) none)),(20,.v (.data l4)),(21,.v (.int .i64 i5)),(22,.v (.int .i64 i6)),(23,.v (.bool b7))] [⟨false,true,7,l0⟩])
def yc9 (Q:Ex→Frm→Hp→Prop):Ls→Int→Prop:=(fun l0 i1=>Q .ret [(4,.v .nils),(5,.v (.int .i64 i1))] [⟨false,true,7,l0⟩])
def ye1 (a0:ydK) (Q:Ex→Frm→Hp→Prop) (n:Nat) (F:Frm) (H:Hp):Prop:=yd0 F H (fun i0 l1 i2 i3=>yc5 a0 (yc6 Q) (yc7 Q) (yc8 Q) (yc9 Q) n i0 l1 i2 i3) (fun l0 i1 l4 i5 i6=>ybH a0 (yc6 Q) (yc7 Q) (yc8 Q) (yc9 Q) n l0 i1 l4 i5 i6)
def yfF (a0:ydK):LP:=fun id F H Q =>
 bif Nat.beq id 52235000 then yd0 F H (fun i0 l1 i2 i3=>∃ n:Nat,yc5 a0 (yc6 Q) (yc7 Q) (yc8 Q) (yc9 Q) n i0 l1 i2 i3) (fun l0 i1 l4 i5 i6=>∃ n:Nat,ybH a0 (yc6 Q) (yc7 Q) (yc8 Q) (yc9 Q) n l0 i1 l4 i5 i6) else
 False
def yhw (e:List (Nat×EffF)) (a0:ydK):SE:=⟨(E e),lookS [(yfA,yjM a0)],lookI [],yfF a0⟩
theorem ynM (e:List (Nat×EffF)) (he:EG e):SEOk (yhw e yaT):=yai ⟨(ynL e he),trivial⟩ trivial he.ok
theorem ypC (e:List (Nat×EffF)) (a0 Q n i0 l1 i2 i3):WC (E e) (callW (yhw e a0) 5) (yfF a0) yjm [(0,.v (.int .i64 i0)),(6,.v .nils),(20,.v (.data l1)),(21,.v (.int .i64 i2)),(22,.v (.int .i64 i3))] [] (fun x F' H'=>match x with | .norm=>ye1 a0 Q n F' H' | .exit i=>Q (.exit i) F' H' | .ret=>Q .ret F' H')=yc5 a0 (yc6 Q) (yc7 Q) (yc8 Q) (yc9 Q) (n+1) i0 l1 i2 i3:=by kernel_rfl
theorem ypD (e:List (Nat×EffF)) (a0 Q n l0 i1 l4 i5 i6):WC (E e) (callW (yhw e a0) 5) (yfF a0) yjm [(0,.v (.int .i64 i1)),(6,.v (.own 0 0 (List.length l0) (List.length l0) none)),(20,.v (.data l4)),(21,.v (.int .i64 i5)),(22,.v (.int .i64 i6))] [⟨false,true,7,l0⟩] (fun x F' H'=>match x with | .norm=>ye1 a0 Q n F' H' | .exit i=>Q (.exit i) F' H' | .ret=>Q .ret F' H')=ybH a0 (yc6 Q) (yc7 Q) (yc8 Q) (yc9 Q) (n+1) l0 i1 l4 i5 i6:=by kernel_rfl
theorem ysG (e:List (Nat×EffF)) (_:EG e):LpOk (E e) (yfF yaT) yjm:=(yah (by kernel_rfl))
theorem yrp (e:List (Nat×EffF)) (he:EG e):∀ F H Q,yfF yaT 52235000 F H Q→LoopT (E e) yjm F H Q:=by
 intro F H Q h
 have go:=LoopT.intro (yaF (ynM e he) 5) (ysG e he) (ye1 yaT Q) (by
   intro F H h
   unfold ye1 yd0 at h
   split at h
   · exact h
   · obtain ⟨hg,k⟩:=yad.1 h
     clear h
     have h:=k
     clear k
     try simp only [Bool.and_eq_true,decide_eq_true_eq] at hg
     obtain ⟨g0,g1⟩:=hg;subst g0;subst g1;exact h
   · exact h) (by
   intro n F H h
   unfold ye1 yd0 at h
   split at h
   · exact (ypC ..).mpr h
   · obtain ⟨hg,k⟩:=yad.1 h
     clear h
     have h:=k
     clear k
     try simp only [Bool.and_eq_true,decide_eq_true_eq] at hg
     obtain ⟨g0,g1⟩:=hg;subst g0;subst g1;exact (ypD ..).mpr h
   · exact h.elim)
 have h:yd0 F H _ _:=h
 unfold yd0 at h
 split at h
 · obtain ⟨n,h⟩:=h;exact go n _ _ h
 · obtain ⟨hg,n,h⟩:=yad.1 h;exact go n _ _ (yad.2 ⟨hg,h⟩)
 · exact h.elim
theorem ywJ (e:List (Nat×EffF)) (a0 p0 p1 K):WP (yhw e a0) 6 yxH [(.int .i64 p0),(.data p1)] K=ykK a0 p0 p1 (fun r0 r1=>K (.tup [(.data r0),(.int .i64 r1)])):=by kernel_rfl
theorem yhx (e:List (Nat×EffF)) (he:EG e):OkF (E e) ypq ycM:=by
 intro as K h
 unfold ypq yfE at h
 split at h
 · exact WP_ok (ynM e he) (ybe (l:=[(52235000,yjm)]) ⟨yrp e he,trivial⟩ (by kernel_rfl)) (by kernel_rfl) (by kernel_rfl) (fun _=>yac (by kernel_rfl) _) (he.num _ (by kernel_rfl)) ((ywJ ..).mpr h)
 · exact h.elim
abbrev ybi:Type:=Ls→(Int→Int→Prop)→Prop
def ycO (x49126300_0:Ls→Int→Int→Int→Int→Int→Int→Int→Bool→Int→Int→Ls→Int→Int→Bool→Prop):Nat→Ls→Int→Int→Int→Int→Int→Int→Int→Bool→Int→Int→Ls→Int→Int→Prop
 | 0,_,_,_,_,_,_,_,_,_,_,_,_,_,_=>False
 | n49126300+1,l0,i1,i2,i3,i4,i5,i6,i7,b8,i9,i10,l11,i12,i13 =>
 (cbr (decide (i10>(0:Int)))
 (asr (!(decide (i10=(0:Int))))
 (lt (Int.tmod i9 i10) (fun yi2 =>
 (ycO x49126300_0 n49126300 l0 i1 i2 i3 i4 i5 i6 i7 b8 i10 yi2 l11 i12 i13))))
 (x49126300_0 l0 i1 i2 i3 i4 i5 i6 i7 b8 i9 i10 l11 i12 i13 false))
def ycc (x49126302_0:Int→Ls→Int→Int→Bool→Prop) (x49126302_1:Int→Int→Prop):Nat→Int→Ls→Int→Int→Prop
 | 0,_,_,_,_=>False
 | n49126302+1,i0,l1,i2,i3 =>
 (cbr (decide (i3<i2))
 (asr (decide ((0:Int)≤i3))
 (asr (decide (i3<(((List.length l1):Nat):Int)))
 (lt (List.getD l1 (i3.toNat) .nils) (fun yr101 =>
 (asr (conf (.agg [.i .i64,.i .i64,.i .i64,.i .i64,.i .i64,.i .i64,.b]) yr101)
 (asr (!(decide ((intOfV (cellAt yr101 5))=(0:Int))))
 (lt (IntKind.i64.wrap (Int.tdiv i0 (intOfV (cellAt yr101 5)))) (fun yi104 =>
 (asr (!(decide (yi104=(0:Int))))
 (lt (IntKind.i64.wrap (Int.tdiv (1000000000000:Int) yi104)) (fun yi105 =>
 (cbr (decide ((intOfV (cellAt yr101 4))>yi105))
 (x49126302_1 (0:Int) (16:Int))
 (lt (IntKind.i64.wrap (i3+(1:Int))) (fun yi106 =>
 (ycc x49126302_0 x49126302_1 n49126302 i0 l1 i2 yi106)))))))))))))))
 (x49126302_0 i0 l1 i2 i3 false))
def ycd (x49126301_0:Ls→Int→Ls→Int→Int→Bool→Prop) (x49126301_1:Int→Int→Prop):Nat→Ls→Int→Ls→Int→Int→Prop
 | 0,_,_,_,_,_=>False
 | n49126301+1,l0,i1,l2,i3,i4 =>
 (cbr (decide (i4<i3))
 (asr (decide ((0:Int)≤i4))
 (asr (decide (i4<(((List.length l2):Nat):Int)))
 (lt (List.getD l2 (i4.toNat) .nils) (fun yr41 =>
 (asr (conf (.agg [.i .i64,.i .i64,.i .i64,.i .i64,.i .i64,.i .i64,.b]) yr41)
 (∃ n49126300:Nat,ycO
 (fun yl57 yi58 _ _ _ _ _ yi64 _ yi66 _ yl68 yi69 yi70 _=>(asr (!(decide (yi66=(0:Int))))
 (lt (IntKind.i64.wrap (Int.tdiv yi64 yi66)) (fun yi73 =>
 (asr (!(decide (yi58=(0:Int))))
 (lt (IntKind.i64.wrap (Int.tdiv (1000000000:Int) yi58)) (fun yi77 =>
 (cbr (decide (yi73>yi77))
 (x49126301_1 (0:Int) (16:Int))
 (lt (IntKind.i64.wrap (yi58*yi73)) (fun yi78 =>
 (lt (IntKind.i64.wrap (yi70+(1:Int))) (fun yi79 =>
 (ycd x49126301_0 x49126301_1 n49126301 yl57 yi78 yl68 yi69 yi79)))))))))))))
 n49126300 l0 i1 (intOfV (cellAt yr41 0)) (intOfV (cellAt yr41 1)) (intOfV (cellAt yr41 2)) (intOfV (cellAt yr41 3)) (intOfV (cellAt yr41 4)) (intOfV (cellAt yr41 5)) (boolOfV (cellAt yr41 6)) i1 (intOfV (cellAt yr41 5)) l2 i3 i4))))))
 (x49126301_0 l0 i1 l2 i3 i4 false))
def ymb (p0:Ls) (K:Int→Int→Prop):Prop :=
 (∃ n49126301:Nat,ycd
 (fun yl88 yi89 _ _ _ _=>(∃ n49126302:Nat,ycc
 (fun yi114 _ _ _ _=>(K yi114 (0:Int)))
 (fun yi119 yi120=>(K yi119 yi120))
 n49126302 yi89 yl88 (((List.length yl88):Nat):Int) (0:Int)))
 (fun yi121 yi122=>(K yi121 yi122))
 n49126301 p0 (1:Int) p0 (((List.length p0):Nat):Int) (0:Int))
def ya2 (p0:Ls) (K:Int→Int→Prop):Prop:=ymb p0 K
def yix (w:ybi) (as:Ls) (K:PV→Prop):Prop :=
 match as with
 | [(.data p0)]=>w p0 (fun r0 r1=>K (.tup [(.int .i64 r0),(.int .i64 r1)]))
 | _=>False
def yqb (as:Ls) (K:PV→Prop):Prop:=yix ya2 as K
def yen (F:Frm) (H:Hp) (A0:Ls→Int→Int→Int→Int→Int→Int→Int→Bool→Int→Int→Ls→Int→Int→Prop):Prop :=
 match F,H with
 | [(0,.v (.data l0)),(4,.v (.int .i64 i1)),(6,.box (.agg [(.int .i64 i2),(.int .i64 i3),(.int .i64 i4),(.int .i64 i5),(.int .i64 i6),(.int .i64 i7),(.bool b8)])),(7,.v (.int .i64 i9)),(8,.v (.int .i64 i10)),(12,.v (.data l11)),(13,.v (.int .i64 i12)),(14,.v (.int .i64 i13))],[]=>(A0 l0 i1 i2 i3 i4 i5 i6 i7 b8 i9 i10 l11 i12 i13)
 | _,_=>False
def yeo (F:Frm) (H:Hp) (A0:Int→Ls→Int→Int→Prop):Prop :=
 match F,H with
 | [(4,.v (.int .i64 i0)),(41,.v (.data l1)),(42,.v (.int .i64 i2)),(43,.v (.int .i64 i3))],[]=>(A0 i0 l1 i2 i3)
 | _,_=>False
def yep (F:Frm) (H:Hp) (A0:Ls→Int→Ls→Int→Int→Prop):Prop :=
 match F,H with
 | [(0,.v (.data l0)),(4,.v (.int .i64 i1)),(12,.v (.data l2)),(13,.v (.int .i64 i3)),(14,.v (.int .i64 i4))],[]=>(A0 l0 i1 l2 i3 i4)
 | _,_=>False
def yiy (Q:Ex→Frm→Hp→Prop):Ls→Int→Int→Int→Int→Int→Int→Int→Bool→Int→Int→Ls→Int→Int→Bool→Prop:=(fun l0 i1 i2 i3 i4 i5 i6 i7 b8 i9 i10 l11 i12 i13 b14=>Q (.exit 2) [(0,.v (.data l0)),(4,.v (.int .i64 i1)),(6,.box (.agg [(.int .i64 i2),(.int .i64 i3),(.int .i64 i4),(.int .i64 i5),(.int .i64 i6),(.int .i64 i7),(.bool b8)])),(7,.v (.int .i64 i9)),(8,.v (.int .i64 i10)),(12,.v (.data l11)),(13,.v (.int .i64 i12)),(14,.v (.int .i64 i13)),(23,.v (.bool b14))] [])
def yiz (Q:Ex→Frm→Hp→Prop):Int→Ls→Int→Int→Bool→Prop:=(fun i0 l1 i2 i3 b4=>Q (.exit 4) [(4,.v (.int .i64 i0)),(41,.v (.data l1)),(42,.v (.int .i64 i2)),(43,.v (.int .i64 i3)),(44,.v (.bool b4))] [])
def yiA (Q:Ex→Frm→Hp→Prop):Int→Int→Prop:=(fun i0 i1=>Q .ret [(2,.v (.int .i64 i0)),(3,.v (.int .i64 i1))] [])
def yiB (Q:Ex→Frm→Hp→Prop):Ls→Int→Ls→Int→Int→Bool→Prop:=(fun l0 i1 l2 i3 i4 b5=>Q (.exit 0) [(0,.v (.data l0)),(4,.v (.int .i64 i1)),(12,.v (.data l2)),(13,.v (.int .i64 i3)),(14,.v (.int .i64 i4)),(15,.v (.bool b5))] [])
def yiC (Q:Ex→Frm→Hp→Prop):Int→Int→Prop:=(fun i0 i1=>Q .ret [(2,.v (.int .i64 i0)),(3,.v (.int .i64 i1))] [])
def yhy (Q:Ex→Frm→Hp→Prop) (n:Nat) (F:Frm) (H:Hp):Prop:=yen F H (fun l0 i1 i2 i3 i4 i5 i6 i7 b8 i9 i10 l11 i12 i13=>ycO (yiy Q) n l0 i1 i2 i3 i4 i5 i6 i7 b8 i9 i10 l11 i12 i13)
def yhz (Q:Ex→Frm→Hp→Prop) (n:Nat) (F:Frm) (H:Hp):Prop:=yeo F H (fun i0 l1 i2 i3=>ycc (yiz Q) (yiA Q) n i0 l1 i2 i3)
def yhA (Q:Ex→Frm→Hp→Prop) (n:Nat) (F:Frm) (H:Hp):Prop:=yep F H (fun l0 i1 l2 i3 i4=>ycd (yiB Q) (yiC Q) n l0 i1 l2 i3 i4)
def ycm:LP:=fun id F H Q =>
 bif Nat.beq id 49126300 then yen F H (fun l0 i1 i2 i3 i4 i5 i6 i7 b8 i9 i10 l11 i12 i13=>∃ n:Nat,ycO (yiy Q) n l0 i1 i2 i3 i4 i5 i6 i7 b8 i9 i10 l11 i12 i13) else
 bif Nat.beq id 49126302 then yeo F H (fun i0 l1 i2 i3=>∃ n:Nat,ycc (yiz Q) (yiA Q) n i0 l1 i2 i3) else
 bif Nat.beq id 49126301 then yep F H (fun l0 i1 l2 i3 i4=>∃ n:Nat,ycd (yiB Q) (yiC Q) n l0 i1 l2 i3 i4) else
 False
def ygv (e:List (Nat×EffF)):SE:=⟨(E e),lookS [],lookI [],ycm⟩
theorem yhB (e:List (Nat×EffF)) (he:EG e):SEOk (ygv e):=yai trivial trivial he.ok
theorem yqc (e:List (Nat×EffF)) ( Q n l0 i1 i2 i3 i4 i5 i6 i7 b8 i9 i10 l11 i12 i13):WC (E e) (callW (ygv e) 5) (ycm) yjn [(0,.v (.data l0)),(4,.v (.int .i64 i1)),(6,.box (.agg [(.int .i64 i2),(.int .i64 i3),(.int .i64 i4),(.int .i64 i5),(.int .i64 i6),(.int .i64 i7),(.bool b8)])),(7,.v (.int .i64 i9)),(8,.v (.int .i64 i10)),(12,.v (.data l11)),(13,.v (.int .i64 i12)),(14,.v (.int .i64 i13))] [] (fun x F' H'=>match x with | .norm=>yhy Q n F' H' | .exit i=>Q (.exit i) F' H' | .ret=>Q .ret F' H')=ycO (yiy Q) (n+1) l0 i1 i2 i3 i4 i5 i6 i7 b8 i9 i10 l11 i12 i13:=by kernel_rfl
theorem ytR (e:List (Nat×EffF)) (_:EG e):LpOk (E e) (ycm) yjn:=(yah (by kernel_rfl))
theorem ymc (e:List (Nat×EffF)) (he:EG e):∀ F H Q,ycm 49126300 F H Q→LoopT (E e) yjn F H Q:=by
 intro F H Q h
 have go:=LoopT.intro (yaF (yhB e he) 5) (ytR e he) (yhy Q) (by
   intro F H h
   unfold yhy yen at h
   split at h
   · exact h
   · exact h) (by
   intro n F H h
   unfold yhy yen at h
   split at h
   · exact (yqc ..).mpr h
   · exact h.elim)
 have h:yen F H _:=h
 unfold yen at h
 split at h
 · obtain ⟨n,h⟩:=h;exact go n _ _ h
 · exact h.elim
theorem yqd (e:List (Nat×EffF)) ( Q n i0 l1 i2 i3):WC (E e) (callW (ygv e) 5) (ycm) ylF [(4,.v (.int .i64 i0)),(41,.v (.data l1)),(42,.v (.int .i64 i2)),(43,.v (.int .i64 i3))] [] (fun x F' H'=>match x with | .norm=>yhz Q n F' H' | .exit i=>Q (.exit i) F' H' | .ret=>Q .ret F' H')=ycc (yiz Q) (yiA Q) (n+1) i0 l1 i2 i3:=by kernel_rfl
theorem ytS (e:List (Nat×EffF)) (_:EG e):LpOk (E e) (ycm) ylF:=(yah (by kernel_rfl))
theorem ysH (e:List (Nat×EffF)) (he:EG e):∀ F H Q,ycm 49126302 F H Q→LoopT (E e) ylF F H Q:=by
 intro F H Q h
 have go:=LoopT.intro (yaF (yhB e he) 5) (ytS e he) (yhz Q) (by
   intro F H h
   unfold yhz yeo at h
   split at h
   · exact h
   · exact h) (by
   intro n F H h
   unfold yhz yeo at h
   split at h
   · exact (yqd ..).mpr h
   · exact h.elim)
 have h:yeo F H _:=h
 unfold yeo at h
 split at h
 · obtain ⟨n,h⟩:=h;exact go n _ _ h
 · exact h.elim
theorem yqe (e:List (Nat×EffF)) ( Q n l0 i1 l2 i3 i4):WC (E e) (callW (ygv e) 5) (ycm) ylE [(0,.v (.data l0)),(4,.v (.int .i64 i1)),(12,.v (.data l2)),(13,.v (.int .i64 i3)),(14,.v (.int .i64 i4))] [] (fun x F' H'=>match x with | .norm=>yhA Q n F' H' | .exit i=>Q (.exit i) F' H' | .ret=>Q .ret F' H')=ycd (yiB Q) (yiC Q) (n+1) l0 i1 l2 i3 i4:=by kernel_rfl
theorem ytT (e:List (Nat×EffF)) (he:EG e):LpOk (E e) (ycm) ylE:=(ybe (l:=[(49126300,yjn)]) ⟨ymc e he,trivial⟩ (by kernel_rfl))
theorem ysI (e:List (Nat×EffF)) (he:EG e):∀ F H Q,ycm 49126301 F H Q→LoopT (E e) ylE F H Q:=by
 intro F H Q h
 have go:=LoopT.intro (yaF (yhB e he) 5) (ytT e he) (yhA Q) (by
   intro F H h
   unfold yhA yep at h
   split at h
   · exact h
   · exact h) (by
   intro n F H h
   unfold yhA yep at h
   split at h
   · exact (yqe ..).mpr h
   · exact h.elim)
 have h:yep F H _:=h
 unfold yep at h
 split at h
 · obtain ⟨n,h⟩:=h;exact go n _ _ h
 · exact h.elim
theorem yx9 (e:List (Nat×EffF)) ( p0 K):WP (ygv e) 6 yzb [(.data p0)] K=ymb p0 (fun r0 r1=>K (.tup [(.int .i64 r0),(.int .i64 r1)])):=by kernel_rfl
theorem ymd (e:List (Nat×EffF)) (he:EG e):OkF (E e) yqb yeH:=by
 intro as K h
 unfold yqb yix at h
 split at h
 · exact WP_ok (yhB e he) (ybe (l:=[(49126300,yjn),(49126301,ylE),(49126302,ylF)]) ⟨ymc e he,ysI e he,ysH e he,trivial⟩ (by kernel_rfl)) (by kernel_rfl) (by kernel_rfl) (fun _=>yac (by kernel_rfl) _) (he.num _ (by kernel_rfl)) ((yx9 ..).mpr h)
 · exact h.elim
abbrev yao:Type:=Int→Ls→(Ls→Prop)→Prop
def ybk (a0:yaB) (x86101800_0:Ls→Ls→Int→Int→Bool→Prop):Nat→Ls→Ls→Int→Int→Prop
 | 0,_,_,_,_=>False
 | n86101800+1,l0,l3,i4,i5 =>
 (cbr (decide (i5<i4))
 (asr (decide ((0:Int)≤i5))
 (asr (decide (i5<(((List.length l3):Nat):Int)))
 (lt (List.getD l3 (i5.toNat) .nils) (fun yr11 =>
 (asr (conf (.agg [.i .i64,.i .i64,.i .i64,.i .i64,.i .i64,.i .i64,.b]) yr11)
 (asr (decide ((List.length l0)=(List.length l0)))
 (asr (decide ((0+(List.length l0))≤(List.length l0)))
 (asr (!(decide (((0+(List.length l0))+2)≤(List.length l0))))
 (asr (decide ((List.length l0)=(List.length l0)))
 (asr (decide ((((List.length l0)+2)+64)*(16+1)≤room))
 (lt (IntKind.i64.wrap (i5+(1:Int))) (fun yi12 =>
 (asr (decide ((List.length (l0++([(.agg [(.int .i64 (intOfV (cellAt yr11 0))),(.int .i64 (intOfV (cellAt yr11 1)))]),(.agg [(.int .i64 (intOfV (cellAt yr11 2))),(.int .i64 (intOfV (cellAt yr11 3)))])]:Ls)))=List.length (l0++([(.agg [(.int .i64 (intOfV (cellAt yr11 0))),(.int .i64 (intOfV (cellAt yr11 1)))]),(.agg [(.int .i64 (intOfV (cellAt yr11 2))),(.int .i64 (intOfV (cellAt yr11 3)))])]:Ls)))&&decide ((List.length (l0++([(.agg [(.int .i64 (intOfV (cellAt yr11 0))),(.int .i64 (intOfV (cellAt yr11 1)))]),(.agg [(.int .i64 (intOfV (cellAt yr11 2))),(.int .i64 (intOfV (cellAt yr11 3)))])]:Ls)))=List.length (l0++([(.agg [(.int .i64 (intOfV (cellAt yr11 0))),(.int .i64 (intOfV (cellAt yr11 1)))]),(.agg [(.int .i64 (intOfV (cellAt yr11 2))),(.int .i64 (intOfV (cellAt yr11 3)))])]:Ls))))
 (ybk a0 x86101800_0 n86101800 (l0++([(.agg [(.int .i64 (intOfV (cellAt yr11 0))),(.int .i64 (intOfV (cellAt yr11 1)))]),(.agg [(.int .i64 (intOfV (cellAt yr11 2))),(.int .i64 (intOfV (cellAt yr11 3)))])]:Ls)) l3 i4 yi12))))))))))))))
 (x86101800_0 l0 l3 i4 i5 false))
def ybl (a0:yaB) (x36914300_0:Ls→Nat→Nat→Int→Nat→Nat→Nat→Int→Bool→Prop):Nat→Ls→Nat→Nat→Int→Nat→Nat→Nat→Int→Prop
 | 0,_,_,_,_,_,_,_,_=>False
 | n36914300+1,l0,n1,n2,i3,n4,n5,n6,i7 =>
 (cbr (decide (i7<((n5:Nat):Int)))
 (jn (fun (yj43:Ls→Int→Prop) =>
 (asr (decide ((0:Int)≤i7))
 (asr (decide (i7<((n5:Nat):Int)))
 (asr (decide ((List.length l0)=n6))
 (asr (decide ((n4+(i7.toNat))<(List.length l0)))
 (lt (List.getD l0 (n4+(i7.toNat)) .nils) (fun yr48 =>
 (asr (conf (.agg [.i .i64,.i .i64]) yr48)
 (lt (IntKind.i64.wrap (i7-(1:Int))) (fun yi49 =>
 (asr (decide ((0:Int)≤yi49))
 (asr (decide (yi49<((n5:Nat):Int)))
 (asr (decide ((List.length l0)=n6))
 (asr (decide ((n4+(yi49.toNat))<(List.length l0)))
 (lt (List.getD l0 (n4+(yi49.toNat)) .nils) (fun yr50 =>
 (asr (conf (.agg [.i .i64,.i .i64]) yr50)
 (cbr (!(((intOfV (cellAt yr48 0)) ==(intOfV (cellAt yr50 0)))&&(((intOfV (cellAt yr48 1)) ==(intOfV (cellAt yr50 1)))&&true)))
 (asr (decide ((0:Int)≤i7))
 (asr (decide (i7<((n5:Nat):Int)))
 (asr (decide ((List.length l0)=n6))
 (asr (decide ((n4+(i7.toNat))<(List.length l0)))
 (lt (List.getD l0 (n4+(i7.toNat)) .nils) (fun yr53 =>
 (asr (conf (.agg [.i .i64,.i .i64]) yr53)
 (asr (decide ((0:Int)≤i3))
 (asr (decide (i3<((n1:Nat):Int)))
 (asr (decide ((List.length l0)=n2))
 (asr (decide ((0+(i3.toNat))<(List.length l0)))
 (lt (List.getD l0 (0+(i3.toNat)) .nils) (fun yr54 =>
 (asr (conf (.agg [.i .i64,.i .i64]) yr54)
 (lt (IntKind.i64.wrap (i3+(1:Int))) (fun yi55 =>
 (yj43 (List.set l0 (0+(i3.toNat)) (.agg [(.int .i64 (intOfV (cellAt yr53 0))),(.int .i64 (intOfV (cellAt yr53 1)))])) yi55)))))))))))))))))
 (yj43 l0 i3)))))))))))))))))))
 (fun yl41 yi42=>(lt (IntKind.i64.wrap (i7+(1:Int))) (fun yi44 =>
 (ybl a0 x36914300_0 n36914300 yl41 n1 n2 yi42 n4 n5 n6 yi44)))))
 (x36914300_0 l0 n1 n2 i3 n4 n5 n6 i7 false))
def ybm (a0:yaB) (x36914301_0:Ls→Nat→Nat→Int→Bool→Prop) (x36914301_1:Ls→Nat→Nat→Prop):Nat→Ls→Nat→Nat→Int→Prop
 | 0,_,_,_,_=>False
 | n36914301+1,l0,n1,n2,i3 =>
 (cbr (decide (i3<((n1:Nat):Int)))
 (asr (decide ((0:Int)≤i3))
 (asr (decide (i3<((n1:Nat):Int)))
 (asr (decide ((List.length l0)=n2))
 (asr (decide ((0+(i3.toNat))<(List.length l0)))
 (lt (List.getD l0 (0+(i3.toNat)) .nils) (fun yr79 =>
 (asr (conf (.agg [.i .i64,.i .i64]) yr79)
 (lt (IntKind.i64.wrap (i3-(1:Int))) (fun yi80 =>
 (asr (decide ((0:Int)≤yi80))
 (asr (decide (yi80<((n1:Nat):Int)))
 (asr (decide ((List.length l0)=n2))
 (asr (decide ((0+(yi80.toNat))<(List.length l0)))
 (lt (List.getD l0 (0+(yi80.toNat)) .nils) (fun yr81 =>
 (asr (conf (.agg [.i .i64,.i .i64]) yr81)
 (cbr (((intOfV (cellAt yr79 0)) ==(intOfV (cellAt yr81 0)))&&(((intOfV (cellAt yr79 1)) ==(intOfV (cellAt yr81 1)))&&true))
 (asr (decide ((0:Int)≤i3))
 (asr (decide (i3≤((n1:Nat):Int)))
 (asr ((decide (((n1:Nat):Int)≤((n1:Nat):Int)))||(decide (((n1:Nat):Int)≤((n1:Nat):Int))))
 (∃ n36914300:Nat,ybl a0
 (fun yl91 yn92 yn93 yi94 _ _ _ _ _=>(jn (fun (yj101:Ls→Prop) =>
 (asr (decide ((0:Int)≤yi94))
 (asr (decide (yi94≤((yn92:Nat):Int)))
 (asr ((decide (((yn92:Nat):Int)≤((yn92:Nat):Int)))||(decide (((yn92:Nat):Int)≤((yn92:Nat):Int))))
 (cbr (decide (((((yn92:Nat):Int)-yi94).toNat)=0))
 (yj101 yl91)
 (asr (decide ((List.length yl91)=yn93))
 (asr (decide (((0+(yi94.toNat))+((((yn92:Nat):Int)-yi94).toNat))≤yn93))
 (yj101 ((List.take (0+(yi94.toNat)) yl91)++((List.replicate ((((yn92:Nat):Int)-yi94).toNat) ((.agg [(.int .i64 (0)),(.int .i64 (0))]):PV))++(List.drop ((0+(yi94.toNat))+((((yn92:Nat):Int)-yi94).toNat)) yl91)))))))))))
 (fun yl100=>(asr (decide ((0:Int)≤yi94))
 (asr ((decide (yi94≤((yn92:Nat):Int)))||(decide (yi94≤((yn92:Nat):Int))))
 (x36914301_1 yl100 ((yi94-(0:Int)).toNat) yn93))))))
 n36914300 l0 n1 n2 i3 (0+(i3.toNat)) ((((n1:Nat):Int)-i3).toNat) n2 (1:Int)))))
 (lt (IntKind.i64.wrap (i3+(1:Int))) (fun yi102 =>
 (ybm a0 x36914301_0 x36914301_1 n36914301 l0 n1 n2 yi102))))))))))))))))))))
 (x36914301_0 l0 n1 n2 i3 false))
def yiD (a0:yaB) (p0:Int) (p1:Ls) (K:Ls→Prop):Prop :=
 (a0 (0:Int) (fun yi4 yi5 =>
 (a0 p0 (fun yi6 yi7 =>
 (asr (decide (2=List.length ([(.agg [(.int .i64 yi4),(.int .i64 yi5)]),(.agg [(.int .i64 yi6),(.int .i64 yi7)])]:Ls))&&decide (2=List.length ([(.agg [(.int .i64 yi4),(.int .i64 yi5)]),(.agg [(.int .i64 yi6),(.int .i64 yi7)])]:Ls)))
 (∃ n86101800:Nat,ybk a0
 (fun yl18 _ _ _ _=>(asr (Srt.cond ywz.s yl18 0 (List.length yl18) (List.length yl18) 2 false)
 (jn (fun (yj167:Ls→Nat→Nat→Prop) =>
 (cbr (decide ((((List.length yl18):Nat):Int)<(2:Int)))
 (yj167 (List.take 0 yl18++(Srt.sorted ywz.s ywz.srt (List.take (List.length yl18) (List.drop 0 yl18))++List.drop (0+(List.length yl18)) yl18)) (List.length yl18) (List.length yl18))
 (∃ n36914301:Nat,ybm a0
 (fun yl176 yn177 yn178 _ _=>(yj167 yl176 yn177 yn178))
 (fun yl181 yn182 yn183=>(yj167 yl181 yn182 yn183))
 n36914301 (List.take 0 yl18++(Srt.sorted ywz.s ywz.srt (List.take (List.length yl18) (List.drop 0 yl18))++List.drop (0+(List.length yl18)) yl18)) (List.length yl18) (List.length yl18) (1:Int))))
 (fun yl164 yn165 yn166=>(asr (decide ((List.length yl164)=yn166))
 (asr (decide ((0+yn165)≤yn166))
 (K (List.take yn165 yl164))))))))
 n86101800 ([(.agg [(.int .i64 yi4),(.int .i64 yi5)]),(.agg [(.int .i64 yi6),(.int .i64 yi7)])]:Ls) p1 (((List.length p1):Nat):Int) (0:Int)))))))
def yan (p0:Int) (p1:Ls) (K:Ls→Prop):Prop:=yiD yap p0 p1 K
def yey (w:yao) (as:Ls) (K:PV→Prop):Prop :=
 match as with
 | [(.int .i64 p0),(.data p1)]=>w p0 p1 (fun r0=>K (.data r0))
 | _=>False
def ymK (as:Ls) (K:PV→Prop):Prop:=yey yan as K
def yda (F:Frm) (H:Hp) (A0:Ls→Ls→Int→Int→Prop):Prop :=
 match F,H with
 | [(5,.v (.own 0 0 t1 t2 none)),(12,.v (.data l3)),(13,.v (.int .i64 i4)),(14,.v (.int .i64 i5))],[⟨false,true,2,l0⟩]=>asr (decide (t1=List.length l0)&&decide (t2=List.length l0)) (A0 l0 l3 i4 i5)
 | _,_=>False
def ydb (F:Frm) (H:Hp) (A0:Ls→Nat→Nat→Int→Nat→Nat→Nat→Int→Prop):Prop :=
 match F,H with
 | [(0,.v (.own 0 0 n1 n2 none)),(3,.v (.int .i64 i3)),(4,.v (.own 0 n4 n5 n6 none)),(5,.v (.int .i64 i7))],[⟨false,true,2,l0⟩]=>(A0 l0 n1 n2 i3 n4 n5 n6 i7)
 | _,_=>False
def ydc (F:Frm) (H:Hp) (A0:Ls→Nat→Nat→Int→Prop):Prop :=
 match F,H with
 | [(0,.v (.own 0 0 n1 n2 none)),(3,.v (.int .i64 i3))],[⟨false,true,2,l0⟩]=>(A0 l0 n1 n2 i3)
 | _,_=>False
def ygw (Q:Ex→Frm→Hp→Prop):Ls→Ls→Int→Int→Bool→Prop:=(fun l0 l3 i4 i5 b6=>Q (.exit 0) [(5,.v (.own 0 0 (List.length l0) (List.length l0) none)),(12,.v (.data l3)),(13,.v (.int .i64 i4)),(14,.v (.int .i64 i5)),(15,.v (.bool b6))] [⟨false,true,2,l0⟩])
def ygx (Q:Ex→Frm→Hp→Prop):Ls→Nat→Nat→Int→Nat→Nat→Nat→Int→Bool→Prop:=(fun l0 n1 n2 i3 n4 n5 n6 i7 b8=>Q (.exit 2) [(0,.v (.own 0 0 n1 n2 none)),(3,.v (.int .i64 i3)),(4,.v (.own 0 n4 n5 n6 none)),(5,.v (.int .i64 i7)),(32,.v (.bool b8))] [⟨false,true,2,l0⟩])
def ygy (Q:Ex→Frm→Hp→Prop):Ls→Nat→Nat→Int→Bool→Prop:=(fun l0 n1 n2 i3 b4=>Q (.exit 0) [(0,.v (.own 0 0 n1 n2 none)),(3,.v (.int .i64 i3)),(13,.v (.bool b4))] [⟨false,true,2,l0⟩])
def ygz (Q:Ex→Frm→Hp→Prop):Ls→Nat→Nat→Prop:=(fun l0 n1 n2=>Q .ret [(2,.v (.own 0 0 n1 n2 none))] [⟨false,true,2,l0⟩])
def yfu (a0:yaB) (Q:Ex→Frm→Hp→Prop) (n:Nat) (F:Frm) (H:Hp):Prop:=yda F H (fun l0 l3 i4 i5=>ybk a0 (ygw Q) n l0 l3 i4 i5)
def yfv (a0:yaB) (Q:Ex→Frm→Hp→Prop) (n:Nat) (F:Frm) (H:Hp):Prop:=ydb F H (fun l0 n1 n2 i3 n4 n5 n6 i7=>ybl a0 (ygx Q) n l0 n1 n2 i3 n4 n5 n6 i7)
def yfw (a0:yaB) (Q:Ex→Frm→Hp→Prop) (n:Nat) (F:Frm) (H:Hp):Prop:=ydc F H (fun l0 n1 n2 i3=>ybm a0 (ygy Q) (ygz Q) n l0 n1 n2 i3)
def yba (a0:yaB):LP:=fun id F H Q =>
 bif Nat.beq id 86101800 then yda F H (fun l0 l3 i4 i5=>∃ n:Nat,ybk a0 (ygw Q) n l0 l3 i4 i5) else
 bif Nat.beq id 36914300 then ydb F H (fun l0 n1 n2 i3 n4 n5 n6 i7=>∃ n:Nat,ybl a0 (ygx Q) n l0 n1 n2 i3 n4 n5 n6 i7) else
 bif Nat.beq id 36914301 then ydc F H (fun l0 n1 n2 i3=>∃ n:Nat,ybm a0 (ygy Q) (ygz Q) n l0 n1 n2 i3) else
 False
def yf6 (a0:yaB):SE:=⟨(E ef0),lookS [(yck,ye0 a0)],lookI [],yba a0⟩
def ymL (a0:yaB):SE:=⟨(E ef0),lookS [(yck,ye0 a0)],lookI [(ycX,yiX)],yba a0⟩
theorem yhO:SEOk (yf6 yap):=yai ⟨(yiw ef0 effG0),trivial⟩ trivial effG0.ok
theorem ynN (a0 Q n l0 l3 i4 i5):WC (E ef0) (callW (yf6 a0) 5) (yba a0) ylH [(5,.v (.own 0 0 (List.length l0) (List.length l0) none)),(12,.v (.data l3)),(13,.v (.int .i64 i4)),(14,.v (.int .i64 i5))] [⟨false,true,2,l0⟩] (fun x F' H'=>match x with | .norm=>yfu a0 Q n F' H' | .exit i=>Q (.exit i) F' H' | .ret=>Q .ret F' H')=ybk a0 (ygw Q) (n+1) l0 l3 i4 i5:=by kernel_rfl
theorem yqf:LpOk (E ef0) (yba yap) ylH:=(yah (by kernel_rfl))
theorem ypE:∀ F H Q,yba yap 86101800 F H Q→LoopT (E ef0) ylH F H Q:=by
 intro F H Q h
 have go:=LoopT.intro (yaF (yhO) 5) (yqf) (yfu yap Q) (by
   intro F H h
   unfold yfu yda at h
   split at h
   · obtain ⟨hg,k⟩:=yad.1 h
     clear h
     have h:=k
     clear k
     try simp only [Bool.and_eq_true,decide_eq_true_eq] at hg
     obtain ⟨g0,g1⟩:=hg;subst g0;subst g1;exact h
   · exact h) (by
   intro n F H h
   unfold yfu yda at h
   split at h
   · obtain ⟨hg,k⟩:=yad.1 h
     clear h
     have h:=k
     clear k
     try simp only [Bool.and_eq_true,decide_eq_true_eq] at hg
     obtain ⟨g0,g1⟩:=hg;subst g0;subst g1;exact (ynN ..).mpr h
   · exact h.elim)
 have h:yda F H _:=h
 unfold yda at h
 split at h
 · obtain ⟨hg,n,h⟩:=yad.1 h;exact go n _ _ (yad.2 ⟨hg,h⟩)
 · exact h.elim
theorem ynO (a0 Q n l0 n1 n2 i3 n4 n5 n6 i7):WC (E ef0) (callW (yf6 a0) 5) (yba a0) yjo [(0,.v (.own 0 0 n1 n2 none)),(3,.v (.int .i64 i3)),(4,.v (.own 0 n4 n5 n6 none)),(5,.v (.int .i64 i7))] [⟨false,true,2,l0⟩] (fun x F' H'=>match x with | .norm=>yfv a0 Q n F' H' | .exit i=>Q (.exit i) F' H' | .ret=>Q .ret F' H')=ybl a0 (ygx Q) (n+1) l0 n1 n2 i3 n4 n5 n6 i7:=by kernel_rfl
theorem yqg:LpOk (E ef0) (yba yap) yjo:=(yah (by kernel_rfl))
theorem yjc:∀ F H Q,yba yap 36914300 F H Q→LoopT (E ef0) yjo F H Q:=by
 intro F H Q h
 have go:=LoopT.intro (yaF (yhO) 5) (yqg) (yfv yap Q) (by
   intro F H h
   unfold yfv ydb at h
   split at h
   · exact h
   · exact h) (by
   intro n F H h
   unfold yfv ydb at h
   split at h
   · exact (ynO ..).mpr h
   · exact h.elim)
 have h:ydb F H _:=h
 unfold ydb at h
 split at h
 · obtain ⟨n,h⟩:=h;exact go n _ _ h
 · exact h.elim
theorem ynP (a0 Q n l0 n1 n2 i3):WC (E ef0) (callW (yf6 a0) 5) (yba a0) ylG [(0,.v (.own 0 0 n1 n2 none)),(3,.v (.int .i64 i3))] [⟨false,true,2,l0⟩] (fun x F' H'=>match x with | .norm=>yfw a0 Q n F' H' | .exit i=>Q (.exit i) F' H' | .ret=>Q .ret F' H')=ybm a0 (ygy Q) (ygz Q) (n+1) l0 n1 n2 i3:=by kernel_rfl
theorem yqh:LpOk (E ef0) (yba yap) ylG:=(ybe (l:=[(36914300,yjo)]) ⟨yjc,trivial⟩ (by kernel_rfl))
theorem ypF:∀ F H Q,yba yap 36914301 F H Q→LoopT (E ef0) ylG F H Q:=by
 intro F H Q h
 have go:=LoopT.intro (yaF (yhO) 5) (yqh) (yfw yap Q) (by
   intro F H h
   unfold yfw ydc at h
   split at h
   · exact h
   · exact h) (by
   intro n F H h
   unfold yfw ydc at h
   split at h
   · exact (ynP ..).mpr h
   · exact h.elim)
 have h:ydc F H _:=h
 unfold ydc at h
 split at h
 · obtain ⟨n,h⟩:=h;exact go n _ _ h
 · exact h.elim
theorem ysJ:SEOk (ymL yap):=yai ⟨(yiw ef0 effG0),trivial⟩ ⟨⟨by kernel_rfl,by kernel_rfl,rfl,fun as=>yac (by kernel_rfl) as,effG0.num _ (by kernel_rfl),(ybe (l:=[(36914300,yjo),(36914301,ylG)]) ⟨yjc,ypF,trivial⟩ (by kernel_rfl))⟩,trivial⟩ effG0.ok
theorem ytU (a0 p0 p1 K):WP (ymL a0) 6 yu9 [(.int .i64 p0),(.data p1)] K=yiD a0 p0 p1 (fun r0=>K (.data r0)):=by kernel_rfl
theorem yf7:OkF (E ef0) ymK ybQ:=by
 intro as K h
 unfold ymK yey at h
 split at h
 · exact WP_ok (ysJ) (ybe (l:=[(86101800,ylH)]) ⟨ypE,trivial⟩ (by kernel_rfl)) (by kernel_rfl) (by kernel_rfl) (fun _=>yac (by kernel_rfl) _) (effG0.num _ (by kernel_rfl)) ((ytU ..).mpr h)
 · exact h.elim
abbrev ya4:Type:=Ls→Ls→Int→Prop→(Ls→Prop)→Prop
def yaP (a0:yas) (a1:yaj) (x10433800_0:Ls→Ls→Ls→Int→Int→Int→Int→Int→Bool→Prop):Nat→Ls→Ls→Ls→Int→Int→Int→Int→Int→Prop
 | 0,_,_,_,_,_,_,_,_=>False
 | n10433800+1,l0,l1,l2,i3,i4,i5,i6,i7 =>
 (cbr (decide (i6<i7))
 (lt (IntKind.i64.wrap (i6+i7)) (fun yi7 =>
 (lt (Int.fdiv (IntKind.u64.wrap yi7) 2) (fun yi8 =>
 (asr (decide ((0:Int)≤(IntKind.i64.wrap yi8)))
 (asr (decide ((IntKind.i64.wrap yi8)<(((List.length l2):Nat):Int)))
 (lt (List.getD l2 ((IntKind.i64.wrap yi8).toNat) .nils) (fun yr11 =>
 (asr (conf (.agg [.i .i64,.i .i64]) yr11)
 (a0 (intOfV (cellAt yr11 0)) (intOfV (cellAt yr11 1)) i3 i4 (fun yi12 =>
 (cbr (decide (yi12<(0:Int)))
 (lt (IntKind.i64.wrap ((IntKind.i64.wrap yi8)+(1:Int))) (fun yi13 =>
 (yaP a0 a1 x10433800_0 n10433800 l0 l1 l2 i3 i4 i5 yi13 i7)))
 (yaP a0 a1 x10433800_0 n10433800 l0 l1 l2 i3 i4 i5 i6 (IntKind.i64.wrap yi8))))))))))))))
 (x10433800_0 l0 l1 l2 i3 i4 i5 i6 i7 false))
def yaJ (a0:yas) (a1:yaj) (x10433800_1:Ls→Ls→Ls→Ls→Int→Int→Int→Int→Int→Bool→Prop):Nat→Ls→Ls→Ls→Ls→Int→Int→Int→Int→Int→Prop
 | 0,_,_,_,_,_,_,_,_,_=>False
 | n10433800+1,l0,l1,l2,l3,i4,i5,i6,i7,i8 =>
 (cbr (decide (i7<i8))
 (lt (IntKind.i64.wrap (i7+i8)) (fun yi485 =>
 (lt (Int.fdiv (IntKind.u64.wrap yi485) 2) (fun yi486 =>
 (asr (decide ((0:Int)≤(IntKind.i64.wrap yi486)))
 (asr (decide ((IntKind.i64.wrap yi486)<(((List.length l3):Nat):Int)))
 (lt (List.getD l3 ((IntKind.i64.wrap yi486).toNat) .nils) (fun yr489 =>
 (asr (conf (.agg [.i .i64,.i .i64]) yr489)
 (a0 (intOfV (cellAt yr489 0)) (intOfV (cellAt yr489 1)) i4 i5 (fun yi490 =>
 (cbr (decide (yi490<(0:Int)))
 (lt (IntKind.i64.wrap ((IntKind.i64.wrap yi486)+(1:Int))) (fun yi491 =>
 (yaJ a0 a1 x10433800_1 n10433800 l0 l1 l2 l3 i4 i5 i6 yi491 i8)))
 (yaJ a0 a1 x10433800_1 n10433800 l0 l1 l2 l3 i4 i5 i6 i7 (IntKind.i64.wrap yi486))))))))))))))
 (x10433800_1 l0 l1 l2 l3 i4 i5 i6 i7 i8 false))
def ybh (a0:yas) (a1:yaj) (x17934301_0:Ls→Ls→Ls→Ls→Int→Int→Nat→Nat→Nat→Nat→Nat→Nat→Ls→Int→Int→Int→Bool→Prop):Nat→Ls→Ls→Ls→Ls→Int→Int→Nat→Nat→Nat→Nat→Nat→Nat→Ls→Int→Int→Int→Prop
 | 0,_,_,_,_,_,_,_,_,_,_,_,_,_,_,_,_=>False
 | n17934301+1,l0,l1,l2,l3,i4,i5,n6,n7,n8,n9,n10,n11,l12,i13,i14,i15 =>
 (cbr (decide (i13<((n9:Nat):Int)))
 (asr (decide ((0:Int)≤i13))
 (asr (decide (i13<((n9:Nat):Int)))
 (asr (decide ((List.length l1)=n10))
 (asr (decide ((0+(i13.toNat))<(List.length l1)))
 (lt (List.getD l1 (0+(i13.toNat)) .nils) (fun yr440 =>
 (asr (conf (.one (.i .i64)) yr440)
 (lt (IntKind.i64.wrap (i13-(1:Int))) (fun yi441 =>
 (asr (decide ((0:Int)≤yi441))
 (asr (decide (yi441<((n9:Nat):Int)))
 (asr (decide ((List.length l1)=n10))
 (asr (decide ((0+(yi441.toNat))<(List.length l1)))
 (lt (List.getD l1 (0+(yi441.toNat)) .nils) (fun yr442 =>
 (asr (conf (.one (.i .i64)) yr442)
 (asr (decide ((0:Int)≤i13))
 (asr (decide (i13<((n6:Nat):Int)))
 (asr (decide ((List.length l0)=n7))
 (asr (decide ((0+(i13.toNat))<(List.length l0)))
 (lt (List.getD l0 (0+(i13.toNat)) .nils) (fun yr443 =>
 (asr (conf (.one (.i .i64)) yr443)
 (lt (IntKind.i64.wrap ((intOfV yr442)+(intOfV yr443))) (fun yi444 =>
 (asr (decide ((0:Int)≤i13))
 (asr (decide (i13<((n9:Nat):Int)))
 (asr (decide ((List.length l1)=n10))
 (asr (decide ((0+(i13.toNat))<(List.length l1)))
 (lt (List.getD l1 (0+(i13.toNat)) .nils) (fun yr445 =>
 (asr (conf (.one (.i .i64)) yr445)
 (lt (IntKind.i64.wrap (i13+(1:Int))) (fun yi446 =>
 (ybh a0 a1 x17934301_0 n17934301 l0 (List.set l1 (0+(i13.toNat)) (.int .i64 (if yi444>(intOfV yr440) then yi444 else (intOfV yr440)))) l2 l3 i4 i5 n6 n7 n8 n9 n10 n11 l12 yi446 i14 i15)))))))))))))))))))))))))))))))))))
 (x17934301_0 l0 l1 l2 l3 i4 i5 n6 n7 n8 n9 n10 n11 l12 i13 i14 i15 false))
def yby (a0:yas) (a1:yaj) (x17934302_0:Ls→Ls→Ls→Ls→Int→Int→Nat→Nat→Nat→Nat→Nat→Nat→Ls→Int→Int→Ls→Int→Int→Bool→Prop):Nat→Ls→Ls→Ls→Ls→Int→Int→Nat→Nat→Nat→Nat→Nat→Nat→Ls→Int→Int→Ls→Int→Int→Prop
 | 0,_,_,_,_,_,_,_,_,_,_,_,_,_,_,_,_,_,_=>False
 | n17934302+1,l0,l1,l2,l3,i4,i5,n6,n7,n8,n9,n10,n11,l12,i13,i14,l15,i16,i17 =>
 (cbr (decide (i17<i16))
 (asr (decide ((0:Int)≤i17))
 (asr (decide (i17<(((List.length l15):Nat):Int)))
 (lt (List.getD l15 (i17.toNat) .nils) (fun yr1343 =>
 (asr (conf (.agg [.i .i64,.i .i64,.i .i64,.i .i64,.i .i64,.i .i64,.b]) yr1343)
 (∃ n10433800:Nat,yaJ a0 a1
 (fun yl1952 yl1953 yl1954 yl1955 yi1956 yi1957 yi1958 yi1959 _ _=>(jn (fun (yj1965:Bool→Prop) =>
 (cbr (decide (yi1959<yi1958))
 (asr (decide ((0:Int)≤yi1959))
 (asr (decide (yi1959<(((List.length yl1955):Nat):Int)))
 (lt (List.getD yl1955 (yi1959.toNat) .nils) (fun yr2193 =>
 (asr (conf (.agg [.i .i64,.i .i64]) yr2193)
 (a0 (intOfV (cellAt yr2193 0)) (intOfV (cellAt yr2193 1)) yi1956 yi1957 (fun yi2194 =>
 (yj1965 (yi2194 ==(0:Int))))))))))
 (yj1965 false)))
 (fun _=>(∃ n10433800:Nat,yaJ a0 a1
 (fun yl2158 yl2159 yl2160 yl2161 yi2162 yi2163 yi2164 yi2165 _ _=>(jn (fun (yj2171:Bool→Prop) =>
 (cbr (decide (yi2165<yi2164))
 (asr (decide ((0:Int)≤yi2165))
 (asr (decide (yi2165<(((List.length yl2161):Nat):Int)))
 (lt (List.getD yl2161 (yi2165.toNat) .nils) (fun yr2191 =>
 (asr (conf (.agg [.i .i64,.i .i64]) yr2191)
 (a0 (intOfV (cellAt yr2191 0)) (intOfV (cellAt yr2191 1)) yi2162 yi2163 (fun yi2192 =>
 (yj2171 (yi2192 ==(0:Int))))))))))
 (yj2171 false)))
 (fun _=>(asr (!(decide ((intOfV (cellAt yr1343 5))=(0:Int))))
 (lt (IntKind.i64.wrap (Int.tdiv i4 (intOfV (cellAt yr1343 5)))) (fun yi2175 =>
 (lt (IntKind.i64.wrap ((intOfV (cellAt yr1343 4))*yi2175)) (fun yi2176 =>
 (lt (IntKind.i64.wrap (yi2176*i5)) (fun yi2177 =>
 (asr (decide ((0:Int)≤yi2165))
 (asr (decide (yi2165<((n9:Nat):Int)))
 (asr (decide ((List.length yl2159)=n10))
 (asr (decide ((0+(yi2165.toNat))<(List.length yl2159)))
 (lt (List.getD yl2159 (0+(yi2165.toNat)) .nils) (fun yr2182 =>
 (asr (conf (.one (.i .i64)) yr2182)
 (asr (decide ((0:Int)≤yi1959))
 (asr (decide (yi1959<((n9:Nat):Int)))
 (asr (decide ((List.length yl2159)=n10))
 (asr (decide ((0+(yi1959.toNat))<(List.length yl2159)))
 (lt (List.getD yl2159 (0+(yi1959.toNat)) .nils) (fun yr2183 =>
 (asr (conf (.one (.i .i64)) yr2183)
 (lt (IntKind.i64.wrap ((intOfV yr2183)+yi2177)) (fun yi2184 =>
 (asr (decide ((0:Int)≤yi2165))
 (asr (decide (yi2165<((n9:Nat):Int)))
 (asr (decide ((List.length yl2159)=n10))
 (asr (decide ((0+(yi2165.toNat))<(List.length yl2159)))
 (lt (List.getD yl2159 (0+(yi2165.toNat)) .nils) (fun yr2185 =>
 (asr (conf (.one (.i .i64)) yr2185)
 (asr (decide ((0:Int)≤yi1959))
 (asr (decide (yi1959<((n9:Nat):Int)))
 (asr (decide ((List.length (List.set yl2159 (0+(yi2165.toNat)) (.int .i64 (if yi2184>(intOfV yr2182) then yi2184 else (intOfV yr2182)))))=n10))
 (asr (decide ((0+(yi1959.toNat))<(List.length (List.set yl2159 (0+(yi2165.toNat)) (.int .i64 (if yi2184>(intOfV yr2182) then yi2184 else (intOfV yr2182)))))))
 (lt (List.getD (List.set yl2159 (0+(yi2165.toNat)) (.int .i64 (if yi2184>(intOfV yr2182) then yi2184 else (intOfV yr2182)))) (0+(yi1959.toNat)) .nils) (fun yr2186 =>
 (asr (conf (.one (.i .i64)) yr2186)
 (asr (decide ((0:Int)≤yi2165))
 (asr (decide (yi2165<((n9:Nat):Int)))
 (asr (decide ((List.length (List.set yl2159 (0+(yi2165.toNat)) (.int .i64 (if yi2184>(intOfV yr2182) then yi2184 else (intOfV yr2182)))))=n10))
 (asr (decide ((0+(yi2165.toNat))<(List.length (List.set yl2159 (0+(yi2165.toNat)) (.int .i64 (if yi2184>(intOfV yr2182) then yi2184 else (intOfV yr2182)))))))
 (lt (List.getD (List.set yl2159 (0+(yi2165.toNat)) (.int .i64 (if yi2184>(intOfV yr2182) then yi2184 else (intOfV yr2182)))) (0+(yi2165.toNat)) .nils) (fun yr2187 =>
 (asr (conf (.one (.i .i64)) yr2187)
 (lt (IntKind.i64.wrap ((intOfV yr2187)-yi2177)) (fun yi2188 =>
 (asr (decide ((0:Int)≤yi1959))
 (asr (decide (yi1959<((n9:Nat):Int)))
 (asr (decide ((List.length (List.set yl2159 (0+(yi2165.toNat)) (.int .i64 (if yi2184>(intOfV yr2182) then yi2184 else (intOfV yr2182)))))=n10))
 (asr (decide ((0+(yi1959.toNat))<(List.length (List.set yl2159 (0+(yi2165.toNat)) (.int .i64 (if yi2184>(intOfV yr2182) then yi2184 else (intOfV yr2182)))))))
 (lt (List.getD (List.set yl2159 (0+(yi2165.toNat)) (.int .i64 (if yi2184>(intOfV yr2182) then yi2184 else (intOfV yr2182)))) (0+(yi1959.toNat)) .nils) (fun yr2189 =>
 (asr (conf (.one (.i .i64)) yr2189)
 (lt (IntKind.i64.wrap (i17+(1:Int))) (fun yi2190 =>
 (yby a0 a1 x17934302_0 n17934302 yl2158 (List.set (List.set yl2159 (0+(yi2165.toNat)) (.int .i64 (if yi2184>(intOfV yr2182) then yi2184 else (intOfV yr2182)))) (0+(yi1959.toNat)) (.int .i64 (if yi2188>(intOfV yr2186) then yi2188 else (intOfV yr2186)))) yl2160 l3 i4 i5 n6 n7 n8 n9 n10 n11 l12 i13 i14 l15 i16 yi2190)))))))))))))))))))))))))))))))))))))))))))))))))))))))))))
 n10433800 yl1952 yl1953 yl1954 yl1954 (intOfV (cellAt yr1343 2)) (intOfV (cellAt yr1343 3)) (((List.length yl1954):Nat):Int) (0:Int) (((List.length yl1954):Nat):Int)))))
 n10433800 l0 l1 l2 l2 (intOfV (cellAt yr1343 0)) (intOfV (cellAt yr1343 1)) (((List.length l2):Nat):Int) (0:Int) (((List.length l2):Nat):Int)))))))
 (x17934302_0 l0 l1 l2 l3 i4 i5 n6 n7 n8 n9 n10 n11 l12 i13 i14 l15 i16 i17 false))
def ya3 (a0:yas) (a1:yaj) (x17934300_0:Ls→Ls→Ls→Int→Int→Nat→Nat→Nat→Ls→Int→Int→Bool→Prop) (x17934300_1:Ls→Ls→Prop):Nat→Ls→Ls→Ls→Int→Int→Nat→Nat→Nat→Ls→Int→Int→Prop
 | 0,_,_,_,_,_,_,_,_,_,_,_=>False
 | n17934300+1,l0,l1,l2,i3,i4,n5,n6,n7,l8,i9,i10 =>
 (cbr (decide (i10<i9))
 (jn (fun (yj209:Ls→Ls→Prop) =>
 (asr (decide ((0:Int)≤i10))
 (asr (decide (i10<(((List.length l8):Nat):Int)))
 (lt (List.getD l8 (i10.toNat) .nils) (fun yr212 =>
 (asr (conf (.agg [.i .i64,.i .i64,.i .i64,.i .i64,.i .i64,.i .i64,.b]) yr212)
 (cbr (!(boolOfV (cellAt yr212 6)))
 (yj209 l0 l1)
 (cbr (decide ((intOfV (cellAt yr212 4))>(0:Int)))
 (∃ n10433800:Nat,yaP a0 a1
 (fun yl390 yl391 yl392 yi393 yi394 yi395 yi396 _ _=>(jn (fun (yj402:Bool→Prop) =>
 (cbr (decide (yi396<yi395))
 (asr (decide ((0:Int)≤yi396))
 (asr (decide (yi396<(((List.length yl392):Nat):Int)))
 (lt (List.getD yl392 (yi396.toNat) .nils) (fun yr404 =>
 (asr (conf (.agg [.i .i64,.i .i64]) yr404)
 (a0 (intOfV (cellAt yr404 0)) (intOfV (cellAt yr404 1)) yi393 yi394 (fun yi405 =>
 (yj402 (yi405 ==(0:Int))))))))))
 (yj402 false)))
 (fun _=>(asr (decide ((0:Int)≤yi396))
 (asr (decide (yi396<((n5:Nat):Int)))
 (asr (decide ((List.length yl390)=n6))
 (asr (decide ((0+(yi396.toNat))<(List.length yl390)))
 (lt (List.getD yl390 (0+(yi396.toNat)) .nils) (fun yr403 =>
 (asr (conf (.one (.i .i64)) yr403)
 (yj209 (List.set yl390 (0+(yi396.toNat)) (.int .i64 (1:Int))) yl391)))))))))))
 n10433800 l0 l1 l1 (intOfV (cellAt yr212 2)) (intOfV (cellAt yr212 3)) (((List.length l1):Nat):Int) (0:Int) (((List.length l1):Nat):Int))
 (cbr (!(((intOfV (cellAt yr212 0)) ==(intOfV (cellAt yr212 2)))&&(((intOfV (cellAt yr212 1)) ==(intOfV (cellAt yr212 3)))&&true)))
 (x17934300_1 l0 l1)
 (yj209 l0 l1))))))))))
 (fun yl207 yl208=>(lt (IntKind.i64.wrap (i10+(1:Int))) (fun yi210 =>
 (ya3 a0 a1 x17934300_0 x17934300_1 n17934300 yl207 yl208 l2 i3 i4 n5 n6 n7 l8 i9 yi210)))))
 (x17934300_0 l0 l1 l2 i3 i4 n5 n6 n7 l8 i9 i10 false))
def ybz (a0:yas) (a1:yaj) (x17934303_0:Ls→Ls→Ls→Ls→Int→Int→Nat→Nat→Nat→Nat→Nat→Nat→Int→Int→Bool→Prop) (x17934303_1:Ls→Ls→Ls→Prop) (x17934303_2:Ls→Ls→Ls→Nat→Nat→Nat→Prop):Nat→Ls→Ls→Ls→Ls→Int→Int→Nat→Nat→Nat→Nat→Nat→Nat→Int→Int→Prop
 | 0,_,_,_,_,_,_,_,_,_,_,_,_,_,_=>False
 | n17934303+1,l0,l1,l2,l3,i4,i5,n6,n7,n8,n9,n10,n11,i12,i13 =>
 (cbr (decide (i13<i12))
 (asr (clnDOk 1 8 l1 0 n9 n10 true)
 (∃ n17934301:Nat,ybh a0 a1
 (fun yl2260 yl2261 yl2262 yl2263 yi2264 yi2265 yn2266 yn2267 yn2268 yn2269 yn2270 yn2271 yl2272 _ yi2274 yi2275 _=>(∃ n17934302:Nat,yby a0 a1
 (fun yl2296 yl2297 yl2298 yl2299 yi2300 yi2301 yn2302 yn2303 yn2304 yn2305 yn2306 yn2307 yl2308 yi2309 yi2310 _ _ _ _=>(asr (decide ((0:Int)<((yn2305:Nat):Int)))
 (asr (decide ((List.length yl2297)=yn2306))
 (asr (decide (0<(List.length yl2297)))
 (lt (List.getD yl2297 0 .nils) (fun yr2318 =>
 (asr (conf (.one (.i .i64)) yr2318)
 (cbr (decide ((intOfV yr2318)>(0:Int)))
 (x17934303_1 yl2296 yl2297 yl2298)
 (asr (decide ((List.length yl2297)=yn2306))
 (asr (decide ((0+yn2305)≤yn2306))
 (a1 (List.take yn2305 yl2297) yl2308 (fun yb2320 =>
 (cbr yb2320
 (asr (decide ((0:Int)<((yn2302:Nat):Int)))
 (asr (decide ((List.length yl2296)=yn2303))
 (asr (decide (0<(List.length yl2296)))
 (lt (List.getD yl2296 0 .nils) (fun yr2324 =>
 (asr (conf (.one (.i .i64)) yr2324)
 (cbr (decide ((intOfV yr2324)>(0:Int)))
 (x17934303_1 yl2296 yl2297 yl2298)
 (x17934303_2 yl2296 yl2297 yl2298 yn2305 yn2306 yn2307))))))))
 (lt (IntKind.i64.wrap (yi2310+(1:Int))) (fun yi2325 =>
 (ybz a0 a1 x17934303_0 x17934303_1 x17934303_2 n17934303 yl2296 yl2297 yl2298 yl2299 yi2300 yi2301 yn2302 yn2303 yn2304 yn2305 yn2306 yn2307 yi2309 yi2325))))))))))))))))
 n17934302 yl2260 yl2261 yl2262 yl2263 yi2264 yi2265 yn2266 yn2267 yn2268 yn2269 yn2270 yn2271 yl2272 yi2274 yi2275 yl2263 (((List.length yl2263):Nat):Int) (0:Int)))
 n17934301 l0 l1 l2 l3 i4 i5 n6 n7 n8 n9 n10 n11 (List.take n9 (List.drop 0 l1)) (1:Int) i12 i13))
 (x17934303_0 l0 l1 l2 l3 i4 i5 n6 n7 n8 n9 n10 n11 i12 i13 false))
def yjO (a0:yas) (a1:yaj) (p0 p1:Ls) (p2:Int) (K0:Prop) (K:Ls→Prop):Prop :=
 (lt (IntKind.i64.wrap ((((List.length p0):Nat):Int)+(1:Int))) (fun yi1 =>
 (asr (decide ((0:Int)≤(((List.length p0):Nat):Int)))
 (asr (decide ((((List.length p0):Nat):Int)≤(((List.length p0):Nat):Int)))
 (asr (decide (((List.length p0)+64)*(8+1)≤room))
 (∃ n17934300:Nat,ya3 a0 a1
 (fun yl420 yl421 yl422 yi423 yi424 yn425 yn426 yn427 _ _ _ _=>(asr (decide ((0:Int)≤(((List.length yl421):Nat):Int)))
 (asr (decide ((((List.length yl421):Nat):Int)≤(((List.length yl421):Nat):Int)))
 (asr (decide (((List.length yl421)+64)*(8+1)≤room))
 (lt (IntKind.i64.wrap ((((List.length yl421):Nat):Int)+(1:Int))) (fun yi2351 =>
 (∃ n17934303:Nat,ybz a0 a1
 (fun _ _ _ _ _ _ _ _ _ _ _ _ _ _ _=>K0)
 (fun _ _ _=>K0)
 (fun _ yl2371 _ yn2373 yn2374 _=>(asr (decide ((List.length yl2371)=yn2374))
 (asr (decide ((0+yn2373)≤yn2374))
 (K (List.take yn2373 yl2371)))))
 n17934303 yl420 (List.replicate (List.length yl421) ((.int .i64 (0)):PV)) yl421 yl422 yi423 yi424 yn425 yn426 yn427 (List.length yl421) (List.length yl421) (List.length yl421) yi2351 (0:Int))))))))
 (fun _ _=>K0)
 n17934300 (List.replicate (List.length p0) ((.int .i64 (0)):PV)) p0 p1 p2 yi1 (List.length p0) (List.length p0) (List.length p0) p1 (((List.length p1):Nat):Int) (0:Int)))))))
def yaI (p0 p1:Ls) (p2:Int) (K0:Prop) (K:Ls→Prop):Prop:=yjO yaf yag p0 p1 p2 K0 K
def ygQ (w:ya4) (as:Ls) (K:PV→Prop):Prop :=
 match as with
 | [(.data p0),(.data p1),(.int .i64 p2)]=>w p0 p1 p2 (K .nils) (fun r0=>K (.data r0))
 | _=>False
def ynQ (as:Ls) (K:PV→Prop):Prop:=ygQ yaI as K
def ydz (F:Frm) (H:Hp) (A0:Ls→Ls→Ls→Int→Int→Int→Int→Int→Prop) (A1:Ls→Ls→Ls→Ls→Int→Int→Int→Int→Int→Prop):Prop :=
 match F,H with
 | [(0,.v (.data l2)),(2,.v (.fn (.func q0) [] [])),(4,.box (.agg [(.int .i64 i3),(.int .i64 i4)])),(8,.v (.int .i64 i5)),(9,.v (.int .i64 i6)),(10,.v (.int .i64 i7))],[⟨false,true,1,[(.data l1)]⟩,⟨false,true,1,l0⟩]=>asr (Nat.beq q0 yaD) (A0 l0 l1 l2 i3 i4 i5 i6 i7)
 | [(0,.v (.data l3)),(2,.v (.fn (.func q0) [] [])),(4,.box (.agg [(.int .i64 i4),(.int .i64 i5)])),(8,.v (.int .i64 i6)),(9,.v (.int .i64 i7)),(10,.v (.int .i64 i8))],[⟨false,true,1,[(.data l2)]⟩,⟨false,true,1,l0⟩,⟨false,true,1,l1⟩]=>asr (Nat.beq q0 yaD) (A1 l0 l1 l2 l3 i4 i5 i6 i7 i8)
 | _,_=>False
def ydA (F:Frm) (H:Hp) (A0:Ls→Ls→Ls→Ls→Int→Int→Nat→Nat→Nat→Nat→Nat→Nat→Ls→Int→Int→Int→Prop):Prop :=
 match F,H with
 | [(1,.v (.data l3)),(2,.v (.int .i64 i4)),(7,.v (.fn (.func q0) [] [(.ptr 0 1 0 0)])),(8,.v (.int .i64 i5)),(9,.v (.own 1 0 n6 n7 (some n8))),(12,.v (.own 2 0 n9 n10 (some n11))),(13,.v (.data l12)),(14,.v (.int .i64 i13)),(59,.v (.int .i64 i14)),(60,.v (.int .i64 i15))],[⟨false,true,1,[(.data l2)]⟩,⟨false,true,1,l0⟩,⟨false,true,1,l1⟩]=>asr (Nat.beq q0 yaC) (A0 l0 l1 l2 l3 i4 i5 n6 n7 n8 n9 n10 n11 l12 i13 i14 i15)
 | _,_=>False
def ydB (F:Frm) (H:Hp) (A0:Ls→Ls→Ls→Ls→Int→Int→Nat→Nat→Nat→Nat→Nat→Nat→Ls→Int→Int→Ls→Int→Int→Prop):Prop :=
 match F,H with
 | [(1,.v (.data l3)),(2,.v (.int .i64 i4)),(7,.v (.fn (.func q0) [] [(.ptr 0 1 0 0)])),(8,.v (.int .i64 i5)),(9,.v (.own 1 0 n6 n7 (some n8))),(12,.v (.own 2 0 n9 n10 (some n11))),(13,.v (.data l12)),(59,.v (.int .i64 i13)),(60,.v (.int .i64 i14)),(88,.v (.data l15)),(89,.v (.int .i64 i16)),(90,.v (.int .i64 i17))],[⟨false,true,1,[(.data l2)]⟩,⟨false,true,1,l0⟩,⟨false,true,1,l1⟩]=>asr (Nat.beq q0 yaC) (A0 l0 l1 l2 l3 i4 i5 n6 n7 n8 n9 n10 n11 l12 i13 i14 l15 i16 i17)
 | _,_=>False
def ydC (F:Frm) (H:Hp) (A0:Ls→Ls→Ls→Int→Int→Nat→Nat→Nat→Ls→Int→Int→Prop):Prop :=
 match F,H with
 | [(1,.v (.data l2)),(2,.v (.int .i64 i3)),(3,.v (.ptr 0 1 0 0)),(7,.v (.fn (.func q0) [] [(.ptr 0 1 0 0)])),(8,.v (.int .i64 i4)),(9,.v (.own 1 0 n5 n6 (some n7))),(27,.v (.data l8)),(28,.v (.int .i64 i9)),(29,.v (.int .i64 i10))],[⟨false,true,1,[(.data l1)]⟩,⟨false,true,1,l0⟩]=>asr (Nat.beq q0 yaC) (A0 l0 l1 l2 i3 i4 n5 n6 n7 l8 i9 i10)
 | _,_=>False
def ydD (F:Frm) (H:Hp) (A0:Ls→Ls→Ls→Ls→Int→Int→Nat→Nat→Nat→Nat→Nat→Nat→Int→Int→Prop):Prop :=
 match F,H with
 | [(1,.v (.data l3)),(2,.v (.int .i64 i4)),(7,.v (.fn (.func q0) [] [(.ptr 0 1 0 0)])),(8,.v (.int .i64 i5)),(9,.v (.own 1 0 n6 n7 (some n8))),(12,.v (.own 2 0 n9 n10 (some n11))),(59,.v (.int .i64 i12)),(60,.v (.int .i64 i13))],[⟨false,true,1,[(.data l2)]⟩,⟨false,true,1,l0⟩,⟨false,true,1,l1⟩]=>asr (Nat.beq q0 yaC) (A0 l0 l1 l2 l3 i4 i5 n6 n7 n8 n9 n10 n11 i12 i13)
 | _,_=>False
def yhd (Q:Ex→Frm→Hp→Prop):Ls→Ls→Ls→Int→Int→Int→Int→Int→Bool→Prop:=(fun l0 l1 l2 i3 i4 i5 i6 i7 b8=>Q (.exit 0) [(0,.v (.data l2)),(2,.v (.fn (.func yaD) [] [])),(4,.box (.agg [(.int .i64 i3),(.int .i64 i4)])),(8,.v (.int .i64 i5)),(9,.v (.int .i64 i6)),(10,.v (.int .i64 i7)),(17,.v (.bool b8))] [⟨false,true,1,([(.data l1)]:Ls)⟩,⟨false,true,1,l0⟩])
def yhe (Q:Ex→Frm→Hp→Prop):Ls→Ls→Ls→Ls→Int→Int→Int→Int→Int→Bool→Prop:=(fun l0 l1 l2 l3 i4 i5 i6 i7 i8 b9=>Q (.exit 0) [(0,.v (.data l3)),(2,.v (.fn (.func yaD) [] [])),(4,.box (.agg [(.int .i64 i4),(.int .i64 i5)])),(8,.v (.int .i64 i6)),(9,.v (.int .i64 i7)),(10,.v (.int .i64 i8)),(17,.v (.bool b9))] [⟨false,true,1,([(.data l2)]:Ls)⟩,⟨false,true,1,l0⟩,⟨false,true,1,l1⟩])
def yhf (Q:Ex→Frm→Hp→Prop):Ls→Ls→Ls→Ls→Int→Int→Nat→Nat→Nat→Nat→Nat→Nat→Ls→Int→Int→Int→Bool→Prop:=(fun l0 l1 l2 l3 i4 i5 n6 n7 n8 n9 n10 n11 l12 i13 i14 i15 b16=>Q (.exit 5) [(1,.v (.data l3)),(2,.v (.int .i64 i4)),(7,.v (.fn (.func yaC) [] [(.ptr 0 1 0 0)])),(8,.v (.int .i64 i5)),(9,.v (.own 1 0 n6 n7 (some n8))),(12,.v (.own 2 0 n9 n10 (some n11))),(13,.v (.data l12)),(14,.v (.int .i64 i13)),(59,.v (.int .i64 i14)),(60,.v (.int .i64 i15)),(67,.v (.bool b16))] [⟨false,true,1,([(.data l2)]:Ls)⟩,⟨false,true,1,l0⟩,⟨false,true,1,l1⟩])
def yhg (Q:Ex→Frm→Hp→Prop):Ls→Ls→Ls→Ls→Int→Int→Nat→Nat→Nat→Nat→Nat→Nat→Ls→Int→Int→Ls→Int→Int→Bool→Prop:=(fun l0 l1 l2 l3 i4 i5 n6 n7 n8 n9 n10 n11 l12 i13 i14 l15 i16 i17 b18=>Q (.exit 7) [(1,.v (.data l3)),(2,.v (.int .i64 i4)),(7,.v (.fn (.func yaC) [] [(.ptr 0 1 0 0)])),(8,.v (.int .i64 i5)),(9,.v (.own 1 0 n6 n7 (some n8))),(12,.v (.own 2 0 n9 n10 (some n11))),(13,.v (.data l12)),(59,.v (.int .i64 i13)),(60,.v (.int .i64 i14)),(88,.v (.data l15)),(89,.v (.int .i64 i16)),(90,.v (.int .i64 i17)),(91,.v (.bool b18))] [⟨false,true,1,([(.data l2)]:Ls)⟩,⟨false,true,1,l0⟩,⟨false,true,1,l1⟩])
def yhh (Q:Ex→Frm→Hp→Prop):Ls→Ls→Ls→Int→Int→Nat→Nat→Nat→Ls→Int→Int→Bool→Prop:=(fun l0 l1 l2 i3 i4 n5 n6 n7 l8 i9 i10 b11=>Q (.exit 0) [(1,.v (.data l2)),(2,.v (.int .i64 i3)),(3,.v (.ptr 0 1 0 0)),(7,.v (.fn (.func yaC) [] [(.ptr 0 1 0 0)])),(8,.v (.int .i64 i4)),(9,.v (.own 1 0 n5 n6 (some n7))),(27,.v (.data l8)),(28,.v (.int .i64 i9)),(29,.v (.int .i64 i10)),(30,.v (.bool b11))] [⟨false,true,1,([(.data l1)]:Ls)⟩,⟨false,true,1,l0⟩])
def yhi (Q:Ex→Frm→Hp→Prop):Ls→Ls→Prop:=(fun l0 l1=>Q .ret [(6,.v .nils)] [⟨false,true,1,([(.data l1)]:Ls)⟩,⟨false,true,1,l0⟩])
def yhj (Q:Ex→Frm→Hp→Prop):Ls→Ls→Ls→Ls→Int→Int→Nat→Nat→Nat→Nat→Nat→Nat→Int→Int→Bool→Prop:=(fun l0 l1 l2 l3 i4 i5 n6 n7 n8 n9 n10 n11 i12 i13 b14=>Q (.exit 3) [(1,.v (.data l3)),(2,.v (.int .i64 i4)),(7,.v (.fn (.func yaC) [] [(.ptr 0 1 0 0)])),(8,.v (.int .i64 i5)),(9,.v (.own 1 0 n6 n7 (some n8))),(12,.v (.own 2 0 n9 n10 (some n11))),(59,.v (.int .i64 i12)),(60,.v (.int .i64 i13)),(61,.v (.bool b14))] [⟨false,true,1,([(.data l2)]:Ls)⟩,⟨false,true,1,l0⟩,⟨false,true,1,l1⟩])
def yhk (Q:Ex→Frm→Hp→Prop):Ls→Ls→Ls→Prop:=(fun l0 l1 l2=>Q .ret [(6,.v .nils)] [⟨false,true,1,([(.data l2)]:Ls)⟩,⟨false,true,1,l0⟩,⟨false,true,1,l1⟩])
def yhl (Q:Ex→Frm→Hp→Prop):Ls→Ls→Ls→Nat→Nat→Nat→Prop:=(fun l0 l1 l2 n3 n4 n5=>Q .ret [(6,.v (.own 2 0 n3 n4 (some n5)))] [⟨false,true,1,([(.data l2)]:Ls)⟩,⟨false,true,1,l0⟩,⟨false,true,1,l1⟩])
def yez (a0:yas) (a1:yaj) (Q:Ex→Frm→Hp→Prop) (n:Nat) (F:Frm) (H:Hp):Prop:=ydz F H (fun l0 l1 l2 i3 i4 i5 i6 i7=>yaP a0 a1 (yhd Q) n l0 l1 l2 i3 i4 i5 i6 i7) (fun l0 l1 l2 l3 i4 i5 i6 i7 i8=>yaJ a0 a1 (yhe Q) n l0 l1 l2 l3 i4 i5 i6 i7 i8)
def yf8 (a0:yas) (a1:yaj) (Q:Ex→Frm→Hp→Prop) (n:Nat) (F:Frm) (H:Hp):Prop:=ydA F H (fun l0 l1 l2 l3 i4 i5 n6 n7 n8 n9 n10 n11 l12 i13 i14 i15=>ybh a0 a1 (yhf Q) n l0 l1 l2 l3 i4 i5 n6 n7 n8 n9 n10 n11 l12 i13 i14 i15)
def yf9 (a0:yas) (a1:yaj) (Q:Ex→Frm→Hp→Prop) (n:Nat) (F:Frm) (H:Hp):Prop:=ydB F H (fun l0 l1 l2 l3 i4 i5 n6 n7 n8 n9 n10 n11 l12 i13 i14 l15 i16 i17=>yby a0 a1 (yhg Q) n l0 l1 l2 l3 i4 i5 n6 n7 n8 n9 n10 n11 l12 i13 i14 l15 i16 i17)
def yga (a0:yas) (a1:yaj) (Q:Ex→Frm→Hp→Prop) (n:Nat) (F:Frm) (H:Hp):Prop:=ydC F H (fun l0 l1 l2 i3 i4 n5 n6 n7 l8 i9 i10=>ya3 a0 a1 (yhh Q) (yhi Q) n l0 l1 l2 i3 i4 n5 n6 n7 l8 i9 i10)
def ygb (a0:yas) (a1:yaj) (Q:Ex→Frm→Hp→Prop) (n:Nat) (F:Frm) (H:Hp):Prop:=ydD F H (fun l0 l1 l2 l3 i4 i5 n6 n7 n8 n9 n10 n11 i12 i13=>ybz a0 a1 (yhj Q) (yhk Q) (yhl Q) n l0 l1 l2 l3 i4 i5 n6 n7 n8 n9 n10 n11 i12 i13)
def yaz (a0:yas) (a1:yaj):LP:=fun id F H Q =>
 bif Nat.beq id 10433800 then ydz F H (fun l0 l1 l2 i3 i4 i5 i6 i7=>∃ n:Nat,yaP a0 a1 (yhd Q) n l0 l1 l2 i3 i4 i5 i6 i7) (fun l0 l1 l2 l3 i4 i5 i6 i7 i8=>∃ n:Nat,yaJ a0 a1 (yhe Q) n l0 l1 l2 l3 i4 i5 i6 i7 i8) else
 bif Nat.beq id 17934301 then ydA F H (fun l0 l1 l2 l3 i4 i5 n6 n7 n8 n9 n10 n11 l12 i13 i14 i15=>∃ n:Nat,ybh a0 a1 (yhf Q) n l0 l1 l2 l3 i4 i5 n6 n7 n8 n9 n10 n11 l12 i13 i14 i15) else
 bif Nat.beq id 17934302 then ydB F H (fun l0 l1 l2 l3 i4 i5 n6 n7 n8 n9 n10 n11 l12 i13 i14 l15 i16 i17=>∃ n:Nat,yby a0 a1 (yhg Q) n l0 l1 l2 l3 i4 i5 n6 n7 n8 n9 n10 n11 l12 i13 i14 l15 i16 i17) else
 bif Nat.beq id 17934300 then ydC F H (fun l0 l1 l2 i3 i4 n5 n6 n7 l8 i9 i10=>∃ n:Nat,ya3 a0 a1 (yhh Q) (yhi Q) n l0 l1 l2 i3 i4 n5 n6 n7 l8 i9 i10) else
 bif Nat.beq id 17934303 then ydD F H (fun l0 l1 l2 l3 i4 i5 n6 n7 n8 n9 n10 n11 i12 i13=>∃ n:Nat,ybz a0 a1 (yhj Q) (yhk Q) (yhl Q) n l0 l1 l2 l3 i4 i5 n6 n7 n8 n9 n10 n11 i12 i13) else
 False
def ygR (a0:yas) (a1:yaj):SE:=⟨(E ef0),lookS [(yaD,yeZ a0),(yci,ydQ a1)],lookI [(yaC,ymG)],yaz a0 a1⟩
def ye2 (a0:yas) (a1:yaj):SE:=⟨(E ef0),lookS [(yaD,yeZ a0),(yci,ydQ a1)],lookI [(yaC,ymG),(yaU,yd5)],yaz a0 a1⟩
theorem ymM:SEOk (ygR yaf yag):=yai ⟨(ygu ef0 effG0),(yfs ef0 effG0),trivial⟩ ⟨⟨by kernel_rfl,by kernel_rfl,rfl,fun as=>yac (by kernel_rfl) as,effG0.num _ (by kernel_rfl),(yah (by kernel_rfl))⟩,trivial⟩ effG0.ok
theorem yoy (a0 a1 Q n l0 l1 l2 i3 i4 i5 i6 i7):WC (E ef0) (callW (ygR a0 a1) 5) (yaz a0 a1) yjp [(0,.v (.data l2)),(2,.v (.fn (.func yaD) [] [])),(4,.box (.agg [(.int .i64 i3),(.int .i64 i4)])),(8,.v (.int .i64 i5)),(9,.v (.int .i64 i6)),(10,.v (.int .i64 i7))] [⟨false,true,1,([(.data l1)]:Ls)⟩,⟨false,true,1,l0⟩] (fun x F' H'=>match x with | .norm=>yez a0 a1 Q n F' H' | .exit i=>Q (.exit i) F' H' | .ret=>Q .ret F' H')=yaP a0 a1 (yhd Q) (n+1) l0 l1 l2 i3 i4 i5 i6 i7:=by kernel_rfl
theorem yoz (a0 a1 Q n l0 l1 l2 l3 i4 i5 i6 i7 i8):WC (E ef0) (callW (ygR a0 a1) 5) (yaz a0 a1) yjp [(0,.v (.data l3)),(2,.v (.fn (.func yaD) [] [])),(4,.box (.agg [(.int .i64 i4),(.int .i64 i5)])),(8,.v (.int .i64 i6)),(9,.v (.int .i64 i7)),(10,.v (.int .i64 i8))] [⟨false,true,1,([(.data l2)]:Ls)⟩,⟨false,true,1,l0⟩,⟨false,true,1,l1⟩] (fun x F' H'=>match x with | .norm=>yez a0 a1 Q n F' H' | .exit i=>Q (.exit i) F' H' | .ret=>Q .ret F' H')=yaJ a0 a1 (yhe Q) (n+1) l0 l1 l2 l3 i4 i5 i6 i7 i8:=by kernel_rfl
theorem yrq:LpOk (E ef0) (yaz yaf yag) yjp:=(yah (by kernel_rfl))
theorem yqi:∀ F H Q,yaz yaf yag 10433800 F H Q→LoopT (E ef0) yjp F H Q:=by
 intro F H Q h
 have go:=LoopT.intro (yaF (ymM) 5) (yrq) (yez yaf yag Q) (by
   intro F H h
   unfold yez ydz at h
   split at h
   · obtain ⟨hg,k⟩:=yad.1 h
     clear h
     have h:=k
     clear k
     try simp only [Bool.and_eq_true,decide_eq_true_eq] at hg
     have g0:=hg;have g0:=Nat.eq_of_beq_eq_true g0;subst g0;exact h
   · obtain ⟨hg,k⟩:=yad.1 h
     clear h
     have h:=k
     clear k
     try simp only [Bool.and_eq_true,decide_eq_true_eq] at hg
     have g0:=hg;have g0:=Nat.eq_of_beq_eq_true g0;subst g0;exact h
   · exact h) (by
   intro n F H h
   unfold yez ydz at h
   split at h
   · obtain ⟨hg,k⟩:=yad.1 h
     clear h
     have h:=k
     clear k
     try simp only [Bool.and_eq_true,decide_eq_true_eq] at hg
     have g0:=hg;have g0:=Nat.eq_of_beq_eq_true g0;subst g0;exact (yoy ..).mpr h
   · obtain ⟨hg,k⟩:=yad.1 h
     clear h
     have h:=k
     clear k
     try simp only [Bool.and_eq_true,decide_eq_true_eq] at hg
     have g0:=hg;have g0:=Nat.eq_of_beq_eq_true g0;subst g0;exact (yoz ..).mpr h
   · exact h.elim)
 have h:ydz F H _ _:=h
 unfold ydz at h
 split at h
 · obtain ⟨hg,n,h⟩:=yad.1 h;exact go n _ _ (yad.2 ⟨hg,h⟩)
 · obtain ⟨hg,n,h⟩:=yad.1 h;exact go n _ _ (yad.2 ⟨hg,h⟩)
 · exact h.elim
theorem yoA (a0 a1 Q n l0 l1 l2 l3 i4 i5 n6 n7 n8 n9 n10 n11 l12 i13 i14 i15):WC (E ef0) (callW (ygR a0 a1) 5) (yaz a0 a1) yjq [(1,.v (.data l3)),(2,.v (.int .i64 i4)),(7,.v (.fn (.func yaC) [] [(.ptr 0 1 0 0)])),(8,.v (.int .i64 i5)),(9,.v (.own 1 0 n6 n7 (some n8))),(12,.v (.own 2 0 n9 n10 (some n11))),(13,.v (.data l12)),(14,.v (.int .i64 i13)),(59,.v (.int .i64 i14)),(60,.v (.int .i64 i15))] [⟨false,true,1,([(.data l2)]:Ls)⟩,⟨false,true,1,l0⟩,⟨false,true,1,l1⟩] (fun x F' H'=>match x with | .norm=>yf8 a0 a1 Q n F' H' | .exit i=>Q (.exit i) F' H' | .ret=>Q .ret F' H')=ybh a0 a1 (yhf Q) (n+1) l0 l1 l2 l3 i4 i5 n6 n7 n8 n9 n10 n11 l12 i13 i14 i15:=by kernel_rfl
theorem yrr:LpOk (E ef0) (yaz yaf yag) yjq:=(yah (by kernel_rfl))
theorem yku:∀ F H Q,yaz yaf yag 17934301 F H Q→LoopT (E ef0) yjq F H Q:=by
 intro F H Q h
 have go:=LoopT.intro (yaF (ymM) 5) (yrr) (yf8 yaf yag Q) (by
   intro F H h
   unfold yf8 ydA at h
   split at h
   · obtain ⟨hg,k⟩:=yad.1 h
     clear h
     have h:=k
     clear k
     try simp only [Bool.and_eq_true,decide_eq_true_eq] at hg
     have g0:=hg;have g0:=Nat.eq_of_beq_eq_true g0;subst g0;exact h
   · exact h) (by
   intro n F H h
   unfold yf8 ydA at h
   split at h
   · obtain ⟨hg,k⟩:=yad.1 h
     clear h
     have h:=k
     clear k
     try simp only [Bool.and_eq_true,decide_eq_true_eq] at hg
     have g0:=hg;have g0:=Nat.eq_of_beq_eq_true g0;subst g0;exact (yoA ..).mpr h
   · exact h.elim)
 have h:ydA F H _:=h
 unfold ydA at h
 split at h
 · obtain ⟨hg,n,h⟩:=yad.1 h;exact go n _ _ (yad.2 ⟨hg,h⟩)
 · exact h.elim
theorem ygc:SEOk (ye2 yaf yag):=yai ⟨(ygu ef0 effG0),(yfs ef0 effG0),trivial⟩ ⟨⟨by kernel_rfl,by kernel_rfl,rfl,fun as=>yac (by kernel_rfl) as,effG0.num _ (by kernel_rfl),(yah (by kernel_rfl))⟩,⟨by kernel_rfl,by kernel_rfl,rfl,fun as=>yac (by kernel_rfl) as,effG0.num _ (by kernel_rfl),(ybe (l:=[(10433800,yjp)]) ⟨yqi,trivial⟩ (by kernel_rfl))⟩,trivial⟩ effG0.ok
theorem yoB (a0 a1 Q n l0 l1 l2 l3 i4 i5 n6 n7 n8 n9 n10 n11 l12 i13 i14 l15 i16 i17):WC (E ef0) (callW (ye2 a0 a1) 5) (yaz a0 a1) yjr [(1,.v (.data l3)),(2,.v (.int .i64 i4)),(7,.v (.fn (.func yaC) [] [(.ptr 0 1 0 0)])),(8,.v (.int .i64 i5)),(9,.v (.own 1 0 n6 n7 (some n8))),(12,.v (.own 2 0 n9 n10 (some n11))),(13,.v (.data l12)),(59,.v (.int .i64 i13)),(60,.v (.int .i64 i14)),(88,.v (.data l15)),(89,.v (.int .i64 i16)),(90,.v (.int .i64 i17))] [⟨false,true,1,([(.data l2)]:Ls)⟩,⟨false,true,1,l0⟩,⟨false,true,1,l1⟩] (fun x F' H'=>match x with | .norm=>yf9 a0 a1 Q n F' H' | .exit i=>Q (.exit i) F' H' | .ret=>Q .ret F' H')=yby a0 a1 (yhg Q) (n+1) l0 l1 l2 l3 i4 i5 n6 n7 n8 n9 n10 n11 l12 i13 i14 l15 i16 i17:=by kernel_rfl
theorem yrs:LpOk (E ef0) (yaz yaf yag) yjr:=(yah (by kernel_rfl))
theorem ykv:∀ F H Q,yaz yaf yag 17934302 F H Q→LoopT (E ef0) yjr F H Q:=by
 intro F H Q h
 have go:=LoopT.intro (yaF (ygc) 5) (yrs) (yf9 yaf yag Q) (by
   intro F H h
   unfold yf9 ydB at h
   split at h
   · obtain ⟨hg,k⟩:=yad.1 h
     clear h
     have h:=k
     clear k
     try simp only [Bool.and_eq_true,decide_eq_true_eq] at hg
     have g0:=hg;have g0:=Nat.eq_of_beq_eq_true g0;subst g0;exact h
   · exact h) (by
   intro n F H h
   unfold yf9 ydB at h
   split at h
   · obtain ⟨hg,k⟩:=yad.1 h
     clear h
     have h:=k
     clear k
     try simp only [Bool.and_eq_true,decide_eq_true_eq] at hg
     have g0:=hg;have g0:=Nat.eq_of_beq_eq_true g0;subst g0;exact (yoB ..).mpr h
   · exact h.elim)
 have h:ydB F H _:=h
 unfold ydB at h
 split at h
 · obtain ⟨hg,n,h⟩:=yad.1 h;exact go n _ _ (yad.2 ⟨hg,h⟩)
 · exact h.elim
theorem yoC (a0 a1 Q n l0 l1 l2 i3 i4 n5 n6 n7 l8 i9 i10):WC (E ef0) (callW (ye2 a0 a1) 5) (yaz a0 a1) ylJ [(1,.v (.data l2)),(2,.v (.int .i64 i3)),(3,.v (.ptr 0 1 0 0)),(7,.v (.fn (.func yaC) [] [(.ptr 0 1 0 0)])),(8,.v (.int .i64 i4)),(9,.v (.own 1 0 n5 n6 (some n7))),(27,.v (.data l8)),(28,.v (.int .i64 i9)),(29,.v (.int .i64 i10))] [⟨false,true,1,([(.data l1)]:Ls)⟩,⟨false,true,1,l0⟩] (fun x F' H'=>match x with | .norm=>yga a0 a1 Q n F' H' | .exit i=>Q (.exit i) F' H' | .ret=>Q .ret F' H')=ya3 a0 a1 (yhh Q) (yhi Q) (n+1) l0 l1 l2 i3 i4 n5 n6 n7 l8 i9 i10:=by kernel_rfl
theorem yrt:LpOk (E ef0) (yaz yaf yag) ylJ:=(yah (by kernel_rfl))
theorem yqj:∀ F H Q,yaz yaf yag 17934300 F H Q→LoopT (E ef0) ylJ F H Q:=by
 intro F H Q h
 have go:=LoopT.intro (yaF (ygc) 5) (yrt) (yga yaf yag Q) (by
   intro F H h
   unfold yga ydC at h
   split at h
   · obtain ⟨hg,k⟩:=yad.1 h
     clear h
     have h:=k
     clear k
     try simp only [Bool.and_eq_true,decide_eq_true_eq] at hg
     have g0:=hg;have g0:=Nat.eq_of_beq_eq_true g0;subst g0;exact h
   · exact h) (by
   intro n F H h
   unfold yga ydC at h
   split at h
   · obtain ⟨hg,k⟩:=yad.1 h
     clear h
     have h:=k
     clear k
     try simp only [Bool.and_eq_true,decide_eq_true_eq] at hg
     have g0:=hg;have g0:=Nat.eq_of_beq_eq_true g0;subst g0;exact (yoC ..).mpr h
   · exact h.elim)
 have h:ydC F H _:=h
 unfold ydC at h
 split at h
 · obtain ⟨hg,n,h⟩:=yad.1 h;exact go n _ _ (yad.2 ⟨hg,h⟩)
 · exact h.elim
theorem yoD (a0 a1 Q n l0 l1 l2 l3 i4 i5 n6 n7 n8 n9 n10 n11 i12 i13):WC (E ef0) (callW (ye2 a0 a1) 5) (yaz a0 a1) ylK [(1,.v (.data l3)),(2,.v (.int .i64 i4)),(7,.v (.fn (.func yaC) [] [(.ptr 0 1 0 0)])),(8,.v (.int .i64 i5)),(9,.v (.own 1 0 n6 n7 (some n8))),(12,.v (.own 2 0 n9 n10 (some n11))),(59,.v (.int .i64 i12)),(60,.v (.int .i64 i13))] [⟨false,true,1,([(.data l2)]:Ls)⟩,⟨false,true,1,l0⟩,⟨false,true,1,l1⟩] (fun x F' H'=>match x with | .norm=>ygb a0 a1 Q n F' H' | .exit i=>Q (.exit i) F' H' | .ret=>Q .ret F' H')=ybz a0 a1 (yhj Q) (yhk Q) (yhl Q) (n+1) l0 l1 l2 l3 i4 i5 n6 n7 n8 n9 n10 n11 i12 i13:=by kernel_rfl
theorem yru:LpOk (E ef0) (yaz yaf yag) ylK:=(ybe (l:=[(17934301,yjq),(17934302,yjr)]) ⟨yku,ykv,trivial⟩ (by kernel_rfl))
theorem yqk:∀ F H Q,yaz yaf yag 17934303 F H Q→LoopT (E ef0) ylK F H Q:=by
 intro F H Q h
 have go:=LoopT.intro (yaF (ygc) 5) (yru) (ygb yaf yag Q) (by
   intro F H h
   unfold ygb ydD at h
   split at h
   · obtain ⟨hg,k⟩:=yad.1 h
     clear h
     have h:=k
     clear k
     try simp only [Bool.and_eq_true,decide_eq_true_eq] at hg
     have g0:=hg;have g0:=Nat.eq_of_beq_eq_true g0;subst g0;exact h
   · exact h) (by
   intro n F H h
   unfold ygb ydD at h
   split at h
   · obtain ⟨hg,k⟩:=yad.1 h
     clear h
     have h:=k
     clear k
     try simp only [Bool.and_eq_true,decide_eq_true_eq] at hg
     have g0:=hg;have g0:=Nat.eq_of_beq_eq_true g0;subst g0;exact (yoD ..).mpr h
   · exact h.elim)
 have h:ydD F H _:=h
 unfold ydD at h
 split at h
 · obtain ⟨hg,n,h⟩:=yad.1 h;exact go n _ _ (yad.2 ⟨hg,h⟩)
 · exact h.elim
theorem yvr (a0 a1 p0 p1 p2 K0 K):WPN (ye2 a0 a1) 6 ywv [(.data p0),(.data p1),(.int .i64 p2)] K0 K=yjO a0 a1 p0 p1 p2 K0 (fun r0=>K (.data r0)):=by kernel_rfl
theorem ye3:OkF (E ef0) ynQ ycn:=by
 intro as K h
 unfold ynQ ygQ at h
 split at h
 · exact yMl (ygc) (ybe (l:=[(17934300,ylJ),(17934301,yjq),(17934302,yjr),(17934303,ylK)]) ⟨yqj,yku,ykv,yqk,trivial⟩ (by kernel_rfl)) (by kernel_rfl) (by kernel_rfl) (fun _=>yac (by kernel_rfl) _) (effG0.num _ (by kernel_rfl)) ((yvr ..).mpr h)
 · exact h.elim
abbrev ybO:Type:=Int→Ls→(Ls→Ls→Int→Prop)→Prop
def yce (a0:yav) (a1:ybi) (a2:yao) (a3:ya4) (a4:yfn) (x1:Ls→Int→Ls→Ls→Ls→Int→Int→Bool→Prop):Nat→Ls→Int→Ls→Ls→Ls→Int→Int→Prop
 | 0,_,_,_,_,_,_,_=>False
 | n+1,l0,i1,l2,l5,l6,i7,i8 =>
 (cbr (decide (i8<i7))
 (asr (decide ((0:Int)≤i8))
 (asr (decide (i8<(((List.length l6):Nat):Int)))
 (lt (List.getD l6 (i8.toNat) .nils) (fun yr50 =>
 (asr (conf (.one (.i .i64)) yr50)
 (lt (IntKind.i64.wrap ((((List.length l5):Nat):Int)+(1:Int))) (fun yi56 =>
 (lt (IntKind.i64.wrap (i1*yi56)) (fun yi57 =>
 (a4 (intOfV yr50) yi57 (fun yi58 yi59 _ =>
 (asr (decide ((List.length l0)=(List.length l0)))
 (asr (decide ((0+(List.length l0))≤(List.length l0)))
 (asr (!(decide (((0+(List.length l0))+1)≤(List.length l0))))
 (asr (decide ((List.length l0)=(List.length l0)))
 (asr (decide ((((List.length l0)+1)+64)*(16+1)≤room))
 (lt (IntKind.i64.wrap (i8+(1:Int))) (fun yi61 =>
 (asr (decide ((List.length (l0++([(.agg [(.int .i64 yi58),(.int .i64 yi59)])]:Ls)))=List.length (l0++([(.agg [(.int .i64 yi58),(.int .i64 yi59)])]:Ls)))&&decide ((List.length (l0++([(.agg [(.int .i64 yi58),(.int .i64 yi59)])]:Ls)))=List.length (l0++([(.agg [(.int .i64 yi58),(.int .i64 yi59)])]:Ls))))
 (yce a0 a1 a2 a3 a4 x1 n (l0++([(.agg [(.int .i64 yi58),(.int .i64 yi59)])]:Ls)) i1 l2 l5 l6 i7 yi61))))))))))))))))))))
 (x1 l0 i1 l2 l5 l6 i7 i8 false))
def yeA (a0:yav) (a1:ybi) (a2:yao) (a3:ya4) (a4:yfn) (x0:Int→Ls→Ls→Ls→Int→Int→Bool→Prop) (x1:Ls→Int→Ls→Ls→Ls→Int→Int→Bool→Prop):Nat→Int→Ls→Ls→Ls→Int→Int→Prop
 | 0,_,_,_,_,_,_=>False
 | n+1,i0,l1,l2,l3,i4,i5 =>
 (cbr (decide (i5<i4))
 (asr (decide ((0:Int)≤i5))
 (asr (decide (i5<(((List.length l3):Nat):Int)))
 (lt (List.getD l3 (i5.toNat) .nils) (fun yr25 =>
 (asr (conf (.one (.i .i64)) yr25)
 (lt (IntKind.i64.wrap ((((List.length l2):Nat):Int)+(1:Int))) (fun yi31 =>
 (lt (IntKind.i64.wrap (i0*yi31)) (fun yi32 =>
 (a4 (intOfV yr25) yi32 (fun yi33 yi34 _ =>
 (lt (IntKind.i64.wrap (i5+(1:Int))) (fun yi36 =>
 (asr (decide (1=List.length ([(.agg [(.int .i64 yi33),(.int .i64 yi34)])]:Ls))&&decide (1=List.length ([(.agg [(.int .i64 yi33),(.int .i64 yi34)])]:Ls)))
 (yce a0 a1 a2 a3 a4 x1 n ([(.agg [(.int .i64 yi33),(.int .i64 yi34)])]:Ls) i0 l1 l2 l3 i4 yi36)))))))))))))))
 (x0 i0 l1 l2 l3 i4 i5 false))
def yme (a0:yav) (a1:ybi) (a2:yao) (a3:ya4) (a4:yfn) (p0:Int) (p1:Ls) (K:Ls→Ls→Int→Prop):Prop :=
 (a0 p0 p1 (fun yl2 yi3 =>
 (cbr (yi3 !=(0:Int))
 (K ([]:Ls) ([]:Ls) yi3)
 (a1 yl2 (fun yi6 yi7 =>
 (cbr (yi7 !=(0:Int))
 (K ([]:Ls) ([]:Ls) yi7)
 (a2 p0 yl2 (fun yl9 =>
 (a3 yl9 yl2 yi6
 (K ([]:Ls) ([]:Ls) (6:Int))
 (fun yl11 =>
 (asr (!(List.isEmpty yl11))
 (∃ n:Nat,yeA a0 a1 a2 a3 a4
 (fun _ yl78 _ _ _ _ _=>(K yl78 ([]:Ls) (0:Int)))
 (fun yl84 _ yl86 _ _ _ _ _=>(asr (decide ((List.length yl84)=(List.length yl84)))
 (asr (decide ((0+(List.length yl84))≤(List.length yl84)))
 (K yl86 (List.take (List.length yl84) yl84) (0:Int)))))
 n yi6 yl9 yl11 yl11 (((List.length yl11):Nat):Int) (0:Int)))))))))))))
def ybj (p0:Int) (p1:Ls) (K:Ls→Ls→Int→Prop):Prop:=yme yaw ya2 yan yaI ybS p0 p1 K
def yiE (w:ybO) (as:Ls) (K:PV→Prop):Prop :=
 match as with
 | [(.int .i64 p0),(.data p1)]=>w p0 p1 (fun r0 r1 r2=>K (.tup [(.agg [(.data r0),(.data r1)]),(.int .i64 r2)]))
 | _=>False
def yql (as:Ls) (K:PV→Prop):Prop:=yiE ybj as K
def yeq (F:Frm) (H:Hp) (A0:Int→Ls→Ls→Ls→Int→Int→Prop) (A1:Ls→Int→Ls→Ls→Ls→Int→Int→Prop):Prop :=
 match F,H with
 | [(4,.box (.agg [.nils,.nils])),(8,.v (.int .i64 i0)),(9,.box (.agg [(.data l1),.nils])),(10,.v (.data l2)),(46,.v (.data l3)),(47,.v (.int .i64 i4)),(48,.v (.int .i64 i5))],[]=>(A0 i0 l1 l2 l3 i4 i5)
 | [(4,.box (.agg [.nils,.nils])),(8,.v (.int .i64 i1)),(9,.box (.agg [(.data l2),(.own 0 0 t3 t4 none)])),(10,.v (.data l5)),(46,.v (.data l6)),(47,.v (.int .i64 i7)),(48,.v (.int .i64 i8))],[⟨false,true,2,l0⟩]=>asr (decide (t3=List.length l0)&&decide (t4=List.length l0)) (A1 l0 i1 l2 l5 l6 i7 i8)
 | _,_=>False
def yiF (Q:Ex→Frm→Hp→Prop):Int→Ls→Ls→Ls→Int→Int→Bool→Prop:=(fun i0 l1 l2 l3 i4 i5 b6=>Q (.exit 0) [(4,.box (.agg [.nils,.nils])),(8,.v (.int .i64 i0)),(9,.box (.agg [(.data l1),.nils])),(10,.v (.data l2)),(46,.v (.data l3)),(47,.v (.int .i64 i4)),(48,.v (.int .i64 i5)),(49,.v (.bool b6))] [])
def ydE (Q:Ex→Frm→Hp→Prop):Ls→Int→Ls→Ls→Ls→Int→Int→Bool→Prop:=(fun l0 i1 l2 l5 l6 i7 i8 b9=>Q (.exit 0) [(4,.box (.agg [.nils,.nils])),(8,.v (.int .i64 i1)),(9,.box (.agg [(.data l2),(.own 0 0 (List.length l0) (List.length l0) none)])),(10,.v (.data l5)),(46,.v (.data l6)),(47,.v (.int .i64 i7)),(48,.v (.int .i64 i8)),(49,.v (.bool b9))] [⟨false,true,2,l0⟩])
def yfG (a0:yav) (a1:ybi) (a2:yao) (a3:ya4) (a4:yfn) (Q:Ex→Frm→Hp→Prop) (n:Nat) (F:Frm) (H:Hp):Prop:=yeq F H (fun i0 l1 l2 l3 i4 i5=>yeA a0 a1 a2 a3 a4 (yiF Q) (ydE Q) n i0 l1 l2 l3 i4 i5) (fun l0 i1 l2 l5 l6 i7 i8=>yce a0 a1 a2 a3 a4 (ydE Q) n l0 i1 l2 l5 l6 i7 i8)
def ygA (a0:yav) (a1:ybi) (a2:yao) (a3:ya4) (a4:yfn):LP:=fun id F H Q =>
 bif Nat.beq id 81034600 then yeq F H (fun i0 l1 l2 l3 i4 i5=>∃ n:Nat,yeA a0 a1 a2 a3 a4 (yiF Q) (ydE Q) n i0 l1 l2 l3 i4 i5) (fun l0 i1 l2 l5 l6 i7 i8=>∃ n:Nat,yce a0 a1 a2 a3 a4 (ydE Q) n l0 i1 l2 l5 l6 i7 i8) else
 False
def yiG (a0:yav) (a1:ybi) (a2:yao) (a3:ya4) (a4:yfn):SE:=⟨(E ef0),lookS [(ycM,yfE a0),(yeH,yix a1),(ybQ,yey a2),(ycn,ygQ a3),(yii,yne a4)],lookI [],ygA a0 a1 a2 a3 a4⟩
theorem ypr:SEOk (yiG yaw ya2 yan yaI ybS):=yai ⟨(yhx ef0 effG0),(ymd ef0 effG0),yf7,ye3,(yrQ ef0 effG0),trivial⟩ trivial effG0.ok
theorem yqm (a0 a1 a2 a3 a4 Q n i0 l1 l2 l3 i4 i5):WC (E ef0) (callW (yiG a0 a1 a2 a3 a4) 5) (ygA a0 a1 a2 a3 a4) yjs [(4,.box (.agg [.nils,.nils])),(8,.v (.int .i64 i0)),(9,.box (.agg [(.data l1),.nils])),(10,.v (.data l2)),(46,.v (.data l3)),(47,.v (.int .i64 i4)),(48,.v (.int .i64 i5))] [] (fun x F' H'=>match x with | .norm=>yfG a0 a1 a2 a3 a4 Q n F' H' | .exit i=>Q (.exit i) F' H' | .ret=>Q .ret F' H')=yeA a0 a1 a2 a3 a4 (yiF Q) (ydE Q) (n+1) i0 l1 l2 l3 i4 i5:=by kernel_rfl
theorem yqn (a0 a1 a2 a3 a4 Q n l0 i1 l2 l5 l6 i7 i8):WC (E ef0) (callW (yiG a0 a1 a2 a3 a4) 5) (ygA a0 a1 a2 a3 a4) yjs [(4,.box (.agg [.nils,.nils])),(8,.v (.int .i64 i1)),(9,.box (.agg [(.data l2),(.own 0 0 (List.length l0) (List.length l0) none)])),(10,.v (.data l5)),(46,.v (.data l6)),(47,.v (.int .i64 i7)),(48,.v (.int .i64 i8))] [⟨false,true,2,l0⟩] (fun x F' H'=>match x with | .norm=>yfG a0 a1 a2 a3 a4 Q n F' H' | .exit i=>Q (.exit i) F' H' | .ret=>Q .ret F' H')=yce a0 a1 a2 a3 a4 (ydE Q) (n+1) l0 i1 l2 l5 l6 i7 i8:=by kernel_rfl
theorem ytV:LpOk (E ef0) (ygA yaw ya2 yan yaI ybS) yjs:=(yah (by kernel_rfl))
theorem ysK:∀ F H Q,ygA yaw ya2 yan yaI ybS 81034600 F H Q→LoopT (E ef0) yjs F H Q:=by
 intro F H Q h
 have go:=LoopT.intro (yaF (ypr) 5) (ytV) (yfG yaw ya2 yan yaI ybS Q) (by
   intro F H h
   unfold yfG yeq at h
   split at h
   · exact h
   · obtain ⟨hg,k⟩:=yad.1 h
     clear h
     have h:=k
     clear k
     try simp only [Bool.and_eq_true,decide_eq_true_eq] at hg
     obtain ⟨g0,g1⟩:=hg;subst g0;subst g1;exact h
   · exact h) (by
   intro n F H h
   unfold yfG yeq at h
   split at h
   · exact (yqm ..).mpr h
   · obtain ⟨hg,k⟩:=yad.1 h
     clear h
     have h:=k
     clear k
     try simp only [Bool.and_eq_true,decide_eq_true_eq] at hg
     obtain ⟨g0,g1⟩:=hg;subst g0;subst g1;exact (yqn ..).mpr h
   · exact h.elim)
 have h:yeq F H _ _:=h
 unfold yeq at h
 split at h
 · obtain ⟨n,h⟩:=h;exact go n _ _ h
 · obtain ⟨hg,n,h⟩:=yad.1 h;exact go n _ _ (yad.2 ⟨hg,h⟩)
 · exact h.elim
theorem yya (a0 a1 a2 a3 a4 p0 p1 K):WP (yiG a0 a1 a2 a3 a4) 6 yzc [(.int .i64 p0),(.data p1)] K=yme a0 a1 a2 a3 a4 p0 p1 (fun r0 r1 r2=>K (.tup [(.agg [(.data r0),(.data r1)]),(.int .i64 r2)])):=by kernel_rfl
theorem ymf:OkF (E ef0) yql ydh:=by
 intro as K h
 unfold yql yiE at h
 split at h
 · exact WP_ok (ypr) (ybe (l:=[(81034600,yjs)]) ⟨ysK,trivial⟩ (by kernel_rfl)) (by kernel_rfl) (by kernel_rfl) (fun _=>yac (by kernel_rfl) _) (effG0.num _ (by kernel_rfl)) ((yya ..).mpr h)
 · exact h.elim
abbrev ybP:Type:=Int→Ls→(Int→Int→Prop)→Prop
def ycf (a0:yav) (a1:ybi) (a2:yao) (a3:ya4) (x0:Int→Ls→Int→Int→Int→Bool→Prop):Nat→Int→Ls→Int→Int→Int→Prop
 | 0,_,_,_,_,_=>False
 | n+1,i0,l1,i2,i3,i4 =>
 (lt (IntKind.i64.wrap (i4-i3)) (fun yi13 =>
 (cbr (decide (yi13>(1:Int)))
 (lt (IntKind.i64.wrap (i3+i4)) (fun yi16 =>
 (lt (IntKind.i64.wrap (Int.tdiv yi16 (2:Int))) (fun yi17 =>
 (jn (fun (yj21:Bool→Prop) =>
 (asr (decide ((0:Int)≤yi17))
 (asr (decide (yi17≤(((List.length l1):Nat):Int)))
 (a2 i0 (List.take (yi17.toNat) l1) (fun yl22 =>
 (asr (decide ((0:Int)≤yi17))
 (asr (decide (yi17≤(((List.length l1):Nat):Int)))
 (a3 yl22 (List.take (yi17.toNat) l1) i2
 (yj21 true)
 (fun yl23 =>
 (asr (!(List.isEmpty yl23))
 (yj21 false)))))))))))
 (fun yb20=>(cbr yb20
 (ycf a0 a1 a2 a3 x0 n i0 l1 i2 i3 yi17)
 (ycf a0 a1 a2 a3 x0 n i0 l1 i2 yi17 i4))))))))
 (x0 i0 l1 i2 i3 i4 false))))
def ymg (a0:yav) (a1:ybi) (a2:yao) (a3:ya4) (p0:Int) (p1:Ls) (K:Int→Int→Prop):Prop :=
 (a0 p0 p1 (fun yl2 yi3 =>
 (cbr (yi3 !=(0:Int))
 (K (0:Int) yi3)
 (a1 yl2 (fun yi6 yi7 =>
 (cbr (yi7 !=(0:Int))
 (K (0:Int) yi7)
 (lt (IntKind.i64.wrap ((((List.length yl2):Nat):Int)+(1:Int))) (fun yi9 =>
 (∃ n:Nat,ycf a0 a1 a2 a3
 (fun _ _ _ yi33 _ _=>(K yi33 (0:Int)))
 n p0 yl2 yi6 (0:Int) yi9)))))))))
def ybt (p0:Int) (p1:Ls) (K:Int→Int→Prop):Prop:=ymg yaw ya2 yan yaI p0 p1 K
def yiH (w:ybP) (as:Ls) (K:PV→Prop):Prop :=
 match as with
 | [(.int .i64 p0),(.data p1)]=>w p0 p1 (fun r0 r1=>K (.tup [(.int .i64 r0),(.int .i64 r1)]))
 | _=>False
def yqo (as:Ls) (K:PV→Prop):Prop:=yiH ybt as K
def yer (F:Frm) (H:Hp) (A0:Int→Ls→Int→Int→Int→Prop):Prop :=
 match F,H with
 | [(0,.v (.int .i64 i0)),(6,.v (.data l1)),(8,.v (.int .i64 i2)),(9,.v (.int .i64 i3)),(10,.v (.int .i64 i4))],[]=>(A0 i0 l1 i2 i3 i4)
 | _,_=>False
def yiI (Q:Ex→Frm→Hp→Prop):Int→Ls→Int→Int→Int→Bool→Prop:=(fun i0 l1 i2 i3 i4 b5=>Q (.exit 0) [(0,.v (.int .i64 i0)),(6,.v (.data l1)),(8,.v (.int .i64 i2)),(9,.v (.int .i64 i3)),(10,.v (.int .i64 i4)),(35,.v (.bool b5))] [])
def yhC (a0:yav) (a1:ybi) (a2:yao) (a3:ya4) (Q:Ex→Frm→Hp→Prop) (n:Nat) (F:Frm) (H:Hp):Prop:=yer F H (fun i0 l1 i2 i3 i4=>ycf a0 a1 a2 a3 (yiI Q) n i0 l1 i2 i3 i4)
def yiJ (a0:yav) (a1:ybi) (a2:yao) (a3:ya4):LP:=fun id F H Q =>
 bif Nat.beq id 55097000 then yer F H (fun i0 l1 i2 i3 i4=>∃ n:Nat,ycf a0 a1 a2 a3 (yiI Q) n i0 l1 i2 i3 i4) else
 False
def ymh (a0:yav) (a1:ybi) (a2:yao) (a3:ya4):SE:=⟨(E ef0),lookS [(ycM,yfE a0),(yeH,yix a1),(ybQ,yey a2),(ycn,ygQ a3)],lookI [],yiJ a0 a1 a2 a3⟩
theorem yps:SEOk (ymh yaw ya2 yan yaI):=yai ⟨(yhx ef0 effG0),(ymd ef0 effG0),yf7,ye3,trivial⟩ trivial effG0.ok
theorem yqp (a0 a1 a2 a3 Q n i0 l1 i2 i3 i4):WC (E ef0) (callW (ymh a0 a1 a2 a3) 5) (yiJ a0 a1 a2 a3) ylL [(0,.v (.int .i64 i0)),(6,.v (.data l1)),(8,.v (.int .i64 i2)),(9,.v (.int .i64 i3)),(10,.v (.int .i64 i4))] [] (fun x F' H'=>match x with | .norm=>yhC a0 a1 a2 a3 Q n F' H' | .exit i=>Q (.exit i) F' H' | .ret=>Q .ret F' H')=ycf a0 a1 a2 a3 (yiI Q) (n+1) i0 l1 i2 i3 i4:=by kernel_rfl
theorem ytW:LpOk (E ef0) (yiJ yaw ya2 yan yaI) ylL:=(yah (by kernel_rfl))
theorem ysL:∀ F H Q,yiJ yaw ya2 yan yaI 55097000 F H Q→LoopT (E ef0) ylL F H Q:=by
 intro F H Q h
 have go:=LoopT.intro (yaF (yps) 5) (ytW) (yhC yaw ya2 yan yaI Q) (by
   intro F H h
   unfold yhC yer at h
   split at h
   · exact h
   · exact h) (by
   intro n F H h
   unfold yhC yer at h
   split at h
   · exact (yqp ..).mpr h
   · exact h.elim)
 have h:yer F H _:=h
 unfold yer at h
 split at h
 · obtain ⟨n,h⟩:=h;exact go n _ _ h
 · exact h.elim
theorem yyb (a0 a1 a2 a3 p0 p1 K):WP (ymh a0 a1 a2 a3) 6 yzd [(.int .i64 p0),(.data p1)] K=ymg a0 a1 a2 a3 p0 p1 (fun r0 r1=>K (.tup [(.int .i64 r0),(.int .i64 r1)])):=by kernel_rfl
theorem ymi:OkF (E ef0) yqo yeI:=by
 intro as K h
 unfold yqo yiH at h
 split at h
 · exact WP_ok (yps) (ybe (l:=[(55097000,ylL)]) ⟨ysL,trivial⟩ (by kernel_rfl)) (by kernel_rfl) (by kernel_rfl) (fun _=>yac (by kernel_rfl) _) (effG0.num _ (by kernel_rfl)) ((yyb ..).mpr h)
 · exact h.elim
abbrev ycL:Type:=Int→Ls→Ls→(Bool→Prop)→Prop
def ycg (a0:yaA) (a1:yas) (a2:yaB) (x0:Int→Ls→Ls→Int→Int→Int→Bool→Prop) (x1:Bool→Prop):Nat→Int→Ls→Ls→Int→Int→Int→Prop
 | 0,_,_,_,_,_,_=>False
 | n+1,i0,l1,l2,i3,i4,i5 =>
 (cbr (decide (i5<i4))
 (jn (fun (yj57:Bool→Prop) =>
 (asr (decide ((0:Int)≤i5))
 (asr (decide (i5<(((List.length l1):Nat):Int)))
 (lt (List.getD l1 (i5.toNat) .nils) (fun yr77 =>
 (asr (conf (.agg [.i .i64,.i .i64]) yr77)
 (a0 (intOfV (cellAt yr77 0)) (intOfV (cellAt yr77 1)) (fun yi78 =>
 (cbr (yi78 !=(0:Int))
 (yj57 true)
 (asr (decide ((0:Int)≤i5))
 (asr (decide (i5<(((List.length l2):Nat):Int)))
 (lt (List.getD l2 (i5.toNat) .nils) (fun yr79 =>
 (asr (conf (.agg [.i .i64,.i .i64]) yr79)
 (a0 (intOfV (cellAt yr79 0)) (intOfV (cellAt yr79 1)) (fun yi80 =>
 (yj57 (yi80 !=(0:Int)))))))))))))))))))
 (fun yb56=>(cbr yb56
 (x1 false)
 (jn (fun (yj67:Bool→Prop) =>
 (cbr (decide (i5>(0:Int)))
 (lt (IntKind.i64.wrap (i5-(1:Int))) (fun yi69 =>
 (asr (decide ((0:Int)≤yi69))
 (asr (decide (yi69<(((List.length l1):Nat):Int)))
 (lt (List.getD l1 (yi69.toNat) .nils) (fun yr70 =>
 (asr (conf (.agg [.i .i64,.i .i64]) yr70)
 (asr (decide ((0:Int)≤i5))
 (asr (decide (i5<(((List.length l1):Nat):Int)))
 (lt (List.getD l1 (i5.toNat) .nils) (fun yr71 =>
 (asr (conf (.agg [.i .i64,.i .i64]) yr71)
 (a1 (intOfV (cellAt yr70 0)) (intOfV (cellAt yr70 1)) (intOfV (cellAt yr71 0)) (intOfV (cellAt yr71 1)) (fun yi72 =>
 (cbr (decide (yi72≥(0:Int)))
 (yj67 true)
 (lt (IntKind.i64.wrap (i5-(1:Int))) (fun yi73 =>
 (asr (decide ((0:Int)≤yi73))
 (asr (decide (yi73<(((List.length l2):Nat):Int)))
 (lt (List.getD l2 (yi73.toNat) .nils) (fun yr74 =>
 (asr (conf (.agg [.i .i64,.i .i64]) yr74)
 (asr (decide ((0:Int)≤i5))
 (asr (decide (i5<(((List.length l2):Nat):Int)))
 (lt (List.getD l2 (i5.toNat) .nils) (fun yr75 =>
 (asr (conf (.agg [.i .i64,.i .i64]) yr75)
 (a1 (intOfV (cellAt yr74 0)) (intOfV (cellAt yr74 1)) (intOfV (cellAt yr75 0)) (intOfV (cellAt yr75 1)) (fun yi76 =>
 (yj67 (decide (yi76>(0:Int)))))))))))))))))))))))))))))))))
 (yj67 false)))
 (fun yb66=>(cbr yb66
 (x1 false)
 (lt (IntKind.i64.wrap (i5+(1:Int))) (fun yi68 =>
 (ycg a0 a1 a2 x0 x1 n i0 l1 l2 i3 i4 yi68)))))))))
 (x0 i0 l1 l2 i3 i4 i5 false))
def ymj (a0:yaA) (a1:yas) (a2:yaB) (p0:Int) (p1 p2:Ls) (K:Bool→Prop):Prop :=
 (jn (fun (yj3:Bool→Prop) =>
 (cbr (decide ((((List.length p1):Nat):Int)<(2:Int)))
 (yj3 true)
 (cbr (decide ((((List.length p1):Nat):Int)>(100:Int)))
 (yj3 true)
 (yj3 ((((List.length p2):Nat):Int) !=(((List.length p1):Nat):Int))))))
 (fun yb2=>(cbr yb2
 (K false)
 (∃ n:Nat,ycg a0 a1 a2
 (fun yi89 yl90 yl91 yi92 _ _ _=>(jn (fun (yj103:Bool→Prop) =>
 (asr (decide ((0:Int)<(((List.length yl90):Nat):Int)))
 (lt (List.getD yl90 0 .nils) (fun yr104 =>
 (asr (conf (.agg [.i .i64,.i .i64]) yr104)
 (cbr ((intOfV (cellAt yr104 0)) ==(0:Int))
 (asr (decide ((0:Int)<(((List.length yl91):Nat):Int)))
 (lt (List.getD yl91 0 .nils) (fun yr105 =>
 (asr (conf (.agg [.i .i64,.i .i64]) yr105)
 (cbr ((intOfV (cellAt yr105 0)) ==(0:Int))
 (lt (IntKind.i64.wrap (yi92-(1:Int))) (fun yi106 =>
 (asr (decide ((0:Int)≤yi106))
 (asr (decide (yi106<(((List.length yl90):Nat):Int)))
 (lt (List.getD yl90 (yi106.toNat) .nils) (fun yr107 =>
 (asr (conf (.agg [.i .i64,.i .i64]) yr107)
 (a2 yi89 (fun yi108 yi109 =>
 (yj103 (((intOfV (cellAt yr107 0)) == yi108)&&(((intOfV (cellAt yr107 1)) == yi109)&&true))))))))))))
 (yj103 false))))))
 (yj103 false)))))))
 (fun yb102=>(K yb102))))
 (fun yb110=>(K yb110))
 n p0 p1 p2 (((List.length p1):Nat):Int) (((List.length p1):Nat):Int) (0:Int)))))
def ybu (p0:Int) (p1 p2:Ls) (K:Bool→Prop):Prop:=ymj yal yaf yap p0 p1 p2 K
def ymk (w:ycL) (as:Ls) (K:PV→Prop):Prop :=
 match as with
 | [(.int .i64 p0),(.agg [(.data p1),(.data p2)])]=>w p0 p1 p2 (fun r0=>K (.bool r0))
 | _=>False
def yqq (as:Ls) (K:PV→Prop):Prop:=ymk ybu as K
def yet (F:Frm) (H:Hp) (A0:Int→Ls→Ls→Int→Int→Int→Prop):Prop :=
 match F,H with
 | [(0,.v (.int .i64 i0)),(3,.box (.agg [(.data l1),(.data l2)])),(5,.v (.int .i64 i3)),(23,.v (.int .i64 i4)),(24,.v (.int .i64 i5))],[]=>(A0 i0 l1 l2 i3 i4 i5)
 | _,_=>False
def yiK (Q:Ex→Frm→Hp→Prop):Int→Ls→Ls→Int→Int→Int→Bool→Prop:=(fun i0 l1 l2 i3 i4 i5 b6=>Q (.exit 0) [(0,.v (.int .i64 i0)),(3,.box (.agg [(.data l1),(.data l2)])),(5,.v (.int .i64 i3)),(23,.v (.int .i64 i4)),(24,.v (.int .i64 i5)),(25,.v (.bool b6))] [])
def yiL (Q:Ex→Frm→Hp→Prop):Bool→Prop:=(fun b0=>Q .ret [(4,.v (.bool b0))] [])
def yhD (a0:yaA) (a1:yas) (a2:yaB) (Q:Ex→Frm→Hp→Prop) (n:Nat) (F:Frm) (H:Hp):Prop:=yet F H (fun i0 l1 l2 i3 i4 i5=>ycg a0 a1 a2 (yiK Q) (yiL Q) n i0 l1 l2 i3 i4 i5)
def yiM (a0:yaA) (a1:yas) (a2:yaB):LP:=fun id F H Q =>
 bif Nat.beq id 69816400 then yet F H (fun i0 l1 l2 i3 i4 i5=>∃ n:Nat,ycg a0 a1 a2 (yiK Q) (yiL Q) n i0 l1 l2 i3 i4 i5) else
 False
def yml (e:List (Nat×EffF)) (a0:yaA) (a1:yas) (a2:yaB):SE:=⟨(E e),lookS [(yaZ,ydm a0),(yaD,yeZ a1),(yck,ye0 a2)],lookI [],yiM a0 a1 a2⟩
theorem ypt (e:List (Nat×EffF)) (he:EG e):SEOk (yml e yal yaf yap):=yai ⟨(yd6 e he),(ygu e he),(yiw e he),trivial⟩ trivial he.ok
theorem yqr (e:List (Nat×EffF)) (a0 a1 a2 Q n i0 l1 l2 i3 i4 i5):WC (E e) (callW (yml e a0 a1 a2) 5) (yiM a0 a1 a2) ylW [(0,.v (.int .i64 i0)),(3,.box (.agg [(.data l1),(.data l2)])),(5,.v (.int .i64 i3)),(23,.v (.int .i64 i4)),(24,.v (.int .i64 i5))] [] (fun x F' H'=>match x with | .norm=>yhD a0 a1 a2 Q n F' H' | .exit i=>Q (.exit i) F' H' | .ret=>Q .ret F' H')=ycg a0 a1 a2 (yiK Q) (yiL Q) (n+1) i0 l1 l2 i3 i4 i5:=by kernel_rfl
theorem ytX (e:List (Nat×EffF)) (_:EG e):LpOk (E e) (yiM yal yaf yap) ylW:=(yah (by kernel_rfl))
theorem ysM (e:List (Nat×EffF)) (he:EG e):∀ F H Q,yiM yal yaf yap 69816400 F H Q→LoopT (E e) ylW F H Q:=by
 intro F H Q h
 have go:=LoopT.intro (yaF (ypt e he) 5) (ytX e he) (yhD yal yaf yap Q) (by
   intro F H h
   unfold yhD yet at h
   split at h
   · exact h
   · exact h) (by
   intro n F H h
   unfold yhD yet at h
   split at h
   · exact (yqr ..).mpr h
   · exact h.elim)
 have h:yet F H _:=h
 unfold yet at h
 split at h
 · obtain ⟨n,h⟩:=h;exact go n _ _ h
 · exact h.elim
theorem yyc (e:List (Nat×EffF)) (a0 a1 a2 p0 p1 p2 K):WP (yml e a0 a1 a2) 6 yze [(.int .i64 p0),(.agg [(.data p1),(.data p2)])] K=ymj a0 a1 a2 p0 p1 p2 (fun r0=>K (.bool r0)):=by kernel_rfl
theorem yqs (e:List (Nat×EffF)) (he:EG e):OkF (E e) yqq yhn:=by
 intro as K h
 unfold yqq ymk at h
 split at h
 · exact WP_ok (ypt e he) (ybe (l:=[(69816400,ylW)]) ⟨ysM e he,trivial⟩ (by kernel_rfl)) (by kernel_rfl) (by kernel_rfl) (fun _=>yac (by kernel_rfl) _) (he.num _ (by kernel_rfl)) ((yyc ..).mpr h)
 · exact h.elim
abbrev ydS:Type:=Int→Ls→Ls→Ls→(Int→Int→Prop)→Prop
def ycB (a0:yav) (a1:ycL) (a2:yao) (a3:yaq) (a4:yam) (a5:yaK) (x82124700_0:Ls→Ls→Ls→Ls→Ls→Int→Int→Bool→Prop) (x82124700_1:Int→Int→Prop):Nat→Ls→Ls→Ls→Ls→Ls→Int→Int→Prop
 | 0,_,_,_,_,_,_,_=>False
 | n82124700+1,l0,l1,l2,l3,l4,i5,i6 =>
 (cbr (decide (i6<i5))
 (asr (decide ((0:Int)≤i6))
 (asr (decide (i6<(((List.length l4):Nat):Int)))
 (lt (List.getD l4 (i6.toNat) .nils) (fun yr15 =>
 (asr (conf (.agg [.i .i64,.i .i64]) yr15)
 (a3 l1 (intOfV (cellAt yr15 0)) (intOfV (cellAt yr15 1)) (fun yb17 =>
 (cbr (!yb17)
 (x82124700_1 (0:Int) (2:Int))
 (lt (IntKind.i64.wrap (i6+(1:Int))) (fun yi18 =>
 (ycB a0 a1 a2 a3 a4 a5 x82124700_0 x82124700_1 n82124700 l0 l1 l2 l3 l4 i5 yi18)))))))))))
 (x82124700_0 l0 l1 l2 l3 l4 i5 i6 false))
def ybW (a0:yav) (a1:ycL) (a2:yao) (a3:yaq) (a4:yam) (a5:yaK) (x82124701_0:Ls→Ls→Ls→Ls→Int→Int→Bool→Prop) (x82124701_1:Int→Int→Prop):Nat→Ls→Ls→Ls→Ls→Int→Int→Prop
 | 0,_,_,_,_,_,_=>False
 | n82124701+1,l0,l1,l2,l3,i4,i5 =>
 (cbr (decide (i5<i4))
 (asr (decide ((0:Int)≤i5))
 (asr (decide (i5<(((List.length l3):Nat):Int)))
 (lt (List.getD l3 (i5.toNat) .nils) (fun yr74 =>
 (asr (conf (.agg [.i .i64,.i .i64,.i .i64,.i .i64,.i .i64,.i .i64,.b]) yr74)
 (a4 l1 (intOfV (cellAt yr74 0)) (intOfV (cellAt yr74 1)) (fun yi77 =>
 (a4 l1 (intOfV (cellAt yr74 2)) (intOfV (cellAt yr74 3)) (fun yi78 =>
 (asr (decide ((0:Int)≤yi77))
 (asr (decide (yi77<(((List.length l2):Nat):Int)))
 (lt (List.getD l2 (yi77.toNat) .nils) (fun yr83 =>
 (asr (conf (.agg [.i .i64,.i .i64]) yr83)
 (a5 (intOfV (cellAt yr83 0)) (intOfV (cellAt yr83 1)) (intOfV (cellAt yr74 4)) (intOfV (cellAt yr74 5)) (fun yi84 yi85 yi86 =>
 (cbr (yi86 !=(0:Int))
 (x82124701_1 (0:Int) yi86)
 (asr (decide ((0:Int)≤yi78))
 (asr (decide (yi78<(((List.length l2):Nat):Int)))
 (lt (List.getD l2 (yi78.toNat) .nils) (fun yr88 =>
 (asr (conf (.agg [.i .i64,.i .i64]) yr88)
 (jn (fun (yj98:Bool→Prop) =>
 (jn (fun (yj101:Bool→Prop) =>
 (cbr ((yi84 ==(intOfV (cellAt yr88 0)))&&((yi85 ==(intOfV (cellAt yr88 1)))&&true))
 (yj101 (boolOfV (cellAt yr74 6)))
 (yj101 false)))
 (fun yb100=>(cbr yb100
 (cbr ((intOfV (cellAt yr74 4)) ==(0:Int))
 (cbr (yi77 == yi78)
 (yj98 true)
 (cbr (decide ((intOfV (cellAt yr74 4))>(0:Int)))
 (lt (IntKind.i64.wrap (yi78-(1:Int))) (fun yi102 =>
 (asr (decide ((0:Int)≤yi102))
 (asr (decide (yi102<(((List.length l2):Nat):Int)))
 (lt (List.getD l2 (yi102.toNat) .nils) (fun yr103 =>
 (asr (conf (.agg [.i .i64,.i .i64]) yr103)
 (asr (decide ((0:Int)≤yi78))
 (asr (decide (yi78<(((List.length l2):Nat):Int)))
 (lt (List.getD l2 (yi78.toNat) .nils) (fun yr104 =>
 (asr (conf (.agg [.i .i64,.i .i64]) yr104)
 (yj98 (!(((intOfV (cellAt yr103 0)) ==(intOfV (cellAt yr104 0)))&&(((intOfV (cellAt yr103 1)) ==(intOfV (cellAt yr104 1)))&&true))))))))))))))))
 (yj98 false)))
 (cbr (decide ((intOfV (cellAt yr74 4))>(0:Int)))
 (lt (IntKind.i64.wrap (yi78-(1:Int))) (fun yi105 =>
 (asr (decide ((0:Int)≤yi105))
 (asr (decide (yi105<(((List.length l2):Nat):Int)))
 (lt (List.getD l2 (yi105.toNat) .nils) (fun yr106 =>
 (asr (conf (.agg [.i .i64,.i .i64]) yr106)
 (asr (decide ((0:Int)≤yi78))
 (asr (decide (yi78<(((List.length l2):Nat):Int)))
 (lt (List.getD l2 (yi78.toNat) .nils) (fun yr107 =>
 (asr (conf (.agg [.i .i64,.i .i64]) yr107)
 (yj98 (!(((intOfV (cellAt yr106 0)) ==(intOfV (cellAt yr107 0)))&&(((intOfV (cellAt yr106 1)) ==(intOfV (cellAt yr107 1)))&&true))))))))))))))))
 (yj98 false)))
 (yj98 ((yi84 ==(intOfV (cellAt yr88 0)))&&((yi85 ==(intOfV (cellAt yr88 1)))&&true)))))))
 (fun yb97=>(cbr (!yb97)
 (x82124701_1 i5 (0:Int))
 (lt (IntKind.i64.wrap (i5+(1:Int))) (fun yi99 =>
 (ybW a0 a1 a2 a3 a4 a5 x82124701_0 x82124701_1 n82124701 l0 l1 l2 l3 i4 yi99))))))))))))))))))))))))))))
 (x82124701_0 l0 l1 l2 l3 i4 i5 false))
def ynm (a0:yav) (a1:ycL) (a2:yao) (a3:yaq) (a4:yam) (a5:yaK) (p0:Int) (p1 p2 p3:Ls) (K:Int→Int→Prop):Prop :=
 (a0 p0 p3 (fun yl2 yi3 =>
 (cbr (yi3 !=(0:Int))
 (K (0:Int) yi3)
 (a1 p0 p1 p2 (fun yb7 =>
 (cbr (!yb7)
 (K (0:Int) (8:Int))
 (a2 p0 yl2 (fun yl30 =>
 (∃ n82124700:Nat,ycB a0 a1 a2 a3 a4 a5
 (fun yl31 yl32 yl33 yl34 _ _ _ _=>(∃ n82124701:Nat,ybW a0 a1 a2 a3 a4 a5
 (fun yl117 _ _ _ _ _ _=>(K (((List.length yl117):Nat):Int) (0:Int)))
 (fun yi124 yi125=>(K yi124 yi125))
 n82124701 yl31 yl32 yl33 yl34 (((List.length yl34):Nat):Int) (0:Int)))
 (fun yi126 yi127=>(K yi126 yi127))
 n82124700 p3 p1 p2 yl2 yl30 (((List.length yl30):Nat):Int) (0:Int))))))))))
def ycq (p0:Int) (p1 p2 p3:Ls) (K:Int→Int→Prop):Prop:=ynm yaw ybu yan yak yae yar p0 p1 p2 p3 K
def ynn (w:ydS) (as:Ls) (K:PV→Prop):Prop :=
 match as with
 | [(.int .i64 p0),(.agg [(.data p1),(.data p2)]),(.data p3)]=>w p0 p1 p2 p3 (fun r0 r1=>K (.tup [(.int .i64 r0),(.int .i64 r1)]))
 | _=>False
def yrZ (as:Ls) (K:PV→Prop):Prop:=ynn ycq as K
def ye4 (F:Frm) (H:Hp) (A0:Ls→Ls→Ls→Ls→Ls→Int→Int→Prop):Prop :=
 match F,H with
 | [(2,.v (.data l0)),(4,.box (.agg [(.data l1),(.data l2)])),(8,.v (.data l3)),(34,.v (.data l4)),(35,.v (.int .i64 i5)),(36,.v (.int .i64 i6))],[]=>(A0 l0 l1 l2 l3 l4 i5 i6)
 | _,_=>False
def ye5 (F:Frm) (H:Hp) (A0:Ls→Ls→Ls→Ls→Int→Int→Prop):Prop :=
 match F,H with
 | [(2,.v (.data l0)),(4,.box (.agg [(.data l1),(.data l2)])),(46,.v (.data l3)),(47,.v (.int .i64 i4)),(48,.v (.int .i64 i5))],[]=>(A0 l0 l1 l2 l3 i4 i5)
 | _,_=>False
def yjP (Q:Ex→Frm→Hp→Prop):Ls→Ls→Ls→Ls→Ls→Int→Int→Bool→Prop:=(fun l0 l1 l2 l3 l4 i5 i6 b7=>Q (.exit 0) [(2,.v (.data l0)),(4,.box (.agg [(.data l1),(.data l2)])),(8,.v (.data l3)),(34,.v (.data l4)),(35,.v (.int .i64 i5)),(36,.v (.int .i64 i6)),(37,.v (.bool b7))] [])
def yjQ (Q:Ex→Frm→Hp→Prop):Int→Int→Prop:=(fun i0 i1=>Q .ret [(6,.v (.int .i64 i0)),(7,.v (.int .i64 i1))] [])
def yjR (Q:Ex→Frm→Hp→Prop):Ls→Ls→Ls→Ls→Int→Int→Bool→Prop:=(fun l0 l1 l2 l3 i4 i5 b6=>Q (.exit 2) [(2,.v (.data l0)),(4,.box (.agg [(.data l1),(.data l2)])),(46,.v (.data l3)),(47,.v (.int .i64 i4)),(48,.v (.int .i64 i5)),(49,.v (.bool b6))] [])
def yjS (Q:Ex→Frm→Hp→Prop):Int→Int→Prop:=(fun i0 i1=>Q .ret [(6,.v (.int .i64 i0)),(7,.v (.int .i64 i1))] [])
def yiN (a0:yav) (a1:ycL) (a2:yao) (a3:yaq) (a4:yam) (a5:yaK) (Q:Ex→Frm→Hp→Prop) (n:Nat) (F:Frm) (H:Hp):Prop:=ye4 F H (fun l0 l1 l2 l3 l4 i5 i6=>ycB a0 a1 a2 a3 a4 a5 (yjP Q) (yjQ Q) n l0 l1 l2 l3 l4 i5 i6)
def yiO (a0:yav) (a1:ycL) (a2:yao) (a3:yaq) (a4:yam) (a5:yaK) (Q:Ex→Frm→Hp→Prop) (n:Nat) (F:Frm) (H:Hp):Prop:=ye5 F H (fun l0 l1 l2 l3 i4 i5=>ybW a0 a1 a2 a3 a4 a5 (yjR Q) (yjS Q) n l0 l1 l2 l3 i4 i5)
def yeL (a0:yav) (a1:ycL) (a2:yao) (a3:yaq) (a4:yam) (a5:yaK):LP:=fun id F H Q =>
 bif Nat.beq id 82124700 then ye4 F H (fun l0 l1 l2 l3 l4 i5 i6=>∃ n:Nat,ycB a0 a1 a2 a3 a4 a5 (yjP Q) (yjQ Q) n l0 l1 l2 l3 l4 i5 i6) else
 bif Nat.beq id 82124701 then ye5 F H (fun l0 l1 l2 l3 i4 i5=>∃ n:Nat,ybW a0 a1 a2 a3 a4 a5 (yjR Q) (yjS Q) n l0 l1 l2 l3 i4 i5) else
 False
def ykb (a0:yav) (a1:ycL) (a2:yao) (a3:yaq) (a4:yam) (a5:yaK):SE:=⟨(E ef0),lookS [(ycM,yfE a0),(yhn,ymk a1),(ybQ,yey a2),(ya6,ycI a3),(yaG,ybU a4),(ycR,yfp a5)],lookI [],yeL a0 a1 a2 a3 a4 a5⟩
theorem ymm:SEOk (ykb yaw ybu yan yak yae yar):=yai ⟨(yhx ef0 effG0),(yqs ef0 effG0),yf7,(yic ef0 effG0),(yc4 ef0 effG0),(ygK ef0 effG0),trivial⟩ trivial effG0.ok
theorem yrv (a0 a1 a2 a3 a4 a5 Q n l0 l1 l2 l3 l4 i5 i6):WC (E ef0) (callW (ykb a0 a1 a2 a3 a4 a5) 5) (yeL a0 a1 a2 a3 a4 a5) ylY [(2,.v (.data l0)),(4,.box (.agg [(.data l1),(.data l2)])),(8,.v (.data l3)),(34,.v (.data l4)),(35,.v (.int .i64 i5)),(36,.v (.int .i64 i6))] [] (fun x F' H'=>match x with | .norm=>yiN a0 a1 a2 a3 a4 a5 Q n F' H' | .exit i=>Q (.exit i) F' H' | .ret=>Q .ret F' H')=ycB a0 a1 a2 a3 a4 a5 (yjP Q) (yjQ Q) (n+1) l0 l1 l2 l3 l4 i5 i6:=by kernel_rfl
theorem yvs:LpOk (E ef0) (yeL yaw ybu yan yak yae yar) ylY:=(yah (by kernel_rfl))
theorem ytY:∀ F H Q,yeL yaw ybu yan yak yae yar 82124700 F H Q→LoopT (E ef0) ylY F H Q:=by
 intro F H Q h
 have go:=LoopT.intro (yaF (ymm) 5) (yvs) (yiN yaw ybu yan yak yae yar Q) (by
   intro F H h
   unfold yiN ye4 at h
   split at h
   · exact h
   · exact h) (by
   intro n F H h
   unfold yiN ye4 at h
   split at h
   · exact (yrv ..).mpr h
   · exact h.elim)
 have h:ye4 F H _:=h
 unfold ye4 at h
 split at h
 · obtain ⟨n,h⟩:=h;exact go n _ _ h
 · exact h.elim
theorem yrw (a0 a1 a2 a3 a4 a5 Q n l0 l1 l2 l3 i4 i5):WC (E ef0) (callW (ykb a0 a1 a2 a3 a4 a5) 5) (yeL a0 a1 a2 a3 a4 a5) ylZ [(2,.v (.data l0)),(4,.box (.agg [(.data l1),(.data l2)])),(46,.v (.data l3)),(47,.v (.int .i64 i4)),(48,.v (.int .i64 i5))] [] (fun x F' H'=>match x with | .norm=>yiO a0 a1 a2 a3 a4 a5 Q n F' H' | .exit i=>Q (.exit i) F' H' | .ret=>Q .ret F' H')=ybW a0 a1 a2 a3 a4 a5 (yjR Q) (yjS Q) (n+1) l0 l1 l2 l3 i4 i5:=by kernel_rfl
theorem yvt:LpOk (E ef0) (yeL yaw ybu yan yak yae yar) ylZ:=(yah (by kernel_rfl))
theorem ytZ:∀ F H Q,yeL yaw ybu yan yak yae yar 82124701 F H Q→LoopT (E ef0) ylZ F H Q:=by
 intro F H Q h
 have go:=LoopT.intro (yaF (ymm) 5) (yvt) (yiO yaw ybu yan yak yae yar Q) (by
   intro F H h
   unfold yiO ye5 at h
   split at h
   · exact h
   · exact h) (by
   intro n F H h
   unfold yiO ye5 at h
   split at h
   · exact (yrw ..).mpr h
   · exact h.elim)
 have h:ye5 F H _:=h
 unfold ye5 at h
 split at h
 · obtain ⟨n,h⟩:=h;exact go n _ _ h
 · exact h.elim
theorem yzH (a0 a1 a2 a3 a4 a5 p0 p1 p2 p3 K):WP (ykb a0 a1 a2 a3 a4 a5) 6 yBe [(.int .i64 p0),(.agg [(.data p1),(.data p2)]),(.data p3)] K=ynm a0 a1 a2 a3 a4 a5 p0 p1 p2 p3 (fun r0 r1=>K (.tup [(.int .i64 r0),(.int .i64 r1)])):=by kernel_rfl
theorem yr0:OkF (E ef0) yrZ yim:=by
 intro as K h
 unfold yrZ ynn at h
 split at h
 · exact WP_ok (ymm) (ybe (l:=[(82124700,ylY),(82124701,ylZ)]) ⟨ytY,ytZ,trivial⟩ (by kernel_rfl)) (by kernel_rfl) (by kernel_rfl) (fun _=>yac (by kernel_rfl) _) (effG0.num _ (by kernel_rfl)) ((yzH ..).mpr h)
 · exact h.elim
end Go.Pf.Vc
namespace Go.Pf.Vc
open Go Go.Pf
set_option linter.unusedVariables false
theorem ygd (p0:Int) (p1:Int) (p2:Int) (p3:Int) (p4:Int) (p5:Int) (p6:Int) (p7:Int) (p8:Int) (r0:Int) (r1:Int) (r2:Int) (r3:Int) (r4:Int) (r5:Int) (r6:Bool) (r7:Bool) (h:∀ K:Int→Int→Int→Int→Int→Int→Bool→Bool→Prop,K r0 r1 r2 r3 r4 r5 r6 r7→yaT p0 p1 p2 p3 p4 p5 p6 p7 p8 K) (K:Int→Int→Int→Int→Int→Int→Bool→Bool→Prop):yaT p0 p1 p2 p3 p4 p5 p6 p7 p8 K=K r0 r1 r2 r3 r4 r5 r6 r7 :=
 propext ⟨fun k=>detC (ynL [] ybE) (as:=[(.int .i64 p0),(.agg [(.int .i64 p1),(.int .u8 p2),(.int .i64 p3),(.int .i64 p4),(.int .i64 p5),(.int .i64 p6),(.int .i64 p7),(.int .i64 p8)])]) (x:=(.tup [(.agg [(.int .i64 r0),(.int .i64 r1),(.int .i64 r2),(.int .i64 r3),(.int .i64 r4),(.int .i64 r5),(.bool r6)]),(.bool r7)])) (fun K' k'=>h (fun r0 r1 r2 r3 r4 r5 r6 r7=>K' (.tup [(.agg [(.int .i64 r0),(.int .i64 r1),(.int .i64 r2),(.int .i64 r3),(.int .i64 r4),(.int .i64 r5),(.bool r6)]),(.bool r7)])) k') (K:=fun x=>match x with | (.tup [(.agg [(.int .i64 r0),(.int .i64 r1),(.int .i64 r2),(.int .i64 r3),(.int .i64 r4),(.int .i64 r5),(.bool r6)]),(.bool r7)])=>K r0 r1 r2 r3 r4 r5 r6 r7 | _=>False) k,h K⟩
theorem yvu (p0:Int) (p1:Ls) (r0:Ls) (r1:Int) (h:∀ K:Ls→Int→Prop,K r0 r1→yaw p0 p1 K) (K:Ls→Int→Prop):yaw p0 p1 K=K r0 r1 :=
 propext ⟨fun k=>detC (yhx [] ybE) (as:=[(.int .i64 p0),(.data p1)]) (x:=(.tup [(.data r0),(.int .i64 r1)])) (fun K' k'=>h (fun r0 r1=>K' (.tup [(.data r0),(.int .i64 r1)])) k') (K:=fun x=>match x with | (.tup [(.data r0),(.int .i64 r1)])=>K r0 r1 | _=>False) k,h K⟩
theorem ypu (p0:Ls) (r0:Int) (r1:Int) (h:∀ K:Int→Int→Prop,K r0 r1→ya2 p0 K) (K:Int→Int→Prop):ya2 p0 K=K r0 r1 :=
 propext ⟨fun k=>detC (ymd [] ybE) (as:=[(.data p0)]) (x:=(.tup [(.int .i64 r0),(.int .i64 r1)])) (fun K' k'=>h (fun r0 r1=>K' (.tup [(.int .i64 r0),(.int .i64 r1)])) k') (K:=fun x=>match x with | (.tup [(.int .i64 r0),(.int .i64 r1)])=>K r0 r1 | _=>False) k,h K⟩
theorem ysN (p0:Int) (p1:Ls) (r0:Ls) (h:∀ K:Ls→Prop,K r0→yan p0 p1 K) (K:Ls→Prop):yan p0 p1 K=K r0 :=
 propext ⟨fun k=>detC yf7 (as:=[(.int .i64 p0),(.data p1)]) (x:=(.data r0)) (fun K' k'=>h (fun r0=>K' (.data r0)) k') (K:=fun x=>match x with | (.data r0)=>K r0 | _=>False) k,h K⟩
theorem yhE (p0:Int) (p1:Ls) (r0:Ls) (r1:Ls) (r2:Int) (h:∀ K:Ls→Ls→Int→Prop,K r0 r1 r2→ybj p0 p1 K) (K:Ls→Ls→Int→Prop):ybj p0 p1 K=K r0 r1 r2 :=
 propext ⟨fun k=>detC ymf (as:=[(.int .i64 p0),(.data p1)]) (x:=(.tup [(.agg [(.data r0),(.data r1)]),(.int .i64 r2)])) (fun K' k'=>h (fun r0 r1 r2=>K' (.tup [(.agg [(.data r0),(.data r1)]),(.int .i64 r2)])) k') (K:=fun x=>match x with | (.tup [(.agg [(.data r0),(.data r1)]),(.int .i64 r2)])=>K r0 r1 r2 | _=>False) k,h K⟩
theorem ywK (p0:Int) (p1:Ls) (r0:Int) (r1:Int) (h:∀ K:Int→Int→Prop,K r0 r1→ybt p0 p1 K) (K:Int→Int→Prop):ybt p0 p1 K=K r0 r1 :=
 propext ⟨fun k=>detC ymi (as:=[(.int .i64 p0),(.data p1)]) (x:=(.tup [(.int .i64 r0),(.int .i64 r1)])) (fun K' k'=>h (fun r0 r1=>K' (.tup [(.int .i64 r0),(.int .i64 r1)])) k') (K:=fun x=>match x with | (.tup [(.int .i64 r0),(.int .i64 r1)])=>K r0 r1 | _=>False) k,h K⟩
theorem ywL (p0:Int) (p1:Ls) (p2:Ls) (r0:Bool) (h:∀ K:Bool→Prop,K r0→ybu p0 p1 p2 K) (K:Bool→Prop):ybu p0 p1 p2 K=K r0 :=
 propext ⟨fun k=>detC (yqs [] ybE) (as:=[(.int .i64 p0),(.agg [(.data p1),(.data p2)])]) (x:=(.bool r0)) (fun K' k'=>h (fun r0=>K' (.bool r0)) k') (K:=fun x=>match x with | (.bool r0)=>K r0 | _=>False) k,h K⟩
theorem yyd (p0:Int) (p1:Ls) (p2:Ls) (p3:Ls) (r0:Int) (r1:Int) (h:∀ K:Int→Int→Prop,K r0 r1→ycq p0 p1 p2 p3 K) (K:Int→Int→Prop):ycq p0 p1 p2 p3 K=K r0 r1 :=
 propext ⟨fun k=>detC yr0 (as:=[(.int .i64 p0),(.agg [(.data p1),(.data p2)]),(.data p3)]) (x:=(.tup [(.int .i64 r0),(.int .i64 r1)])) (fun K' k'=>h (fun r0 r1=>K' (.tup [(.int .i64 r0),(.int .i64 r1)])) k') (K:=fun x=>match x with | (.tup [(.int .i64 r0),(.int .i64 r1)])=>K r0 r1 | _=>False) k,h K⟩
end Go.Pf.Vc
namespace Go.Pf.Vc
open Go Go.Pf
set_option maxRecDepth 100000
abbrev yd1:Type:=Int→(Int→Prop)→Prop
def ysO (p0:Int) (K:Int→Prop):Prop :=
 (cbr (decide (p0<(0:Int)))
 (K (IntKind.u64.wrap ((IntKind.u64.wrap (IntKind.i64.wrap ((0:Int)-(IntKind.i64.wrap (p0+(1:Int))))))+(1:Int))))
 (K (IntKind.u64.wrap p0)))
def ye6 (p0:Int) (K:Int→Prop):Prop:=ysO p0 K
def yjT (w:yd1) (as:Ls) (K:PV→Prop):Prop :=
 match as with
 | [(.int .i64 p0)]=>w p0 (fun r0=>K (.int .u64 r0))
 | _=>False
def yye (as:Ls) (K:PV→Prop):Prop:=yjT ye6 as K
def yFH:LP:=fun _ _ _ _ =>
 False
def yyf (e:List (Nat×EffF)):SE:=⟨(E e),lookS [],lookI [],yFH⟩
theorem yDC (e:List (Nat×EffF)) (he:EG e):SEOk (yyf e):=yai trivial trivial he.ok
theorem yFI (e:List (Nat×EffF)) ( p0 K):WP (yyf e) 6 yHR [(.int .i64 p0)] K=ysO p0 (fun r0=>K (.int .u64 r0)):=by kernel_rfl
theorem yoE (e:List (Nat×EffF)) (he:EG e):OkF (E e) yye ycP:=by
 intro as K h
 unfold yye yjT at h
 split at h
 · exact WP_ok (yDC e he) (yah (by kernel_rfl)) (by kernel_rfl) (by kernel_rfl) (fun _=>yac (by kernel_rfl) _) (he.num _ (by kernel_rfl)) ((yFI ..).mpr h)
 · exact h.elim
abbrev yfU:Type:=Int→Int→(Int→Prop)→Prop
def yeM (x0:Int→Int→Bool→Prop):Nat→Int→Int→Prop
 | 0,_,_=>False
 | n+1,i0,i1 =>
 (cbr (i1 !=(0:Int))
 (asr (!(decide (i1=(0:Int))))
 (yeM x0 n i1 (Int.tmod i0 i1)))
 (x0 i0 i1 false))
def ysP (p0 p1:Int) (K:Int→Prop):Prop :=
 (∃ n:Nat,yeM
 (fun yi0 _ _=>(K yi0))
 n p0 p1)
def ydF (p0 p1:Int) (K:Int→Prop):Prop:=ysP p0 p1 K
def ymn (w:yfU) (as:Ls) (K:PV→Prop):Prop :=
 match as with
 | [(.int .u64 p0),(.int .u64 p1)]=>w p0 p1 (fun r0=>K (.int .u64 r0))
 | _=>False
def yyg (as:Ls) (K:PV→Prop):Prop:=ymn ydF as K
def yh4 (F:Frm) (H:Hp) (A0:Int→Int→Prop):Prop :=
 match F,H with
 | [(0,.v (.int .u64 i0)),(1,.v (.int .u64 i1))],[]=>(A0 i0 i1)
 | _,_=>False
def yno (Q:Ex→Frm→Hp→Prop):Int→Int→Bool→Prop:=(fun i0 i1 b2=>Q (.exit 0) [(0,.v (.int .u64 i0)),(1,.v (.int .u64 i1)),(6,.v (.bool b2))] [])
def ymN (Q:Ex→Frm→Hp→Prop) (n:Nat) (F:Frm) (H:Hp):Prop:=yh4 F H (fun i0 i1=>yeM (yno Q) n i0 i1)
def yoF:LP:=fun id F H Q =>
 bif Nat.beq id 16774900 then yh4 F H (fun i0 i1=>∃ n:Nat,yeM (yno Q) n i0 i1) else
 False
def ysQ (e:List (Nat×EffF)):SE:=⟨(E e),lookS [],lookI [],yoF⟩
theorem yv3 (e:List (Nat×EffF)) (he:EG e):SEOk (ysQ e):=yai trivial trivial he.ok
theorem yvv (e:List (Nat×EffF)) ( Q n i0 i1):WC (E e) (callW (ysQ e) 5) (yoF) ylS [(0,.v (.int .u64 i0)),(1,.v (.int .u64 i1))] [] (fun x F' H'=>match x with | .norm=>ymN Q n F' H' | .exit i=>Q (.exit i) F' H' | .ret=>Q .ret F' H')=yeM (yno Q) (n+1) i0 i1:=by kernel_rfl
theorem yzI (e:List (Nat×EffF)) (_:EG e):LpOk (E e) (yoF) ylS:=(yah (by kernel_rfl))
theorem yyh (e:List (Nat×EffF)) (he:EG e):∀ F H Q,yoF 16774900 F H Q→LoopT (E e) ylS F H Q:=by
 intro F H Q h
 have go:=LoopT.intro (yaF (yv3 e he) 5) (yzI e he) (ymN Q) (by
   intro F H h
   unfold ymN yh4 at h
   split at h
   · exact h
   · exact h) (by
   intro n F H h
   unfold ymN yh4 at h
   split at h
   · exact (yvv ..).mpr h
   · exact h.elim)
 have h:yh4 F H _:=h
 unfold yh4 at h
 split at h
 · obtain ⟨n,h⟩:=h;exact go n _ _ h
 · exact h.elim
theorem yFJ (e:List (Nat×EffF)) ( p0 p1 K):WP (ysQ e) 6 yHS [(.int .u64 p0),(.int .u64 p1)] K=ysP p0 p1 (fun r0=>K (.int .u64 r0)):=by kernel_rfl
theorem yoG (e:List (Nat×EffF)) (he:EG e):OkF (E e) yyg yeU:=by
 intro as K h
 unfold yyg ymn at h
 split at h
 · exact WP_ok (yv3 e he) (ybe (l:=[(16774900,ylS)]) ⟨yyh e he,trivial⟩ (by kernel_rfl)) (by kernel_rfl) (by kernel_rfl) (fun _=>yac (by kernel_rfl) _) (he.num _ (by kernel_rfl)) ((yFJ ..).mpr h)
 · exact h.elim
abbrev ycV:Type:=Int→Int→(Int→Prop)→Prop
def yoH (a0:yd1) (a1:yfU) (p0 p1:Int) (K:Int→Prop):Prop :=
 (cbr (decide (p1<(1:Int)))
 (K (8:Int))
 (cbr (decide (p1>(1000000000000000000:Int)))
 (K (8:Int))
 (cbr (decide (p0<(-1000000000000000000:Int)))
 (K (8:Int))
 (cbr (decide (p0>(1000000000000000000:Int)))
 (K (8:Int))
 (a0 p0 (fun yi0 =>
 (a1 yi0 (IntKind.u64.wrap p1) (fun yi1 =>
 (cbr (yi1 !=(1:Int))
 (K (8:Int))
 (K (0:Int)))))))))))
def ycC (p0 p1:Int) (K:Int→Prop):Prop:=yoH ye6 ydF p0 p1 K
def yiP (w:ycV) (as:Ls) (K:PV→Prop):Prop :=
 match as with
 | [(.agg [(.int .i64 p0),(.int .i64 p1)])]=>w p0 p1 (fun r0=>K (.int .i64 r0))
 | _=>False
def yt0 (as:Ls) (K:PV→Prop):Prop:=yiP ycC as K
def yBt (_:yd1) (_:yfU):LP:=fun _ _ _ _ =>
 False
def yt1 (e:List (Nat×EffF)) (a0:yd1) (a1:yfU):SE:=⟨(E e),lookS [(ycP,yjT a0),(yeU,ymn a1)],lookI [],yBt a0 a1⟩
theorem yzJ (e:List (Nat×EffF)) (he:EG e):SEOk (yt1 e ye6 ydF):=yai ⟨(yoE e he),(yoG e he),trivial⟩ trivial he.ok
theorem yBu (e:List (Nat×EffF)) (a0 a1 p0 p1 K):WP (yt1 e a0 a1) 6 yDq [(.agg [(.int .i64 p0),(.int .i64 p1)])] K=yoH a0 a1 p0 p1 (fun r0=>K (.int .i64 r0)):=by kernel_rfl
theorem yoI (e:List (Nat×EffF)) (he:EG e):OkF (E e) yt0 ydl:=by
 intro as K h
 unfold yt0 yiP at h
 split at h
 · exact WP_ok (yzJ e he) (yah (by kernel_rfl)) (by kernel_rfl) (by kernel_rfl) (fun _=>yac (by kernel_rfl) _) (he.num _ (by kernel_rfl)) ((yBu ..).mpr h)
 · exact h.elim
abbrev yfH:Type:=Int→(Int→Int→Prop)→Prop
def yAt (p0:Int) (K:Int→Int→Prop):Prop :=
 (K p0 (1:Int))
def yfI (p0:Int) (K:Int→Int→Prop):Prop:=yAt p0 K
def ynR (w:yfH) (as:Ls) (K:PV→Prop):Prop :=
 match as with
 | [(.int .i64 p0)]=>w p0 (fun r0 r1=>K (.agg [(.int .i64 r0),(.int .i64 r1)]))
 | _=>False
def yAu (as:Ls) (K:PV→Prop):Prop:=ynR yfI as K
def yHY:LP:=fun _ _ _ _ =>
 False
def yAv (e:List (Nat×EffF)):SE:=⟨(E e),lookS [],lookI [],yHY⟩
theorem yFK (e:List (Nat×EffF)) (he:EG e):SEOk (yAv e):=yai trivial trivial he.ok
theorem yHZ (e:List (Nat×EffF)) ( p0 K):WP (yAv e) 6 yJg [(.int .i64 p0)] K=yAt p0 (fun r0 r1=>K (.agg [(.int .i64 r0),(.int .i64 r1)])):=by kernel_rfl
theorem yvw (e:List (Nat×EffF)) (he:EG e):OkF (E e) yAu yfC:=by
 intro as K h
 unfold yAu ynR at h
 split at h
 · exact WP_ok (yFK e he) (yah (by kernel_rfl)) (by kernel_rfl) (by kernel_rfl) (fun _=>yac (by kernel_rfl) _) (he.num _ (by kernel_rfl)) ((yHZ ..).mpr h)
 · exact h.elim
abbrev ydW:Type:=Int→Int→(Int→Int→Prop)→Prop
def yoJ (p0 p1:Int) (K:Int→Int→Prop):Prop :=
 (K (IntKind.u64.wrap ((IntKind.u64.wrap ((IntKind.u64.wrap ((Int.fdiv p0 4294967296)*(Int.fdiv p1 4294967296)))+(Int.fdiv (IntKind.u64.wrap ((Int.fdiv p0 4294967296)*(IntKind.u64.wrap (BitVec.ofInt IntKind.u64.bits p1&&&BitVec.ofInt IntKind.u64.bits (4294967295:Int)).toNat))) 4294967296)))+(Int.fdiv (IntKind.u64.wrap ((IntKind.u64.wrap ((IntKind.u64.wrap (BitVec.ofInt IntKind.u64.bits (IntKind.u64.wrap ((Int.fdiv p0 4294967296)*(IntKind.u64.wrap (BitVec.ofInt IntKind.u64.bits p1&&&BitVec.ofInt IntKind.u64.bits (4294967295:Int)).toNat)))&&&BitVec.ofInt IntKind.u64.bits (4294967295:Int)).toNat)+(IntKind.u64.wrap ((IntKind.u64.wrap (BitVec.ofInt IntKind.u64.bits p0&&&BitVec.ofInt IntKind.u64.bits (4294967295:Int)).toNat)*(Int.fdiv p1 4294967296)))))+(Int.fdiv (IntKind.u64.wrap ((IntKind.u64.wrap (BitVec.ofInt IntKind.u64.bits p0&&&BitVec.ofInt IntKind.u64.bits (4294967295:Int)).toNat)*(IntKind.u64.wrap (BitVec.ofInt IntKind.u64.bits p1&&&BitVec.ofInt IntKind.u64.bits (4294967295:Int)).toNat))) 4294967296))) 4294967296))) (IntKind.u64.wrap (BitVec.ofInt IntKind.u64.bits (IntKind.u64.wrap ((IntKind.u64.wrap ((IntKind.u64.wrap ((IntKind.u64.wrap (BitVec.ofInt IntKind.u64.bits (IntKind.u64.wrap ((Int.fdiv p0 4294967296)*(IntKind.u64.wrap (BitVec.ofInt IntKind.u64.bits p1&&&BitVec.ofInt IntKind.u64.bits (4294967295:Int)).toNat)))&&&BitVec.ofInt IntKind.u64.bits (4294967295:Int)).toNat)+(IntKind.u64.wrap ((IntKind.u64.wrap (BitVec.ofInt IntKind.u64.bits p0&&&BitVec.ofInt IntKind.u64.bits (4294967295:Int)).toNat)*(Int.fdiv p1 4294967296)))))+(Int.fdiv (IntKind.u64.wrap ((IntKind.u64.wrap (BitVec.ofInt IntKind.u64.bits p0&&&BitVec.ofInt IntKind.u64.bits (4294967295:Int)).toNat)*(IntKind.u64.wrap (BitVec.ofInt IntKind.u64.bits p1&&&BitVec.ofInt IntKind.u64.bits (4294967295:Int)).toNat))) 4294967296)))*(4294967296:Int)))|||BitVec.ofInt IntKind.u64.bits (IntKind.u64.wrap (BitVec.ofInt IntKind.u64.bits (IntKind.u64.wrap ((IntKind.u64.wrap (BitVec.ofInt IntKind.u64.bits p0&&&BitVec.ofInt IntKind.u64.bits (4294967295:Int)).toNat)*(IntKind.u64.wrap (BitVec.ofInt IntKind.u64.bits p1&&&BitVec.ofInt IntKind.u64.bits (4294967295:Int)).toNat)))&&&BitVec.ofInt IntKind.u64.bits (4294967295:Int)).toNat)).toNat))
def ydo (p0 p1:Int) (K:Int→Int→Prop):Prop:=yoJ p0 p1 K
def yiQ (w:ydW) (as:Ls) (K:PV→Prop):Prop :=
 match as with
 | [(.int .u64 p0),(.int .u64 p1)]=>w p0 p1 (fun r0 r1=>K (.agg [(.int .u64 r0),(.int .u64 r1)]))
 | _=>False
def yt2 (as:Ls) (K:PV→Prop):Prop:=yiQ ydo as K
def yBv:LP:=fun _ _ _ _ =>
 False
def yt3 (e:List (Nat×EffF)):SE:=⟨(E e),lookS [],lookI [],yBv⟩
theorem yzK (e:List (Nat×EffF)) (he:EG e):SEOk (yt3 e):=yai trivial trivial he.ok
theorem yBw (e:List (Nat×EffF)) ( p0 p1 K):WP (yt3 e) 6 yDr [(.int .u64 p0),(.int .u64 p1)] K=yoJ p0 p1 (fun r0 r1=>K (.agg [(.int .u64 r0),(.int .u64 r1)])):=by kernel_rfl
theorem yoK (e:List (Nat×EffF)) (he:EG e):OkF (E e) yt2 ycv:=by
 intro as K h
 unfold yt2 yiQ at h
 split at h
 · exact WP_ok (yzK e he) (yah (by kernel_rfl)) (by kernel_rfl) (by kernel_rfl) (fun _=>yac (by kernel_rfl) _) (he.num _ (by kernel_rfl)) ((yBw ..).mpr h)
 · exact h.elim
abbrev yhP:Type:=Int→Int→Int→Int→(Bool→Prop)→Prop
def yqt (p0 p1 p2 p3:Int) (K:Bool→Prop):Prop :=
 (cbr (decide (p0<p2))
 (K true)
 (cbr (p0 == p2)
 (K (decide (p1<p3)))
 (K false)))
def yhQ (p0 p1 p2 p3:Int) (K:Bool→Prop):Prop:=yqt p0 p1 p2 p3 K
def ymO (w:yhP) (as:Ls) (K:PV→Prop):Prop :=
 match as with
 | [(.agg [(.int .u64 p0),(.int .u64 p1)]),(.agg [(.int .u64 p2),(.int .u64 p3)])]=>w p0 p1 p2 p3 (fun r0=>K (.bool r0))
 | _=>False
def yv4 (as:Ls) (K:PV→Prop):Prop:=ymO yhQ as K
def yDD:LP:=fun _ _ _ _ =>
 False
def yv5 (e:List (Nat×EffF)):SE:=⟨(E e),lookS [],lookI [],yDD⟩
theorem yBx (e:List (Nat×EffF)) (he:EG e):SEOk (yv5 e):=yai trivial trivial he.ok
theorem yDE (e:List (Nat×EffF)) ( p0 p1 p2 p3 K):WP (yv5 e) 6 yFq [(.agg [(.int .u64 p0),(.int .u64 p1)]),(.agg [(.int .u64 p2),(.int .u64 p3)])] K=yqt p0 p1 p2 p3 (fun r0=>K (.bool r0)):=by kernel_rfl
theorem yv6 (e:List (Nat×EffF)) (he:EG e):OkF (E e) yv4 ygl:=by
 intro as K h
 unfold yv4 ymO at h
 split at h
 · exact WP_ok (yBx e he) (yah (by kernel_rfl)) (by kernel_rfl) (by kernel_rfl) (fun _=>yac (by kernel_rfl) _) (he.num _ (by kernel_rfl)) ((yDE ..).mpr h)
 · exact h.elim
abbrev yaV:Type:=Int→Int→Int→Int→(Bool→Prop)→Prop
def yqu (a0:yd1) (a1:ydW) (a2:yhP) (p0 p1 p2 p3:Int) (K:Bool→Prop):Prop :=
 (cbr ((decide (p0<(0:Int))) !=(decide (p2<(0:Int))))
 (K (decide (p0<(0:Int))))
 (a0 p0 (fun yi0 =>
 (a1 yi0 (IntKind.u64.wrap p3) (fun yi1 yi2 =>
 (a0 p2 (fun yi3 =>
 (a1 yi3 (IntKind.u64.wrap p1) (fun yi4 yi5 =>
 (cbr (decide (p0<(0:Int)))
 (a2 yi4 yi5 yi1 yi2 (fun yb6 =>
 (K yb6)))
 (a2 yi1 yi2 yi4 yi5 (fun yb7 =>
 (K yb7)))))))))))))
def yaW (p0 p1 p2 p3:Int) (K:Bool→Prop):Prop:=yqu ye6 ydo yhQ p0 p1 p2 p3 K
def yff (w:yaV) (as:Ls) (K:PV→Prop):Prop :=
 match as with
 | [(.agg [(.int .i64 p0),(.int .i64 p1)]),(.agg [(.int .i64 p2),(.int .i64 p3)])]=>w p0 p1 p2 p3 (fun r0=>K (.bool r0))
 | _=>False
def yv7 (as:Ls) (K:PV→Prop):Prop:=yff yaW as K
def yDF (_:yd1) (_:ydW) (_:yhP):LP:=fun _ _ _ _ =>
 False
def yv8 (e:List (Nat×EffF)) (a0:yd1) (a1:ydW) (a2:yhP):SE:=⟨(E e),lookS [(ycP,yjT a0),(ycv,yiQ a1),(ygl,ymO a2)],lookI [],yDF a0 a1 a2⟩
theorem yBy (e:List (Nat×EffF)) (he:EG e):SEOk (yv8 e ye6 ydo yhQ):=yai ⟨(yoE e he),(yoK e he),(yv6 e he),trivial⟩ trivial he.ok
theorem yDG (e:List (Nat×EffF)) (a0 a1 a2 p0 p1 p2 p3 K):WP (yv8 e a0 a1 a2) 6 yFr [(.agg [(.int .i64 p0),(.int .i64 p1)]),(.agg [(.int .i64 p2),(.int .i64 p3)])] K=yqu a0 a1 a2 p0 p1 p2 p3 (fun r0=>K (.bool r0)):=by kernel_rfl
theorem yh5 (e:List (Nat×EffF)) (he:EG e):OkF (E e) yv7 ybZ:=by
 intro as K h
 unfold yv7 yff at h
 split at h
 · exact WP_ok (yBy e he) (yah (by kernel_rfl)) (by kernel_rfl) (by kernel_rfl) (fun _=>yac (by kernel_rfl) _) (he.num _ (by kernel_rfl)) ((yDG ..).mpr h)
 · exact h.elim
abbrev ydd:Type:=Int→Int→Int→Int→(Int→Prop)→Prop
def yqv (a0:ycV) (p0 p1 p2 p3:Int) (K:Int→Prop):Prop :=
 (a0 p0 p1 (fun yi0 =>
 (cbr (yi0 !=(0:Int))
 (a0 p0 p1 (fun yi1 =>
 (K yi1)))
 (a0 p2 p3 (fun yi2 =>
 (K yi2))))))
def yd9 (p0 p1 p2 p3:Int) (K:Int→Prop):Prop:=yqv ycC p0 p1 p2 p3 K
def yh6 (w:ydd) (as:Ls) (K:PV→Prop):Prop :=
 match as with
 | [(.agg [(.int .i64 p0),(.int .i64 p1)]),(.agg [(.int .i64 p2),(.int .i64 p3)])]=>w p0 p1 p2 p3 (fun r0=>K (.int .i64 r0))
 | _=>False
def yv9 (as:Ls) (K:PV→Prop):Prop:=yh6 yd9 as K
def yDH (_:ycV):LP:=fun _ _ _ _ =>
 False
def ywa (e:List (Nat×EffF)) (a0:ycV):SE:=⟨(E e),lookS [(ydl,yiP a0)],lookI [],yDH a0⟩
theorem yBz (e:List (Nat×EffF)) (he:EG e):SEOk (ywa e ycC):=yai ⟨(yoI e he),trivial⟩ trivial he.ok
theorem yDI (e:List (Nat×EffF)) (a0 p0 p1 p2 p3 K):WP (ywa e a0) 6 yFs [(.agg [(.int .i64 p0),(.int .i64 p1)]),(.agg [(.int .i64 p2),(.int .i64 p3)])] K=yqv a0 p0 p1 p2 p3 (fun r0=>K (.int .i64 r0)):=by kernel_rfl
theorem ymP (e:List (Nat×EffF)) (he:EG e):OkF (E e) yv9 ycs:=by
 intro as K h
 unfold yv9 yh6 at h
 split at h
 · exact WP_ok (yBz e he) (yah (by kernel_rfl)) (by kernel_rfl) (by kernel_rfl) (fun _=>yac (by kernel_rfl) _) (he.num _ (by kernel_rfl)) ((yDI ..).mpr h)
 · exact h.elim
abbrev yq0:Type:=Int→Int→(Int→Int→Prop)→Prop
def ysR (p0 p1:Int) (K:Int→Int→Prop):Prop :=
 (K (IntKind.i64.wrap ((0:Int)-p0)) p1)
def ynS (p0 p1:Int) (K:Int→Int→Prop):Prop:=ysR p0 p1 K
def ysS (w:yq0) (as:Ls) (K:PV→Prop):Prop :=
 match as with
 | [(.agg [(.int .i64 p0),(.int .i64 p1)])]=>w p0 p1 (fun r0 r1=>K (.agg [(.int .i64 r0),(.int .i64 r1)]))
 | _=>False
def yyi (as:Ls) (K:PV→Prop):Prop:=ysS ynS as K
def yFL:LP:=fun _ _ _ _ =>
 False
def yyj (e:List (Nat×EffF)):SE:=⟨(E e),lookS [],lookI [],yFL⟩
theorem yDJ (e:List (Nat×EffF)) (he:EG e):SEOk (yyj e):=yai trivial trivial he.ok
theorem yFM (e:List (Nat×EffF)) ( p0 p1 K):WP (yyj e) 6 yHT [(.agg [(.int .i64 p0),(.int .i64 p1)])] K=ysR p0 p1 (fun r0 r1=>K (.agg [(.int .i64 r0),(.int .i64 r1)])):=by kernel_rfl
theorem yFN (e:List (Nat×EffF)) (he:EG e):OkF (E e) yyi ynD:=by
 intro as K h
 unfold yyi ysS at h
 split at h
 · exact WP_ok (yDJ e he) (yah (by kernel_rfl)) (by kernel_rfl) (by kernel_rfl) (fun _=>yac (by kernel_rfl) _) (he.num _ (by kernel_rfl)) ((yFM ..).mpr h)
 · exact h.elim
abbrev yfx:Type:=Int→Int→Int→Int→(Int→Int→Prop)→Prop
def yqw (p0 p1 p2 p3:Int) (K:Int→Int→Prop):Prop :=
 (cbr (decide ((IntKind.u64.wrap (p1+p3))<p1))
 (K (IntKind.u64.wrap ((IntKind.u64.wrap (p0+p2))+(1:Int))) (IntKind.u64.wrap (p1+p3)))
 (K (IntKind.u64.wrap (p0+p2)) (IntKind.u64.wrap (p1+p3))))
def yde (p0 p1 p2 p3:Int) (K:Int→Int→Prop):Prop:=yqw p0 p1 p2 p3 K
def ymQ (w:yfx) (as:Ls) (K:PV→Prop):Prop :=
 match as with
 | [(.agg [(.int .u64 p0),(.int .u64 p1)]),(.agg [(.int .u64 p2),(.int .u64 p3)])]=>w p0 p1 p2 p3 (fun r0 r1=>K (.agg [(.int .u64 r0),(.int .u64 r1)]))
 | _=>False
def ywb (as:Ls) (K:PV→Prop):Prop:=ymQ yde as K
def yDK:LP:=fun _ _ _ _ =>
 False
def ywc (e:List (Nat×EffF)):SE:=⟨(E e),lookS [],lookI [],yDK⟩
theorem yBA (e:List (Nat×EffF)) (he:EG e):SEOk (ywc e):=yai trivial trivial he.ok
theorem yDL (e:List (Nat×EffF)) ( p0 p1 p2 p3 K):WP (ywc e) 6 yFt [(.agg [(.int .u64 p0),(.int .u64 p1)]),(.agg [(.int .u64 p2),(.int .u64 p3)])] K=yqw p0 p1 p2 p3 (fun r0 r1=>K (.agg [(.int .u64 r0),(.int .u64 r1)])):=by kernel_rfl
theorem ywd (e:List (Nat×EffF)) (he:EG e):OkF (E e) ywb yhI:=by
 intro as K h
 unfold ywb ymQ at h
 split at h
 · exact WP_ok (yBA e he) (yah (by kernel_rfl)) (by kernel_rfl) (by kernel_rfl) (fun _=>yac (by kernel_rfl) _) (he.num _ (by kernel_rfl)) ((yDL ..).mpr h)
 · exact h.elim
abbrev ymR:Type:=Int→Int→Int→Int→(Int→Int→Prop)→Prop
def yk6 (p0 p1 p2 p3:Int) (K:Int→Int→Prop):Prop :=
 (cbr (decide (p1<p3))
 (K (IntKind.u64.wrap ((IntKind.u64.wrap (p0-p2))-(1:Int))) (IntKind.u64.wrap (p1-p3)))
 (K (IntKind.u64.wrap (p0-p2)) (IntKind.u64.wrap (p1-p3))))
def ygB (p0 p1 p2 p3:Int) (K:Int→Int→Prop):Prop:=yk6 p0 p1 p2 p3 K
def yoL (w:ymR) (as:Ls) (K:PV→Prop):Prop :=
 match as with
 | [(.agg [(.int .u64 p0),(.int .u64 p1)]),(.agg [(.int .u64 p2),(.int .u64 p3)])]=>w p0 p1 p2 p3 (fun r0 r1=>K (.agg [(.int .u64 r0),(.int .u64 r1)]))
 | _=>False
def yt4 (as:Ls) (K:PV→Prop):Prop:=yoL ygB as K
def yBB:LP:=fun _ _ _ _ =>
 False
def yt5 (e:List (Nat×EffF)):SE:=⟨(E e),lookS [],lookI [],yBB⟩
theorem yzL (e:List (Nat×EffF)) (he:EG e):SEOk (yt5 e):=yai trivial trivial he.ok
theorem yBC (e:List (Nat×EffF)) ( p0 p1 p2 p3 K):WP (yt5 e) 6 yDu [(.agg [(.int .u64 p0),(.int .u64 p1)]),(.agg [(.int .u64 p2),(.int .u64 p3)])] K=yk6 p0 p1 p2 p3 (fun r0 r1=>K (.agg [(.int .u64 r0),(.int .u64 r1)])):=by kernel_rfl
theorem yBD (e:List (Nat×EffF)) (he:EG e):OkF (E e) yt4 yhY:=by
 intro as K h
 unfold yt4 yoL at h
 split at h
 · exact WP_ok (yzL e he) (yah (by kernel_rfl)) (by kernel_rfl) (by kernel_rfl) (fun _=>yac (by kernel_rfl) _) (he.num _ (by kernel_rfl)) ((yBC ..).mpr h)
 · exact h.elim
abbrev ymS:Type:=Int→Int→Int→(Int→Int→Int→Prop)→Prop
def ya5 (a0:yfx) (x0:Int→Int→Int→Int→Int→Int→Int→Int→Int→Bool→Prop):Nat→Int→Int→Int→Int→Int→Int→Int→Int→Int→Prop
 | 0,_,_,_,_,_,_,_,_,_=>False
 | n+1,i0,i1,i2,i3,i4,i5,i6,i7,i8 =>
 (cbr (decide (i8≥(0:Int)))
 (asr (!(decide ((IntKind.i64.wrap (BitVec.ofInt IntKind.i64.bits i8&&&BitVec.ofInt IntKind.i64.bits (63:Int)).toNat)<(0:Int))))
 (cbr (decide (i8≥(64:Int)))
 (asr (!(decide ((IntKind.i64.wrap (BitVec.ofInt IntKind.i64.bits i8&&&BitVec.ofInt IntKind.i64.bits (63:Int)).toNat)<(0:Int))))
 (a0 i5 i6 i5 i6 (fun yi0 yi1 =>
 (cbr (decide ((IntKind.u64.wrap (BitVec.ofInt IntKind.u64.bits (IntKind.u64.wrap (i7*(2:Int)))|||BitVec.ofInt IntKind.u64.bits (IntKind.u64.wrap (BitVec.ofInt IntKind.u64.bits (Int.fdiv i1 (2 ^ (min (IntKind.i64.wrap (BitVec.ofInt IntKind.i64.bits i8&&&BitVec.ofInt IntKind.i64.bits (63:Int)).toNat).toNat IntKind.u64.bits)))&&&BitVec.ofInt IntKind.u64.bits (1:Int)).toNat)).toNat)≥i0))
 (ya5 a0 x0 n i0 i1 i2 i3 i4 yi0 (IntKind.u64.wrap (BitVec.ofInt IntKind.u64.bits yi1|||BitVec.ofInt IntKind.u64.bits (1:Int)).toNat) (IntKind.u64.wrap ((IntKind.u64.wrap (BitVec.ofInt IntKind.u64.bits (IntKind.u64.wrap (i7*(2:Int)))|||BitVec.ofInt IntKind.u64.bits (IntKind.u64.wrap (BitVec.ofInt IntKind.u64.bits (Int.fdiv i1 (2 ^ (min (IntKind.i64.wrap (BitVec.ofInt IntKind.i64.bits i8&&&BitVec.ofInt IntKind.i64.bits (63:Int)).toNat).toNat IntKind.u64.bits)))&&&BitVec.ofInt IntKind.u64.bits (1:Int)).toNat)).toNat)-i0)) (IntKind.i64.wrap (i8-(1:Int))))
 (ya5 a0 x0 n i0 i1 i2 i3 i4 yi0 yi1 (IntKind.u64.wrap (BitVec.ofInt IntKind.u64.bits (IntKind.u64.wrap (i7*(2:Int)))|||BitVec.ofInt IntKind.u64.bits (IntKind.u64.wrap (BitVec.ofInt IntKind.u64.bits (Int.fdiv i1 (2 ^ (min (IntKind.i64.wrap (BitVec.ofInt IntKind.i64.bits i8&&&BitVec.ofInt IntKind.i64.bits (63:Int)).toNat).toNat IntKind.u64.bits)))&&&BitVec.ofInt IntKind.u64.bits (1:Int)).toNat)).toNat) (IntKind.i64.wrap (i8-(1:Int))))))))
 (a0 i5 i6 i5 i6 (fun yi2 yi3 =>
 (cbr (decide ((IntKind.u64.wrap (BitVec.ofInt IntKind.u64.bits (IntKind.u64.wrap (i7*(2:Int)))|||BitVec.ofInt IntKind.u64.bits (IntKind.u64.wrap (BitVec.ofInt IntKind.u64.bits (Int.fdiv i2 (2 ^ (min (IntKind.i64.wrap (BitVec.ofInt IntKind.i64.bits i8&&&BitVec.ofInt IntKind.i64.bits (63:Int)).toNat).toNat IntKind.u64.bits)))&&&BitVec.ofInt IntKind.u64.bits (1:Int)).toNat)).toNat)≥i0))
 (ya5 a0 x0 n i0 i1 i2 i3 i4 yi2 (IntKind.u64.wrap (BitVec.ofInt IntKind.u64.bits yi3|||BitVec.ofInt IntKind.u64.bits (1:Int)).toNat) (IntKind.u64.wrap ((IntKind.u64.wrap (BitVec.ofInt IntKind.u64.bits (IntKind.u64.wrap (i7*(2:Int)))|||BitVec.ofInt IntKind.u64.bits (IntKind.u64.wrap (BitVec.ofInt IntKind.u64.bits (Int.fdiv i2 (2 ^ (min (IntKind.i64.wrap (BitVec.ofInt IntKind.i64.bits i8&&&BitVec.ofInt IntKind.i64.bits (63:Int)).toNat).toNat IntKind.u64.bits)))&&&BitVec.ofInt IntKind.u64.bits (1:Int)).toNat)).toNat)-i0)) (IntKind.i64.wrap (i8-(1:Int))))
 (ya5 a0 x0 n i0 i1 i2 i3 i4 yi2 yi3 (IntKind.u64.wrap (BitVec.ofInt IntKind.u64.bits (IntKind.u64.wrap (i7*(2:Int)))|||BitVec.ofInt IntKind.u64.bits (IntKind.u64.wrap (BitVec.ofInt IntKind.u64.bits (Int.fdiv i2 (2 ^ (min (IntKind.i64.wrap (BitVec.ofInt IntKind.i64.bits i8&&&BitVec.ofInt IntKind.i64.bits (63:Int)).toNat).toNat IntKind.u64.bits)))&&&BitVec.ofInt IntKind.u64.bits (1:Int)).toNat)).toNat) (IntKind.i64.wrap (i8-(1:Int)))))))))
 (x0 i0 i1 i2 i3 i4 i5 i6 i7 i8 false))
def yoM (a0:yfx) (p0 p1 p2:Int) (K:Int→Int→Int→Prop):Prop :=
 (∃ n:Nat,ya5 a0
 (fun _ _ _ _ _ yi9 yi10 yi11 _ _=>(K yi9 yi10 yi11))
 n p2 p0 p1 (0:Int) (0:Int) (0:Int) (0:Int) (0:Int) (127:Int))
def ydX (p0 p1 p2:Int) (K:Int→Int→Int→Prop):Prop:=yoM yde p0 p1 p2 K
def yoN (w:ymS) (as:Ls) (K:PV→Prop):Prop :=
 match as with
 | [(.agg [(.int .u64 p0),(.int .u64 p1)]),(.int .u64 p2)]=>w p0 p1 p2 (fun r0 r1 r2=>K (.tup [(.agg [(.int .u64 r0),(.int .u64 r1)]),(.int .u64 r2)]))
 | _=>False
def yt6 (as:Ls) (K:PV→Prop):Prop:=yoN ydX as K
def yfV (F:Frm) (H:Hp) (A0:Int→Int→Int→Int→Int→Int→Int→Int→Int→Prop):Prop :=
 match F,H with
 | [(1,.v (.int .u64 i0)),(2,.box (.agg [(.int .u64 i1),(.int .u64 i2)])),(4,.box (.agg [(.int .u64 i3),(.int .u64 i4)])),(6,.box (.agg [(.int .u64 i5),(.int .u64 i6)])),(7,.v (.int .u64 i7)),(8,.v (.int .i64 i8))],[]=>(A0 i0 i1 i2 i3 i4 i5 i6 i7 i8)
 | _,_=>False
def ykL (Q:Ex→Frm→Hp→Prop):Int→Int→Int→Int→Int→Int→Int→Int→Int→Bool→Prop:=(fun i0 i1 i2 i3 i4 i5 i6 i7 i8 b9=>Q (.exit 0) [(1,.v (.int .u64 i0)),(2,.box (.agg [(.int .u64 i1),(.int .u64 i2)])),(4,.box (.agg [(.int .u64 i3),(.int .u64 i4)])),(6,.box (.agg [(.int .u64 i5),(.int .u64 i6)])),(7,.v (.int .u64 i7)),(8,.v (.int .i64 i8)),(11,.v (.bool b9))] [])
def ykc (a0:yfx) (Q:Ex→Frm→Hp→Prop) (n:Nat) (F:Frm) (H:Hp):Prop:=yfV F H (fun i0 i1 i2 i3 i4 i5 i6 i7 i8=>ya5 a0 (ykL Q) n i0 i1 i2 i3 i4 i5 i6 i7 i8)
def yk7 (a0:yfx):LP:=fun id F H Q =>
 bif Nat.beq id 22549700 then yfV F H (fun i0 i1 i2 i3 i4 i5 i6 i7 i8=>∃ n:Nat,ya5 a0 (ykL Q) n i0 i1 i2 i3 i4 i5 i6 i7 i8) else
 False
def yoO (e:List (Nat×EffF)) (a0:yfx):SE:=⟨(E e),lookS [(yhI,ymQ a0)],lookI [],yk7 a0⟩
theorem yr1 (e:List (Nat×EffF)) (he:EG e):SEOk (yoO e yde):=yai ⟨(ywd e he),trivial⟩ trivial he.ok
theorem ysT (e:List (Nat×EffF)) (a0 Q n i0 i1 i2 i3 i4 i5 i6 i7 i8):WC (E e) (callW (yoO e a0) 5) (yk7 a0) ylT [(1,.v (.int .u64 i0)),(2,.box (.agg [(.int .u64 i1),(.int .u64 i2)])),(4,.box (.agg [(.int .u64 i3),(.int .u64 i4)])),(6,.box (.agg [(.int .u64 i5),(.int .u64 i6)])),(7,.v (.int .u64 i7)),(8,.v (.int .i64 i8))] [] (fun x F' H'=>match x with | .norm=>ykc a0 Q n F' H' | .exit i=>Q (.exit i) F' H' | .ret=>Q .ret F' H')=ya5 a0 (ykL Q) (n+1) i0 i1 i2 i3 i4 i5 i6 i7 i8:=by kernel_rfl
theorem ywM (e:List (Nat×EffF)) (_:EG e):LpOk (E e) (yk7 yde) ylT:=(yah (by kernel_rfl))
theorem yvx (e:List (Nat×EffF)) (he:EG e):∀ F H Q,yk7 yde 22549700 F H Q→LoopT (E e) ylT F H Q:=by
 intro F H Q h
 have go:=LoopT.intro (yaF (yr1 e he) 5) (ywM e he) (ykc yde Q) (by
   intro F H h
   unfold ykc yfV at h
   split at h
   · exact h
   · exact h) (by
   intro n F H h
   unfold ykc yfV at h
   split at h
   · exact (ysT ..).mpr h
   · exact h.elim)
 have h:yfV F H _:=h
 unfold yfV at h
 split at h
 · obtain ⟨n,h⟩:=h;exact go n _ _ h
 · exact h.elim
theorem yBE (e:List (Nat×EffF)) (a0 p0 p1 p2 K):WP (yoO e a0) 6 yDv [(.agg [(.int .u64 p0),(.int .u64 p1)]),(.int .u64 p2)] K=yoM a0 p0 p1 p2 (fun r0 r1 r2=>K (.tup [(.agg [(.int .u64 r0),(.int .u64 r1)]),(.int .u64 r2)])):=by kernel_rfl
theorem yt7 (e:List (Nat×EffF)) (he:EG e):OkF (E e) yt6 yhZ:=by
 intro as K h
 unfold yt6 yoN at h
 split at h
 · exact WP_ok (yr1 e he) (ybe (l:=[(22549700,ylT)]) ⟨yvx e he,trivial⟩ (by kernel_rfl)) (by kernel_rfl) (by kernel_rfl) (fun _=>yac (by kernel_rfl) _) (he.num _ (by kernel_rfl)) ((yBE ..).mpr h)
 · exact h.elim
abbrev yhR:Type:=Bool→Int→Int→Int→Int→(Int→Int→Int→Prop)→Prop
def yqx (p0:Bool) (p1 p2 p3 p4:Int) (K:Int→Int→Int→Prop):Prop :=
 (cbr (decide (p1>(0:Int)))
 (K (0:Int) (0:Int) (16:Int))
 (cbr (decide (p3>(0:Int)))
 (K (0:Int) (0:Int) (16:Int))
 (cbr (decide (p2>(1000000000000000000:Int)))
 (K (0:Int) (0:Int) (16:Int))
 (cbr (decide (p4>(1000000000000000000:Int)))
 (K (0:Int) (0:Int) (16:Int))
 (cbr p0
 (K (IntKind.i64.wrap ((0:Int)-(IntKind.i64.wrap p2))) (IntKind.i64.wrap p4) (0:Int))
 (K (IntKind.i64.wrap p2) (IntKind.i64.wrap p4) (0:Int)))))))
def ygC (p0:Bool) (p1 p2 p3 p4:Int) (K:Int→Int→Int→Prop):Prop:=yqx p0 p1 p2 p3 p4 K
def ymT (w:yhR) (as:Ls) (K:PV→Prop):Prop :=
 match as with
 | [(.bool p0),(.agg [(.int .u64 p1),(.int .u64 p2)]),(.agg [(.int .u64 p3),(.int .u64 p4)])]=>w p0 p1 p2 p3 p4 (fun r0 r1 r2=>K (.tup [(.agg [(.int .i64 r0),(.int .i64 r1)]),(.int .i64 r2)]))
 | _=>False
def ywe (as:Ls) (K:PV→Prop):Prop:=ymT ygC as K
def yDM:LP:=fun _ _ _ _ =>
 False
def ywf (e:List (Nat×EffF)):SE:=⟨(E e),lookS [],lookI [],yDM⟩
theorem yBF (e:List (Nat×EffF)) (he:EG e):SEOk (ywf e):=yai trivial trivial he.ok
theorem yDN (e:List (Nat×EffF)) ( p0 p1 p2 p3 p4 K):WP (ywf e) 6 yFu [(.bool p0),(.agg [(.int .u64 p1),(.int .u64 p2)]),(.agg [(.int .u64 p3),(.int .u64 p4)])] K=yqx p0 p1 p2 p3 p4 (fun r0 r1 r2=>K (.tup [(.agg [(.int .i64 r0),(.int .i64 r1)]),(.int .i64 r2)])):=by kernel_rfl
theorem ywg (e:List (Nat×EffF)) (he:EG e):OkF (E e) ywe yhJ:=by
 intro as K h
 unfold ywe ymT at h
 split at h
 · exact WP_ok (yBF e he) (yah (by kernel_rfl)) (by kernel_rfl) (by kernel_rfl) (fun _=>yac (by kernel_rfl) _) (he.num _ (by kernel_rfl)) ((yDN ..).mpr h)
 · exact h.elim
abbrev ydG:Type:=Int→Int→Int→Int→(Int→Int→Int→Prop)→Prop
def ysU (a0:ydd) (a1:yfU) (a2:yd1) (a3:ydW) (a4:yfx) (a5:ymR) (a6:yhP) (a7:ymS) (a8:yhR) (p0 p1 p2 p3:Int) (K:Int→Int→Int→Prop):Prop :=
 (a0 p0 p1 p2 p3 (fun yi0 =>
 (cbr (yi0 !=(0:Int))
 (a0 p0 p1 p2 p3 (fun yi1 =>
 (K (0:Int) (0:Int) yi1)))
 (a1 (IntKind.u64.wrap p1) (IntKind.u64.wrap p3) (fun yi2 =>
 (a2 p0 (fun yi3 =>
 (asr (!(decide (yi2=(0:Int))))
 (a3 yi3 (IntKind.u64.wrap (Int.tdiv (IntKind.u64.wrap p3) yi2)) (fun yi4 yi5 =>
 (a2 p2 (fun yi6 =>
 (asr (!(decide (yi2=(0:Int))))
 (a3 yi6 (IntKind.u64.wrap (Int.tdiv (IntKind.u64.wrap p1) yi2)) (fun yi7 yi8 =>
 (a4 yi4 yi5 yi7 yi8 (fun yi9 yi10 =>
 (cbr ((decide (p0<(0:Int))) !=(decide (p2<(0:Int))))
 (a5 yi4 yi5 yi7 yi8 (fun yi11 yi12 =>
 (a6 yi4 yi5 yi7 yi8 (fun yb13 =>
 (cbr yb13
 (a5 yi7 yi8 yi4 yi5 (fun yi14 yi15 =>
 (cbr ((yi14 ==(0:Int))&&((yi15 ==(0:Int))&&true))
 (K (0:Int) (1:Int) (0:Int))
 (a7 yi14 yi15 yi2 (fun _ _ yi18 =>
 (a1 yi18 yi2 (fun yi19 =>
 (a7 yi14 yi15 yi19 (fun yi20 yi21 _ =>
 (asr (!(decide (yi2=(0:Int))))
 (asr (!(decide (yi19=(0:Int))))
 (a3 (IntKind.u64.wrap (Int.tdiv (IntKind.u64.wrap p1) yi2)) (IntKind.u64.wrap (Int.tdiv (IntKind.u64.wrap p3) yi19)) (fun yi23 yi24 =>
 (a8 (decide (p2<(0:Int))) yi20 yi21 yi23 yi24 (fun yi25 yi26 yi27 =>
 (K yi25 yi26 yi27))))))))))))))))
 (cbr ((yi11 ==(0:Int))&&((yi12 ==(0:Int))&&true))
 (K (0:Int) (1:Int) (0:Int))
 (a7 yi11 yi12 yi2 (fun _ _ yi30 =>
 (a1 yi30 yi2 (fun yi31 =>
 (a7 yi11 yi12 yi31 (fun yi32 yi33 _ =>
 (asr (!(decide (yi2=(0:Int))))
 (asr (!(decide (yi31=(0:Int))))
 (a3 (IntKind.u64.wrap (Int.tdiv (IntKind.u64.wrap p1) yi2)) (IntKind.u64.wrap (Int.tdiv (IntKind.u64.wrap p3) yi31)) (fun yi35 yi36 =>
 (a8 (decide (p0<(0:Int))) yi32 yi33 yi35 yi36 (fun yi37 yi38 yi39 =>
 (K yi37 yi38 yi39)))))))))))))))))))
 (cbr ((yi9 ==(0:Int))&&((yi10 ==(0:Int))&&true))
 (K (0:Int) (1:Int) (0:Int))
 (a7 yi9 yi10 yi2 (fun _ _ yi42 =>
 (a1 yi42 yi2 (fun yi43 =>
 (a7 yi9 yi10 yi43 (fun yi44 yi45 _ =>
 (asr (!(decide (yi2=(0:Int))))
 (asr (!(decide (yi43=(0:Int))))
 (a3 (IntKind.u64.wrap (Int.tdiv (IntKind.u64.wrap p1) yi2)) (IntKind.u64.wrap (Int.tdiv (IntKind.u64.wrap p3) yi43)) (fun yi47 yi48 =>
 (a8 (decide (p0<(0:Int))) yi44 yi45 yi47 yi48 (fun yi49 yi50 yi51 =>
 (K yi49 yi50 yi51))))))))))))))))))))))))))))))))
def ycD (p0 p1 p2 p3:Int) (K:Int→Int→Int→Prop):Prop:=ysU yd9 ydF ye6 ydo yde ygB yhQ ydX ygC p0 p1 p2 p3 K
def ymo (w:ydG) (as:Ls) (K:PV→Prop):Prop :=
 match as with
 | [(.agg [(.int .i64 p0),(.int .i64 p1)]),(.agg [(.int .i64 p2),(.int .i64 p3)])]=>w p0 p1 p2 p3 (fun r0 r1 r2=>K (.tup [(.agg [(.int .i64 r0),(.int .i64 r1)]),(.int .i64 r2)]))
 | _=>False
def yyk (as:Ls) (K:PV→Prop):Prop:=ymo ycD as K
def yFO (_:ydd) (_:yfU) (_:yd1) (_:ydW) (_:yfx) (_:ymR) (_:yhP) (_:ymS) (_:yhR):LP:=fun _ _ _ _ =>
 False
def yyl (e:List (Nat×EffF)) (a0:ydd) (a1:yfU) (a2:yd1) (a3:ydW) (a4:yfx) (a5:ymR) (a6:yhP) (a7:ymS) (a8:yhR):SE:=⟨(E e),lookS [(ycs,yh6 a0),(yeU,ymn a1),(ycP,yjT a2),(ycv,yiQ a3),(yhI,ymQ a4),(yhY,yoL a5),(ygl,ymO a6),(yhZ,yoN a7),(yhJ,ymT a8)],lookI [],yFO a0 a1 a2 a3 a4 a5 a6 a7 a8⟩
theorem yDO (e:List (Nat×EffF)) (he:EG e):SEOk (yyl e yd9 ydF ye6 ydo yde ygB yhQ ydX ygC):=yai ⟨(ymP e he),(yoG e he),(yoE e he),(yoK e he),(ywd e he),(yBD e he),(yv6 e he),(yt7 e he),(ywg e he),trivial⟩ trivial he.ok
theorem yFP (e:List (Nat×EffF)) (a0 a1 a2 a3 a4 a5 a6 a7 a8 p0 p1 p2 p3 K):WP (yyl e a0 a1 a2 a3 a4 a5 a6 a7 a8) 6 yHU [(.agg [(.int .i64 p0),(.int .i64 p1)]),(.agg [(.int .i64 p2),(.int .i64 p3)])] K=ysU a0 a1 a2 a3 a4 a5 a6 a7 a8 p0 p1 p2 p3 (fun r0 r1 r2=>K (.tup [(.agg [(.int .i64 r0),(.int .i64 r1)]),(.int .i64 r2)])):=by kernel_rfl
theorem ysV (e:List (Nat×EffF)) (he:EG e):OkF (E e) yyk ygI:=by
 intro as K h
 unfold yyk ymo at h
 split at h
 · exact WP_ok (yDO e he) (yah (by kernel_rfl)) (by kernel_rfl) (by kernel_rfl) (fun _=>yac (by kernel_rfl) _) (he.num _ (by kernel_rfl)) ((yFP ..).mpr h)
 · exact h.elim
abbrev ygS:Type:=Int→Int→Int→Int→(Int→Int→Int→Prop)→Prop
def ysW (a0:ydd) (a1:yq0) (a2:ydG) (p0 p1 p2 p3:Int) (K:Int→Int→Int→Prop):Prop :=
 (a0 p0 p1 p2 p3 (fun yi0 =>
 (cbr (yi0 !=(0:Int))
 (a0 p0 p1 p2 p3 (fun yi1 =>
 (K (0:Int) (0:Int) yi1)))
 (a1 p2 p3 (fun yi2 yi3 =>
 (a2 p0 p1 yi2 yi3 (fun yi4 yi5 yi6 =>
 (K yi4 yi5 yi6))))))))
def ye7 (p0 p1 p2 p3:Int) (K:Int→Int→Int→Prop):Prop:=ysW yd9 ynS ycD p0 p1 p2 p3 K
def yoP (w:ygS) (as:Ls) (K:PV→Prop):Prop :=
 match as with
 | [(.agg [(.int .i64 p0),(.int .i64 p1)]),(.agg [(.int .i64 p2),(.int .i64 p3)])]=>w p0 p1 p2 p3 (fun r0 r1 r2=>K (.tup [(.agg [(.int .i64 r0),(.int .i64 r1)]),(.int .i64 r2)]))
 | _=>False
def yym (as:Ls) (K:PV→Prop):Prop:=yoP ye7 as K
def yFQ (_:ydd) (_:yq0) (_:ydG):LP:=fun _ _ _ _ =>
 False
def yyn (e:List (Nat×EffF)) (a0:ydd) (a1:yq0) (a2:ydG):SE:=⟨(E e),lookS [(ycs,yh6 a0),(ynD,ysS a1),(ygI,ymo a2)],lookI [],yFQ a0 a1 a2⟩
theorem yDP (e:List (Nat×EffF)) (he:EG e):SEOk (yyn e yd9 ynS ycD):=yai ⟨(ymP e he),(yFN e he),(ysV e he),trivial⟩ trivial he.ok
theorem yFR (e:List (Nat×EffF)) (a0 a1 a2 p0 p1 p2 p3 K):WP (yyn e a0 a1 a2) 6 yHV [(.agg [(.int .i64 p0),(.int .i64 p1)]),(.agg [(.int .i64 p2),(.int .i64 p3)])] K=ysW a0 a1 a2 p0 p1 p2 p3 (fun r0 r1 r2=>K (.tup [(.agg [(.int .i64 r0),(.int .i64 r1)]),(.int .i64 r2)])):=by kernel_rfl
theorem yyo (e:List (Nat×EffF)) (he:EG e):OkF (E e) yym yjk:=by
 intro as K h
 unfold yym yoP at h
 split at h
 · exact WP_ok (yDP e he) (yah (by kernel_rfl)) (by kernel_rfl) (by kernel_rfl) (fun _=>yac (by kernel_rfl) _) (he.num _ (by kernel_rfl)) ((yFR ..).mpr h)
 · exact h.elim
abbrev yjU:Type:=Int→Int→Int→Int→(Int→Int→Int→Prop)→Prop
end Go.Pf.Vc
