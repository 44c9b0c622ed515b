/- Part 3 of what the statement rests on: a verified evaluator over pure values, the conditions of the program's functions, and their plain laws. -/
import Derived.Test.YtegkpannhahmcaaGreatDoorCfW2
namespace Go.Pf.Vc
open Go Go.Pf
set_option maxRecDepth 100000
abbrev Es:=List (Nat×EffF)
def yvI (a0:ybJ) (p0 p1 p2:Int) (K:Int→Int→Prop):Prop :=
 (cbr (p2 ==(0:Int))
 False
 (cbr (decide (p2≤p0))
 False
 (cbr (p0 ==(0:Int))
 (asr (!(decide (p2=(0:Int))))
 (asr (!(decide (p2=(0:Int))))
 (K (IntKind.u64.wrap (Int.tdiv p1 p2)) (Int.tmod p1 p2))))
 (a0 p2 (fun a =>
 (asr (!(decide ((IntKind.u64.wrap a)<(0:Int))))
 (asr (!(decide ((IntKind.u64.wrap a)<(0:Int))))
 (asr (!(decide ((IntKind.u64.wrap ((64:Int)-(IntKind.u64.wrap a)))<(0:Int))))
 (asr (!(decide ((IntKind.u64.wrap a)<(0:Int))))
 (asr (!(decide ((Int.fdiv (IntKind.u64.wrap (p2*2 ^ (min (IntKind.u64.wrap a).toNat IntKind.u64.bits))) 4294967296)=(0:Int))))
 (∃ u:Nat,yg0 a0
 (fun b v c w h i x d _ _=>(asr (!(decide (c=(0:Int))))
 (∃ l:Nat,yeN a0
 (fun y m _ _ z A _ B n _=>(asr (!(decide (m<(0:Int))))
 (K (IntKind.u64.wrap ((IntKind.u64.wrap (A*(4294967296:Int)))+n)) (Int.fdiv (IntKind.u64.wrap ((IntKind.u64.wrap ((IntKind.u64.wrap (B*(4294967296:Int)))+z))-(IntKind.u64.wrap (n*y)))) (2 ^ (min m.toNat IntKind.u64.bits))))))
 (fun C o _ _ D E _ F p _=>(asr (!(decide (o<(0:Int))))
 (K (IntKind.u64.wrap ((IntKind.u64.wrap (E*(4294967296:Int)))+p)) (Int.fdiv (IntKind.u64.wrap ((IntKind.u64.wrap ((IntKind.u64.wrap (F*(4294967296:Int)))+D))-(IntKind.u64.wrap (p*C)))) (2 ^ (min o.toNat IntKind.u64.bits))))))
 l b v c w x d (IntKind.u64.wrap ((IntKind.u64.wrap ((IntKind.u64.wrap ((IntKind.u64.wrap (h*(4294967296:Int)))+i))-(IntKind.u64.wrap (d*b))))-(IntKind.u64.wrap ((IntKind.u64.wrap (Int.tdiv (IntKind.u64.wrap ((IntKind.u64.wrap ((IntKind.u64.wrap (h*(4294967296:Int)))+i))-(IntKind.u64.wrap (d*b)))) c))*c)))) (IntKind.u64.wrap ((IntKind.u64.wrap ((IntKind.u64.wrap (h*(4294967296:Int)))+i))-(IntKind.u64.wrap (d*b)))) (IntKind.u64.wrap (Int.tdiv (IntKind.u64.wrap ((IntKind.u64.wrap ((IntKind.u64.wrap (h*(4294967296:Int)))+i))-(IntKind.u64.wrap (d*b)))) c)))))
 (fun e G f H j k I g _ _=>(asr (!(decide (f=(0:Int))))
 (∃ l:Nat,yeN a0
 (fun J q _ _ L M _ N r _=>(asr (!(decide (q<(0:Int))))
 (K (IntKind.u64.wrap ((IntKind.u64.wrap (M*(4294967296:Int)))+r)) (Int.fdiv (IntKind.u64.wrap ((IntKind.u64.wrap ((IntKind.u64.wrap (N*(4294967296:Int)))+L))-(IntKind.u64.wrap (r*J)))) (2 ^ (min q.toNat IntKind.u64.bits))))))
 (fun O s _ _ Q R _ S t _=>(asr (!(decide (s<(0:Int))))
 (K (IntKind.u64.wrap ((IntKind.u64.wrap (R*(4294967296:Int)))+t)) (Int.fdiv (IntKind.u64.wrap ((IntKind.u64.wrap ((IntKind.u64.wrap (S*(4294967296:Int)))+Q))-(IntKind.u64.wrap (t*O)))) (2 ^ (min s.toNat IntKind.u64.bits))))))
 l e G f H I g (IntKind.u64.wrap ((IntKind.u64.wrap ((IntKind.u64.wrap ((IntKind.u64.wrap (j*(4294967296:Int)))+k))-(IntKind.u64.wrap (g*e))))-(IntKind.u64.wrap ((IntKind.u64.wrap (Int.tdiv (IntKind.u64.wrap ((IntKind.u64.wrap ((IntKind.u64.wrap (j*(4294967296:Int)))+k))-(IntKind.u64.wrap (g*e)))) f))*f)))) (IntKind.u64.wrap ((IntKind.u64.wrap ((IntKind.u64.wrap (j*(4294967296:Int)))+k))-(IntKind.u64.wrap (g*e)))) (IntKind.u64.wrap (Int.tdiv (IntKind.u64.wrap ((IntKind.u64.wrap ((IntKind.u64.wrap (j*(4294967296:Int)))+k))-(IntKind.u64.wrap (g*e)))) f)))))
 u (IntKind.u64.wrap (p2*2 ^ (min (IntKind.u64.wrap a).toNat IntKind.u64.bits))) (IntKind.u64.wrap a) (Int.fdiv (IntKind.u64.wrap (p2*2 ^ (min (IntKind.u64.wrap a).toNat IntKind.u64.bits))) 4294967296) (IntKind.u64.wrap (BitVec.ofInt IntKind.u64.bits (IntKind.u64.wrap (p2*2 ^ (min (IntKind.u64.wrap a).toNat IntKind.u64.bits)))&&&BitVec.ofInt IntKind.u64.bits (4294967295:Int)).toNat) (IntKind.u64.wrap (BitVec.ofInt IntKind.u64.bits (IntKind.u64.wrap (p0*2 ^ (min (IntKind.u64.wrap a).toNat IntKind.u64.bits)))|||BitVec.ofInt IntKind.u64.bits (Int.fdiv p1 (2 ^ (min (IntKind.u64.wrap ((64:Int)-(IntKind.u64.wrap a))).toNat IntKind.u64.bits)))).toNat) (Int.fdiv (IntKind.u64.wrap (p1*2 ^ (min (IntKind.u64.wrap a).toNat IntKind.u64.bits))) 4294967296) (IntKind.u64.wrap (BitVec.ofInt IntKind.u64.bits (IntKind.u64.wrap (p1*2 ^ (min (IntKind.u64.wrap a).toNat IntKind.u64.bits)))&&&BitVec.ofInt IntKind.u64.bits (4294967295:Int)).toNat) (IntKind.u64.wrap (Int.tdiv (IntKind.u64.wrap (BitVec.ofInt IntKind.u64.bits (IntKind.u64.wrap (p0*2 ^ (min (IntKind.u64.wrap a).toNat IntKind.u64.bits)))|||BitVec.ofInt IntKind.u64.bits (Int.fdiv p1 (2 ^ (min (IntKind.u64.wrap ((64:Int)-(IntKind.u64.wrap a))).toNat IntKind.u64.bits)))).toNat) (Int.fdiv (IntKind.u64.wrap (p2*2 ^ (min (IntKind.u64.wrap a).toNat IntKind.u64.bits))) 4294967296))) (IntKind.u64.wrap ((IntKind.u64.wrap (BitVec.ofInt IntKind.u64.bits (IntKind.u64.wrap (p0*2 ^ (min (IntKind.u64.wrap a).toNat IntKind.u64.bits)))|||BitVec.ofInt IntKind.u64.bits (Int.fdiv p1 (2 ^ (min (IntKind.u64.wrap ((64:Int)-(IntKind.u64.wrap a))).toNat IntKind.u64.bits)))).toNat)-(IntKind.u64.wrap ((IntKind.u64.wrap (Int.tdiv (IntKind.u64.wrap (BitVec.ofInt IntKind.u64.bits (IntKind.u64.wrap (p0*2 ^ (min (IntKind.u64.wrap a).toNat IntKind.u64.bits)))|||BitVec.ofInt IntKind.u64.bits (Int.fdiv p1 (2 ^ (min (IntKind.u64.wrap ((64:Int)-(IntKind.u64.wrap a))).toNat IntKind.u64.bits)))).toNat) (Int.fdiv (IntKind.u64.wrap (p2*2 ^ (min (IntKind.u64.wrap a).toNat IntKind.u64.bits))) 4294967296)))*(Int.fdiv (IntKind.u64.wrap (p2*2 ^ (min (IntKind.u64.wrap a).toNat IntKind.u64.bits))) 4294967296))))))))))))))))
def yg1 (p0 p1 p2:Int) (K:Int→Int→Prop):Prop:=yvI ybi p0 p1 p2 K
def yqE (w:ykR) (as:Ls) (K:PV→Prop):Prop :=
 match as with
 | [(.int .u64 p0),(.int .u64 p1),(.int .u64 p2)]=>w p0 p1 p2 (fun r0 r1=>K (.tup [(.int .u64 r0),(.int .u64 r1)]))
 | _=>False
def yBI (as:Ls) (K:PV→Prop):Prop:=yqE yg1 as K
def yjp (F:Frm) (H:Hp) (A0:Int→Int→Int→Int→Int→Int→Int→Int→Int→Prop) (A1:Int→Int→Int→Int→Int→Int→Int→Int→Int→Bool→Prop):Prop :=
 match F,H with
 | [(2,.v (.int .u64 i0)),(8,.v (.int .u64 i1)),(9,.v (.int .u64 i2)),(10,.v (.int .u64 i3)),(11,.v (.int .u64 i4)),(13,.v (.int .u64 i5)),(14,.v (.int .u64 i6)),(15,.v (.int .u64 i7)),(16,.v (.int .u64 i8))],[]=>(A0 i0 i1 i2 i3 i4 i5 i6 i7 i8)
 | [(2,.v (.int .u64 i0)),(8,.v (.int .u64 i1)),(9,.v (.int .u64 i2)),(10,.v (.int .u64 i3)),(11,.v (.int .u64 i4)),(13,.v (.int .u64 i5)),(14,.v (.int .u64 i6)),(15,.v (.int .u64 i7)),(16,.v (.int .u64 i8)),(85,.v (.bool b9))],[]=>(A1 i0 i1 i2 i3 i4 i5 i6 i7 i8 b9)
 | _,_=>False
def yjq (F:Frm) (H:Hp) (A0:Int→Int→Int→Int→Int→Int→Int→Int→Int→Prop) (A1:Int→Int→Int→Int→Int→Int→Int→Int→Int→Bool→Prop):Prop :=
 match F,H with
 | [(2,.v (.int .u64 i0)),(8,.v (.int .u64 i1)),(9,.v (.int .u64 i2)),(10,.v (.int .u64 i3)),(14,.v (.int .u64 i4)),(15,.v (.int .u64 i5)),(16,.v (.int .u64 i6)),(17,.v (.int .u64 i7)),(18,.v (.int .u64 i8))],[]=>(A0 i0 i1 i2 i3 i4 i5 i6 i7 i8)
 | [(2,.v (.int .u64 i0)),(8,.v (.int .u64 i1)),(9,.v (.int .u64 i2)),(10,.v (.int .u64 i3)),(14,.v (.int .u64 i4)),(15,.v (.int .u64 i5)),(16,.v (.int .u64 i6)),(17,.v (.int .u64 i7)),(18,.v (.int .u64 i8)),(120,.v (.bool b9))],[]=>(A1 i0 i1 i2 i3 i4 i5 i6 i7 i8 b9)
 | _,_=>False
def yg2 (Q:Ex→Frm→Hp→Prop):Int→Int→Int→Int→Int→Int→Int→Int→Int→Bool→Prop:=(fun i0 i1 i2 i3 i4 i5 i6 i7 i8 b9=>Q (.exit 0) [(2,.v (.int .u64 i0)),(8,.v (.int .u64 i1)),(9,.v (.int .u64 i2)),(10,.v (.int .u64 i3)),(11,.v (.int .u64 i4)),(13,.v (.int .u64 i5)),(14,.v (.int .u64 i6)),(15,.v (.int .u64 i7)),(16,.v (.int .u64 i8)),(85,.v (.bool b9))] [])
def yg3 (Q:Ex→Frm→Hp→Prop):Int→Int→Int→Int→Int→Int→Int→Int→Int→Bool→Prop:=(fun i0 i1 i2 i3 i4 i5 i6 i7 i8 b9=>Q (.exit 0) [(2,.v (.int .u64 i0)),(8,.v (.int .u64 i1)),(9,.v (.int .u64 i2)),(10,.v (.int .u64 i3)),(11,.v (.int .u64 i4)),(13,.v (.int .u64 i5)),(14,.v (.int .u64 i6)),(15,.v (.int .u64 i7)),(16,.v (.int .u64 i8)),(78,.v (.bool b9))] [])
def yg4 (Q:Ex→Frm→Hp→Prop):Int→Int→Int→Int→Int→Int→Int→Int→Int→Bool→Prop:=(fun i0 i1 i2 i3 i4 i5 i6 i7 i8 b9=>Q (.exit 2) [(2,.v (.int .u64 i0)),(8,.v (.int .u64 i1)),(9,.v (.int .u64 i2)),(10,.v (.int .u64 i3)),(14,.v (.int .u64 i4)),(15,.v (.int .u64 i5)),(16,.v (.int .u64 i6)),(17,.v (.int .u64 i7)),(18,.v (.int .u64 i8)),(120,.v (.bool b9))] [])
def yg5 (Q:Ex→Frm→Hp→Prop):Int→Int→Int→Int→Int→Int→Int→Int→Int→Bool→Prop:=(fun i0 i1 i2 i3 i4 i5 i6 i7 i8 b9=>Q (.exit 2) [(2,.v (.int .u64 i0)),(8,.v (.int .u64 i1)),(9,.v (.int .u64 i2)),(10,.v (.int .u64 i3)),(14,.v (.int .u64 i4)),(15,.v (.int .u64 i5)),(16,.v (.int .u64 i6)),(17,.v (.int .u64 i7)),(18,.v (.int .u64 i8)),(113,.v (.bool b9))] [])
def ylZ (a0:ybJ) (Q:Ex→Frm→Hp→Prop) (n:Nat) (F:Frm) (H:Hp):Prop:=yjp F H (fun i0 i1 i2 i3 i4 i5 i6 i7 i8=>yg0 a0 (yg2 Q) (yg3 Q) n i0 i1 i2 i3 i4 i5 i6 i7 i8) (fun i0 i1 i2 i3 i4 i5 i6 i7 i8 b9=>ydo a0 (yg2 Q) (yg3 Q) n i0 i1 i2 i3 i4 i5 i6 i7 i8 b9)
def yma (a0:ybJ) (Q:Ex→Frm→Hp→Prop) (n:Nat) (F:Frm) (H:Hp):Prop:=yjq F H (fun i0 i1 i2 i3 i4 i5 i6 i7 i8=>yeN a0 (yg4 Q) (yg5 Q) n i0 i1 i2 i3 i4 i5 i6 i7 i8) (fun i0 i1 i2 i3 i4 i5 i6 i7 i8 b9=>ydp a0 (yg4 Q) (yg5 Q) n i0 i1 i2 i3 i4 i5 i6 i7 i8 b9)
def ygD (a0:ybJ):LP:=fun id F H Q =>
 bif Nat.beq id 60530100 then yjp F H (fun i0 i1 i2 i3 i4 i5 i6 i7 i8=>∃ n:Nat,yg0 a0 (yg2 Q) (yg3 Q) n i0 i1 i2 i3 i4 i5 i6 i7 i8) (fun i0 i1 i2 i3 i4 i5 i6 i7 i8 b9=>∃ n:Nat,ydo a0 (yg2 Q) (yg3 Q) n i0 i1 i2 i3 i4 i5 i6 i7 i8 b9) else
 bif Nat.beq id 60530101 then yjq F H (fun i0 i1 i2 i3 i4 i5 i6 i7 i8=>∃ n:Nat,yeN a0 (yg4 Q) (yg5 Q) n i0 i1 i2 i3 i4 i5 i6 i7 i8) (fun i0 i1 i2 i3 i4 i5 i6 i7 i8 b9=>∃ n:Nat,ydp a0 (yg4 Q) (yg5 Q) n i0 i1 i2 i3 i4 i5 i6 i7 i8 b9) else
 False
def ykS (e:Es) (a0:ybJ):SE:=⟨(E e),lookS [(ye3,yin a0)],lookI [],ygD a0⟩
theorem ysw (e:Es) (he:EG e):SEOk (ykS e ybi):=yao ⟨(yt7 e he),trivial⟩ trivial he.ok
theorem yyI (e:Es) (a0 Q n i0 i1 i2 i3 i4 i5 i6 i7 i8):WC (E e) (callW (ykS e a0) 5) (ygD a0) ykH [(2,.v (.int .u64 i0)),(8,.v (.int .u64 i1)),(9,.v (.int .u64 i2)),(10,.v (.int .u64 i3)),(11,.v (.int .u64 i4)),(13,.v (.int .u64 i5)),(14,.v (.int .u64 i6)),(15,.v (.int .u64 i7)),(16,.v (.int .u64 i8))] [] (fun x F' H'=>match x with | .norm=>ylZ a0 Q n F' H' | .exit i=>Q (.exit i) F' H' | .ret=>Q .ret F' H')=yg0 a0 (yg2 Q) (yg3 Q) (n+1) i0 i1 i2 i3 i4 i5 i6 i7 i8:=by kernel_rfl
theorem yyJ (e:Es) (a0 Q n i0 i1 i2 i3 i4 i5 i6 i7 i8 b9):WC (E e) (callW (ykS e a0) 5) (ygD a0) ykH [(2,.v (.int .u64 i0)),(8,.v (.int .u64 i1)),(9,.v (.int .u64 i2)),(10,.v (.int .u64 i3)),(11,.v (.int .u64 i4)),(13,.v (.int .u64 i5)),(14,.v (.int .u64 i6)),(15,.v (.int .u64 i7)),(16,.v (.int .u64 i8)),(85,.v (.bool b9))] [] (fun x F' H'=>match x with | .norm=>ylZ a0 Q n F' H' | .exit i=>Q (.exit i) F' H' | .ret=>Q .ret F' H')=ydo a0 (yg2 Q) (yg3 Q) (n+1) i0 i1 i2 i3 i4 i5 i6 i7 i8 b9:=by kernel_rfl
theorem yDh (e:Es) (_:EG e):LpOk (E e) (ygD ybi) ykH:=(yag (by kernel_rfl))
theorem yBJ (e:Es) (he:EG e):∀ F H Q,ygD ybi 60530100 F H Q→LoopT (E e) ykH F H Q:=by
 intro F H Q h
 have go:=LoopT.intro (yaF (ysw e he) 5) (yDh e he) (ylZ ybi Q) (by
   intro F H h
   unfold ylZ yjp at h
   split at h
   · exact h
   · exact h
   · exact h) (by
   intro n F H h
   unfold ylZ yjp at h
   split at h
   · exact (yyI ..).mpr h
   · exact (yyJ ..).mpr h
   · exact h.elim)
 have h:yjp F H _ _:=h
 unfold yjp at h
 split at h
 · obtain ⟨n,h⟩:=h;exact go n _ _ h
 · obtain ⟨n,h⟩:=h;exact go n _ _ h
 · exact h.elim
theorem yyK (e:Es) (a0 Q n i0 i1 i2 i3 i4 i5 i6 i7 i8):WC (E e) (callW (ykS e a0) 5) (ygD a0) ykI [(2,.v (.int .u64 i0)),(8,.v (.int .u64 i1)),(9,.v (.int .u64 i2)),(10,.v (.int .u64 i3)),(14,.v (.int .u64 i4)),(15,.v (.int .u64 i5)),(16,.v (.int .u64 i6)),(17,.v (.int .u64 i7)),(18,.v (.int .u64 i8))] [] (fun x F' H'=>match x with | .norm=>yma a0 Q n F' H' | .exit i=>Q (.exit i) F' H' | .ret=>Q .ret F' H')=yeN a0 (yg4 Q) (yg5 Q) (n+1) i0 i1 i2 i3 i4 i5 i6 i7 i8:=by kernel_rfl
theorem yyL (e:Es) (a0 Q n i0 i1 i2 i3 i4 i5 i6 i7 i8 b9):WC (E e) (callW (ykS e a0) 5) (ygD a0) ykI [(2,.v (.int .u64 i0)),(8,.v (.int .u64 i1)),(9,.v (.int .u64 i2)),(10,.v (.int .u64 i3)),(14,.v (.int .u64 i4)),(15,.v (.int .u64 i5)),(16,.v (.int .u64 i6)),(17,.v (.int .u64 i7)),(18,.v (.int .u64 i8)),(120,.v (.bool b9))] [] (fun x F' H'=>match x with | .norm=>yma a0 Q n F' H' | .exit i=>Q (.exit i) F' H' | .ret=>Q .ret F' H')=ydp a0 (yg4 Q) (yg5 Q) (n+1) i0 i1 i2 i3 i4 i5 i6 i7 i8 b9:=by kernel_rfl
theorem yDi (e:Es) (_:EG e):LpOk (E e) (ygD ybi) ykI:=(yag (by kernel_rfl))
theorem yBK (e:Es) (he:EG e):∀ F H Q,ygD ybi 60530101 F H Q→LoopT (E e) ykI F H Q:=by
 intro F H Q h
 have go:=LoopT.intro (yaF (ysw e he) 5) (yDi e he) (yma ybi Q) (by
   intro F H h
   unfold yma yjq at h
   split at h
   · exact h
   · exact h
   · exact h) (by
   intro n F H h
   unfold yma yjq at h
   split at h
   · exact (yyK ..).mpr h
   · exact (yyL ..).mpr h
   · exact h.elim)
 have h:yjq F H _ _:=h
 unfold yjq at h
 split at h
 · obtain ⟨n,h⟩:=h;exact go n _ _ h
 · obtain ⟨n,h⟩:=h;exact go n _ _ h
 · exact h.elim
theorem yJm (e:Es) (a0 p0 p1 p2 K):WP (ykS e a0) 6 yLn [(.int .u64 p0),(.int .u64 p1),(.int .u64 p2)] K=yvI a0 p0 p1 p2 (fun r0 r1=>K (.tup [(.int .u64 r0),(.int .u64 r1)])):=by kernel_rfl
theorem yBL (e:Es) (he:EG e):OkF (E e) yBI ykD:=by
 intro as K h
 unfold yBI yqE at h
 split at h
 · exact WP_ok (ysw e he) (ybe (l:=[(60530100,ykH),(60530101,ykI)]) ⟨yBJ e he,yBK e he,trivial⟩ (by kernel_rfl)) (by kernel_rfl) (by kernel_rfl) (fun _=>yaa (by kernel_rfl) _) (he.num _ (by kernel_rfl)) ((yJm ..).mpr h)
 · exact h.elim
abbrev ytJ:Type:=Int→Int→Int→(Int→Prop)→Prop
def yvJ (a0:ykR) (p0 p1 p2:Int) (K:Int→Prop):Prop :=
 (asr (!(decide (p2=(0:Int))))
 (a0 (Int.tmod p0 p2) p1 p2 (fun _ a =>
 (K a))))
def yjr (p0 p1 p2:Int) (K:Int→Prop):Prop:=yvJ yg1 p0 p1 p2 K
def yvK (w:ytJ) (as:Ls) (K:PV→Prop):Prop :=
 match as with
 | [(.int .u64 p0),(.int .u64 p1),(.int .u64 p2)]=>w p0 p1 p2 (fun r0=>K (.int .u64 r0))
 | _=>False
def yBM (as:Ls) (K:PV→Prop):Prop:=yvK yjr as K
def yJn (_:ykR):LP:=fun _ _ _ _ =>
 False
def yBN (e:Es) (a0:ykR):SE:=⟨(E e),lookS [(ykD,yqE a0)],lookI [],yJn a0⟩
theorem yHn (e:Es) (he:EG e):SEOk (yBN e yg1):=yao ⟨(yBL e he),trivial⟩ trivial he.ok
theorem yJo (e:Es) (a0 p0 p1 p2 K):WP (yBN e a0) 6 yLo [(.int .u64 p0),(.int .u64 p1),(.int .u64 p2)] K=yvJ a0 p0 p1 p2 (fun r0=>K (.int .u64 r0)):=by kernel_rfl
theorem yJp (e:Es) (he:EG e):OkF (E e) yBM yp4:=by
 intro as K h
 unfold yBM yvK at h
 split at h
 · exact WP_ok (yHn e he) (yag (by kernel_rfl)) (by kernel_rfl) (by kernel_rfl) (fun _=>yaa (by kernel_rfl) _) (he.num _ (by kernel_rfl)) ((yJo ..).mpr h)
 · exact h.elim
abbrev ybq:Type:=Int→Int→Int→Int→(Int→Int→Int→Prop)→Prop
def yqF (a0:yby) (a1:ydc) (a2:ybQ) (a3:ygZ) (a4:yyD) (a5:ytJ) (a6:ykR) (a7:ycY) (a8:yyE) (p0 p1 p2 p3:Int) (K:Int→Int→Int→Prop):Prop :=
 (a0 p0 p1 p2 p3 (fun z =>
 (cbr (z !=(0:Int))
 (K (0:Int) (0:Int) z)
 (a1 (IntKind.u64.wrap p1) (IntKind.u64.wrap p3) (fun a =>
 (a2 p0 (fun A =>
 (asr (!(decide (a=(0:Int))))
 (a3 A (IntKind.u64.wrap (Int.tdiv (IntKind.u64.wrap p3) a)) (fun b i =>
 (a2 p2 (fun B =>
 (asr (!(decide (a=(0:Int))))
 (a3 B (IntKind.u64.wrap (Int.tdiv (IntKind.u64.wrap p1) a)) (fun c j =>
 (cbr ((decide (p0<(0:Int))) ==(decide (p2<(0:Int))))
 (a4 i j (0:Int) (fun k C =>
 (a4 b c C (fun d _ =>
 (cbr (d ==(0:Int))
 (cbr (k ==(0:Int))
 (K (0:Int) (1:Int) (0:Int))
 (a5 d k a (fun D =>
 (a1 D a (fun p =>
 (cbr (decide (d≥p))
 (K (0:Int) (0:Int) (16:Int))
 (a6 d k p (fun E _ =>
 (asr (!(decide (a=(0:Int))))
 (asr (!(decide (p=(0:Int))))
 (a3 (IntKind.u64.wrap (Int.tdiv (IntKind.u64.wrap p1) a)) (IntKind.u64.wrap (Int.tdiv (IntKind.u64.wrap p3) p)) (fun F G =>
 (cbr (decide (F>(0:Int)))
 (K (0:Int) (0:Int) (16:Int))
 (a7 (decide (p0<(0:Int))) E G (fun H I J =>
 (K H I J))))))))))))))))
 (a5 d k a (fun L =>
 (a1 L a (fun q =>
 (cbr (decide (d≥q))
 (K (0:Int) (0:Int) (16:Int))
 (a6 d k q (fun M _ =>
 (asr (!(decide (a=(0:Int))))
 (asr (!(decide (q=(0:Int))))
 (a3 (IntKind.u64.wrap (Int.tdiv (IntKind.u64.wrap p1) a)) (IntKind.u64.wrap (Int.tdiv (IntKind.u64.wrap p3) q)) (fun N O =>
 (cbr (decide (N>(0:Int)))
 (K (0:Int) (0:Int) (16:Int))
 (a7 (decide (p0<(0:Int))) M O (fun Q R S =>
 (K Q R S))))))))))))))))))))
 (cbr (decide (b<c))
 (a8 j i (0:Int) (fun l T =>
 (a8 c b T (fun e _ =>
 (cbr (e ==(0:Int))
 (cbr (l ==(0:Int))
 (K (0:Int) (1:Int) (0:Int))
 (a5 e l a (fun U =>
 (a1 U a (fun r =>
 (cbr (decide (e≥r))
 (K (0:Int) (0:Int) (16:Int))
 (a6 e l r (fun V _ =>
 (asr (!(decide (a=(0:Int))))
 (asr (!(decide (r=(0:Int))))
 (a3 (IntKind.u64.wrap (Int.tdiv (IntKind.u64.wrap p1) a)) (IntKind.u64.wrap (Int.tdiv (IntKind.u64.wrap p3) r)) (fun W X =>
 (cbr (decide (W>(0:Int)))
 (K (0:Int) (0:Int) (16:Int))
 (a7 (!(decide (p0<(0:Int)))) V X (fun Y Z va =>
 (K Y Z va))))))))))))))))
 (a5 e l a (fun vb =>
 (a1 vb a (fun s =>
 (cbr (decide (e≥s))
 (K (0:Int) (0:Int) (16:Int))
 (a6 e l s (fun vc _ =>
 (asr (!(decide (a=(0:Int))))
 (asr (!(decide (s=(0:Int))))
 (a3 (IntKind.u64.wrap (Int.tdiv (IntKind.u64.wrap p1) a)) (IntKind.u64.wrap (Int.tdiv (IntKind.u64.wrap p3) s)) (fun vd ve =>
 (cbr (decide (vd>(0:Int)))
 (K (0:Int) (0:Int) (16:Int))
 (a7 (!(decide (p0<(0:Int)))) vc ve (fun vf vg vh =>
 (K vf vg vh))))))))))))))))))))
 (cbr (b == c)
 (cbr (decide (i<j))
 (a8 j i (0:Int) (fun m vi =>
 (a8 c b vi (fun f _ =>
 (cbr (f ==(0:Int))
 (cbr (m ==(0:Int))
 (K (0:Int) (1:Int) (0:Int))
 (a5 f m a (fun vj =>
 (a1 vj a (fun t =>
 (cbr (decide (f≥t))
 (K (0:Int) (0:Int) (16:Int))
 (a6 f m t (fun vk _ =>
 (asr (!(decide (a=(0:Int))))
 (asr (!(decide (t=(0:Int))))
 (a3 (IntKind.u64.wrap (Int.tdiv (IntKind.u64.wrap p1) a)) (IntKind.u64.wrap (Int.tdiv (IntKind.u64.wrap p3) t)) (fun vl vm =>
 (cbr (decide (vl>(0:Int)))
 (K (0:Int) (0:Int) (16:Int))
 (a7 (!(decide (p0<(0:Int)))) vk vm (fun vn vo vp =>
 (K vn vo vp))))))))))))))))
 (a5 f m a (fun vq =>
 (a1 vq a (fun u =>
 (cbr (decide (f≥u))
 (K (0:Int) (0:Int) (16:Int))
 (a6 f m u (fun vr _ =>
 (asr (!(decide (a=(0:Int))))
 (asr (!(decide (u=(0:Int))))
 (a3 (IntKind.u64.wrap (Int.tdiv (IntKind.u64.wrap p1) a)) (IntKind.u64.wrap (Int.tdiv (IntKind.u64.wrap p3) u)) (fun vs vt =>
 (cbr (decide (vs>(0:Int)))
 (K (0:Int) (0:Int) (16:Int))
 (a7 (!(decide (p0<(0:Int)))) vr vt (fun vu vv vw =>
 (K vu vv vw))))))))))))))))))))
 (a8 i j (0:Int) (fun n vx =>
 (a8 b c vx (fun g _ =>
 (cbr (g ==(0:Int))
 (cbr (n ==(0:Int))
 (K (0:Int) (1:Int) (0:Int))
 (a5 g n a (fun vy =>
 (a1 vy a (fun v =>
 (cbr (decide (g≥v))
 (K (0:Int) (0:Int) (16:Int))
 (a6 g n v (fun vz _ =>
 (asr (!(decide (a=(0:Int))))
 (asr (!(decide (v=(0:Int))))
 (a3 (IntKind.u64.wrap (Int.tdiv (IntKind.u64.wrap p1) a)) (IntKind.u64.wrap (Int.tdiv (IntKind.u64.wrap p3) v)) (fun vA vB =>
 (cbr (decide (vA>(0:Int)))
 (K (0:Int) (0:Int) (16:Int))
 (a7 (decide (p0<(0:Int))) vz vB (fun vC vD vE =>
 (K vC vD vE))))))))))))))))
 (a5 g n a (fun vF =>
 (a1 vF a (fun w =>
 (cbr (decide (g≥w))
 (K (0:Int) (0:Int) (16:Int))
 (a6 g n w (fun vG _ =>
 (asr (!(decide (a=(0:Int))))
 (asr (!(decide (w=(0:Int))))
 (a3 (IntKind.u64.wrap (Int.tdiv (IntKind.u64.wrap p1) a)) (IntKind.u64.wrap (Int.tdiv (IntKind.u64.wrap p3) w)) (fun vH vI =>
 (cbr (decide (vH>(0:Int)))
 (K (0:Int) (0:Int) (16:Int))
 (a7 (decide (p0<(0:Int))) vG vI (fun vJ vK vL =>
 (K vJ vK vL)))))))))))))))))))))
 (a8 i j (0:Int) (fun o vM =>
 (a8 b c vM (fun h _ =>
 (cbr (h ==(0:Int))
 (cbr (o ==(0:Int))
 (K (0:Int) (1:Int) (0:Int))
 (a5 h o a (fun vN =>
 (a1 vN a (fun x =>
 (cbr (decide (h≥x))
 (K (0:Int) (0:Int) (16:Int))
 (a6 h o x (fun vO _ =>
 (asr (!(decide (a=(0:Int))))
 (asr (!(decide (x=(0:Int))))
 (a3 (IntKind.u64.wrap (Int.tdiv (IntKind.u64.wrap p1) a)) (IntKind.u64.wrap (Int.tdiv (IntKind.u64.wrap p3) x)) (fun vP vQ =>
 (cbr (decide (vP>(0:Int)))
 (K (0:Int) (0:Int) (16:Int))
 (a7 (decide (p0<(0:Int))) vO vQ (fun vR vS vT =>
 (K vR vS vT))))))))))))))))
 (a5 h o a (fun vU =>
 (a1 vU a (fun y =>
 (cbr (decide (h≥y))
 (K (0:Int) (0:Int) (16:Int))
 (a6 h o y (fun vV _ =>
 (asr (!(decide (a=(0:Int))))
 (asr (!(decide (y=(0:Int))))
 (a3 (IntKind.u64.wrap (Int.tdiv (IntKind.u64.wrap p1) a)) (IntKind.u64.wrap (Int.tdiv (IntKind.u64.wrap p3) y)) (fun vW vX =>
 (cbr (decide (vW>(0:Int)))
 (K (0:Int) (0:Int) (16:Int))
 (a7 (decide (p0<(0:Int))) vV vX (fun vY vZ v0 =>
 (K vY vZ v0))))))))))))))))))))))))))))))))))))))
def yaD (p0 p1 p2 p3:Int) (K:Int→Int→Int→Prop):Prop:=yqF ych ycj ycG yfg ykB yjr yg1 ycd ykC p0 p1 p2 p3 K
def yfz (w:ybq) (as:Ls) (K:PV→Prop):Prop :=
 match as with
 | [(.agg [(.int .i64 p0),(.int .i64 p1)]),(.agg [(.int .i64 p2),(.int .i64 p3)])]=>w p0 p1 p2 p3 (fun r0 r1 r2=>K (.tup [(.agg [(.int .i64 r0),(.int .i64 r1)]),(.int .i64 r2)]))
 | _=>False
def ywX (as:Ls) (K:PV→Prop):Prop:=yfz yaD as K
def yFu (_:yby) (_:ydc) (_:ybQ) (_:ygZ) (_:yyD) (_:ytJ) (_:ykR) (_:ycY) (_:yyE):LP:=fun _ _ _ _ =>
 False
def ywY (e:Es) (a0:yby) (a1:ydc) (a2:ybQ) (a3:ygZ) (a4:yyD) (a5:ytJ) (a6:ykR) (a7:ycY) (a8:yyE):SE:=⟨(E e),lookS [(ycf,ye7 a0),(yc8,yh4 a1),(ybw,yfI a2),(yeQ,yod a3),(yjl,yvp a4),(yp4,yvK a5),(ykD,yqE a6),(ydt,ygS a7),(yjm,yvr a8)],lookI [],yFu a0 a1 a2 a3 a4 a5 a6 a7 a8⟩
theorem yDj (e:Es) (he:EG e):SEOk (ywY e ych ycj ycG yfg ykB yjr yg1 ycd ykC):=yao ⟨(yhE e he),(ymX e he),(yix e he),(yvF e he),(yJf e he),(yJp e he),(yBL e he),(ymo e he),(yJg e he),trivial⟩ trivial he.ok
theorem yFv (e:Es) (a0 a1 a2 a3 a4 a5 a6 a7 a8 p0 p1 p2 p3 K):WP (ywY e a0 a1 a2 a3 a4 a5 a6 a7 a8) 6 yG8 [(.agg [(.int .i64 p0),(.int .i64 p1)]),(.agg [(.int .i64 p2),(.int .i64 p3)])] K=yqF a0 a1 a2 a3 a4 a5 a6 a7 a8 p0 p1 p2 p3 (fun r0 r1 r2=>K (.tup [(.agg [(.int .i64 r0),(.int .i64 r1)]),(.int .i64 r2)])):=by kernel_rfl
theorem ygE (e:Es) (he:EG e):OkF (E e) ywX yda:=by
 intro as K h
 unfold ywX yfz at h
 split at h
 · exact WP_ok (yDj e he) (yag (by kernel_rfl)) (by kernel_rfl) (by kernel_rfl) (fun _=>yaa (by kernel_rfl) _) (he.num _ (by kernel_rfl)) ((yFv ..).mpr h)
 · exact h.elim
abbrev ydG:Type:=Int→Int→Int→Int→(Int→Int→Int→Prop)→Prop
def yqG (a0:yby) (a1:ybq) (p0 p1 p2 p3:Int) (K:Int→Int→Int→Prop):Prop :=
 (a0 p0 p1 p2 p3 (fun a =>
 (cbr (a !=(0:Int))
 (K (0:Int) (0:Int) a)
 (a1 p0 p1 (IntKind.i64.wrap ((0:Int)-p2)) p3 (fun b c d =>
 (K b c d))))))
def ybE (p0 p1 p2 p3:Int) (K:Int→Int→Int→Prop):Prop:=yqG ych yaD p0 p1 p2 p3 K
def yjP (w:ydG) (as:Ls) (K:PV→Prop):Prop :=
 match as with
 | [(.agg [(.int .i64 p0),(.int .i64 p1)]),(.agg [(.int .i64 p2),(.int .i64 p3)])]=>w p0 p1 p2 p3 (fun r0 r1 r2=>K (.tup [(.agg [(.int .i64 r0),(.int .i64 r1)]),(.int .i64 r2)]))
 | _=>False
def ywZ (as:Ls) (K:PV→Prop):Prop:=yjP ybE as K
def yFw (_:yby) (_:ybq):LP:=fun _ _ _ _ =>
 False
def yw0 (e:Es) (a0:yby) (a1:ybq):SE:=⟨(E e),lookS [(ycf,ye7 a0),(yda,yfz a1)],lookI [],yFw a0 a1⟩
theorem yDk (e:Es) (he:EG e):SEOk (yw0 e ych yaD):=yao ⟨(yhE e he),(ygE e he),trivial⟩ trivial he.ok
theorem yFx (e:Es) (a0 a1 p0 p1 p2 p3 K):WP (yw0 e a0 a1) 6 yG9 [(.agg [(.int .i64 p0),(.int .i64 p1)]),(.agg [(.int .i64 p2),(.int .i64 p3)])] K=yqG a0 a1 p0 p1 p2 p3 (fun r0 r1 r2=>K (.tup [(.agg [(.int .i64 r0),(.int .i64 r1)]),(.int .i64 r2)])):=by kernel_rfl
theorem ymZ (e:Es) (he:EG e):OkF (E e) ywZ yfs:=by
 intro as K h
 unfold ywZ yjP at h
 split at h
 · exact WP_ok (yDk e he) (yag (by kernel_rfl)) (by kernel_rfl) (by kernel_rfl) (fun _=>yaa (by kernel_rfl) _) (he.num _ (by kernel_rfl)) ((yFx ..).mpr h)
 · exact h.elim
abbrev ycw:Type:=Int→Int→Int→Int→(Int→Int→Int→Prop)→Prop
def yqH (a0:yby) (a1:ybQ) (a2:ydc) (a3:ygZ) (a4:ycY) (p0 p1 p2 p3:Int) (K:Int→Int→Int→Prop):Prop :=
 (a0 p0 p1 p2 p3 (fun d =>
 (cbr (d !=(0:Int))
 (K (0:Int) (0:Int) d)
 (a1 p0 (fun e =>
 (a1 p2 (fun f =>
 (a2 e (IntKind.u64.wrap p3) (fun a =>
 (a2 f (IntKind.u64.wrap p1) (fun b =>
 (asr (!(decide (a=(0:Int))))
 (asr (!(decide (b=(0:Int))))
 (a3 (IntKind.u64.wrap (Int.tdiv e a)) (IntKind.u64.wrap (Int.tdiv f b)) (fun h c =>
 (asr (!(decide (b=(0:Int))))
 (asr (!(decide (a=(0:Int))))
 (a3 (IntKind.u64.wrap (Int.tdiv (IntKind.u64.wrap p1) b)) (IntKind.u64.wrap (Int.tdiv (IntKind.u64.wrap p3) a)) (fun i g =>
 (cbr (decide ((IntKind.u64.wrap (h+i))>(0:Int)))
 (K (0:Int) (0:Int) (16:Int))
 (cbr (decide (c>(0:Int)))
 (a4 ((decide (p0<(0:Int))) !=(decide (p2<(0:Int)))) c g (fun j k l =>
 (K j k l)))
 (a4 false c g (fun m n o =>
 (K m n o))))))))))))))))))))))))
def ybr (p0 p1 p2 p3:Int) (K:Int→Int→Int→Prop):Prop:=yqH ych ycG ycj yfg ycd p0 p1 p2 p3 K
def yh5 (w:ycw) (as:Ls) (K:PV→Prop):Prop :=
 match as with
 | [(.agg [(.int .i64 p0),(.int .i64 p1)]),(.agg [(.int .i64 p2),(.int .i64 p3)])]=>w p0 p1 p2 p3 (fun r0 r1 r2=>K (.tup [(.agg [(.int .i64 r0),(.int .i64 r1)]),(.int .i64 r2)]))
 | _=>False
def yw1 (as:Ls) (K:PV→Prop):Prop:=yh5 ybr as K
def yFy (_:yby) (_:ybQ) (_:ydc) (_:ygZ) (_:ycY):LP:=fun _ _ _ _ =>
 False
def yw2 (e:Es) (a0:yby) (a1:ybQ) (a2:ydc) (a3:ygZ) (a4:ycY):SE:=⟨(E e),lookS [(ycf,ye7 a0),(ybw,yfI a1),(yc8,yh4 a2),(yeQ,yod a3),(ydt,ygS a4)],lookI [],yFy a0 a1 a2 a3 a4⟩
theorem yDl (e:Es) (he:EG e):SEOk (yw2 e ych ycG ycj yfg ycd):=yao ⟨(yhE e he),(yix e he),(ymX e he),(yvF e he),(ymo e he),trivial⟩ trivial he.ok
theorem yFz (e:Es) (a0 a1 a2 a3 a4 p0 p1 p2 p3 K):WP (yw2 e a0 a1 a2 a3 a4) 6 yHa [(.agg [(.int .i64 p0),(.int .i64 p1)]),(.agg [(.int .i64 p2),(.int .i64 p3)])] K=yqH a0 a1 a2 a3 a4 p0 p1 p2 p3 (fun r0 r1 r2=>K (.tup [(.agg [(.int .i64 r0),(.int .i64 r1)]),(.int .i64 r2)])):=by kernel_rfl
theorem yjQ (e:Es) (he:EG e):OkF (E e) yw1 yed:=by
 intro as K h
 unfold yw1 yh5 at h
 split at h
 · exact WP_ok (yDl e he) (yag (by kernel_rfl)) (by kernel_rfl) (by kernel_rfl) (fun _=>yaa (by kernel_rfl) _) (he.num _ (by kernel_rfl)) ((yFz ..).mpr h)
 · exact h.elim
abbrev yaJ:Type:=Int→Int→Int→Int→(Int→Int→Int→Prop)→Prop
def yqI (a0:yby) (a1:ycw) (p0 p1 p2 p3:Int) (K:Int→Int→Int→Prop):Prop :=
 (a0 p0 p1 p2 p3 (fun a =>
 (cbr (a !=(0:Int))
 (K (0:Int) (0:Int) a)
 (cbr (p2 ==(0:Int))
 (K (0:Int) (0:Int) (18:Int))
 (cbr (decide (p2<(0:Int)))
 (a1 p0 p1 (IntKind.i64.wrap ((0:Int)-p3)) (IntKind.i64.wrap ((0:Int)-p2)) (fun b c d =>
 (K b c d)))
 (a1 p0 p1 p3 p2 (fun e f g =>
 (K e f g))))))))
def yav (p0 p1 p2 p3:Int) (K:Int→Int→Int→Prop):Prop:=yqI ych ybr p0 p1 p2 p3 K
def yfA (w:yaJ) (as:Ls) (K:PV→Prop):Prop :=
 match as with
 | [(.agg [(.int .i64 p0),(.int .i64 p1)]),(.agg [(.int .i64 p2),(.int .i64 p3)])]=>w p0 p1 p2 p3 (fun r0 r1 r2=>K (.tup [(.agg [(.int .i64 r0),(.int .i64 r1)]),(.int .i64 r2)]))
 | _=>False
def yw3 (as:Ls) (K:PV→Prop):Prop:=yfA yav as K
def yFA (_:yby) (_:ycw):LP:=fun _ _ _ _ =>
 False
def yw4 (e:Es) (a0:yby) (a1:ycw):SE:=⟨(E e),lookS [(ycf,ye7 a0),(yed,yh5 a1)],lookI [],yFA a0 a1⟩
theorem yDm (e:Es) (he:EG e):SEOk (yw4 e ych ybr):=yao ⟨(yhE e he),(yjQ e he),trivial⟩ trivial he.ok
theorem yFB (e:Es) (a0 a1 p0 p1 p2 p3 K):WP (yw4 e a0 a1) 6 yHb [(.agg [(.int .i64 p0),(.int .i64 p1)]),(.agg [(.int .i64 p2),(.int .i64 p3)])] K=yqI a0 a1 p0 p1 p2 p3 (fun r0 r1 r2=>K (.tup [(.agg [(.int .i64 r0),(.int .i64 r1)]),(.int .i64 r2)])):=by kernel_rfl
theorem ygF (e:Es) (he:EG e):OkF (E e) yw3 yee:=by
 intro as K h
 unfold yw3 yfA at h
 split at h
 · exact WP_ok (yDm e he) (yag (by kernel_rfl)) (by kernel_rfl) (by kernel_rfl) (fun _=>yaa (by kernel_rfl) _) (he.num _ (by kernel_rfl)) ((yFB ..).mpr h)
 · exact h.elim
end Go.Pf.Vc
namespace Go.Pf.Vc
open Go Go.Pf
set_option linter.unusedVariables false
theorem yBO (p0:Int) (p1:Int) (r0:Int) (r1:Int) (r2:Int) (h:∀ K:Int→Int→Int→Prop,K r0 r1 r2→yal p0 p1 K) (K:Int→Int→Int→Prop):yal p0 p1 K=K r0 r1 r2 :=
 propext ⟨fun k=>detC (ylo [] ya6) (as:=[(.int .i64 p0),(.int .i64 p1)]) (x:=(.tup [(.agg [(.int .i64 r0),(.int .i64 r1)]),(.int .i64 r2)])) (fun K' k'=>h (fun r0 r1 r2=>K' (.tup [(.agg [(.int .i64 r0),(.int .i64 r1)]),(.int .i64 r2)])) k') (K:=fun x=>match x with | (.tup [(.agg [(.int .i64 r0),(.int .i64 r1)]),(.int .i64 r2)])=>K r0 r1 r2 | _=>False) k,h K⟩
theorem yAf (p0:Int) (p1:Int) (r0:Int) (h:∀ K:Int→Prop,K r0→ybp p0 p1 K) (K:Int→Prop):ybp p0 p1 K=K r0 :=
 propext ⟨fun k=>detC (yhD [] ya6) (as:=[(.agg [(.int .i64 p0),(.int .i64 p1)])]) (x:=(.int .i64 r0)) (fun K' k'=>h (fun r0=>K' (.int .i64 r0)) k') (K:=fun x=>match x with | (.int .i64 r0)=>K r0 | _=>False) k,h K⟩
theorem yDn (p0:Int) (p1:Int) (p2:Int) (p3:Int) (r0:Int) (r1:Int) (h:∀ K:Int→Int→Prop,K r0 r1→ybL p0 p1 p2 p3 K) (K:Int→Int→Prop):ybL p0 p1 p2 p3 K=K r0 r1 :=
 propext ⟨fun k=>detC (ygC [] ya6) (as:=[(.agg [(.int .i64 p0),(.int .i64 p1)]),(.agg [(.int .i64 p2),(.int .i64 p3)])]) (x:=(.tup [(.int .i64 r0),(.int .i64 r1)])) (fun K' k'=>h (fun r0 r1=>K' (.tup [(.int .i64 r0),(.int .i64 r1)])) k') (K:=fun x=>match x with | (.tup [(.int .i64 r0),(.int .i64 r1)])=>K r0 r1 | _=>False) k,h K⟩
theorem yDo (p0:Int) (p1:Int) (p2:Int) (p3:Int) (r0:Int) (r1:Int) (r2:Int) (h:∀ K:Int→Int→Int→Prop,K r0 r1 r2→yaD p0 p1 p2 p3 K) (K:Int→Int→Int→Prop):yaD p0 p1 p2 p3 K=K r0 r1 r2 :=
 propext ⟨fun k=>detC (ygE [] ya6) (as:=[(.agg [(.int .i64 p0),(.int .i64 p1)]),(.agg [(.int .i64 p2),(.int .i64 p3)])]) (x:=(.tup [(.agg [(.int .i64 r0),(.int .i64 r1)]),(.int .i64 r2)])) (fun K' k'=>h (fun r0 r1 r2=>K' (.tup [(.agg [(.int .i64 r0),(.int .i64 r1)]),(.int .i64 r2)])) k') (K:=fun x=>match x with | (.tup [(.agg [(.int .i64 r0),(.int .i64 r1)]),(.int .i64 r2)])=>K r0 r1 r2 | _=>False) k,h K⟩
theorem yDp (p0:Int) (p1:Int) (p2:Int) (p3:Int) (r0:Int) (r1:Int) (r2:Int) (h:∀ K:Int→Int→Int→Prop,K r0 r1 r2→ybE p0 p1 p2 p3 K) (K:Int→Int→Int→Prop):ybE p0 p1 p2 p3 K=K r0 r1 r2 :=
 propext ⟨fun k=>detC (ymZ [] ya6) (as:=[(.agg [(.int .i64 p0),(.int .i64 p1)]),(.agg [(.int .i64 p2),(.int .i64 p3)])]) (x:=(.tup [(.agg [(.int .i64 r0),(.int .i64 r1)]),(.int .i64 r2)])) (fun K' k'=>h (fun r0 r1 r2=>K' (.tup [(.agg [(.int .i64 r0),(.int .i64 r1)]),(.int .i64 r2)])) k') (K:=fun x=>match x with | (.tup [(.agg [(.int .i64 r0),(.int .i64 r1)]),(.int .i64 r2)])=>K r0 r1 r2 | _=>False) k,h K⟩
theorem yDq (p0:Int) (p1:Int) (p2:Int) (p3:Int) (r0:Int) (r1:Int) (r2:Int) (h:∀ K:Int→Int→Int→Prop,K r0 r1 r2→ybr p0 p1 p2 p3 K) (K:Int→Int→Int→Prop):ybr p0 p1 p2 p3 K=K r0 r1 r2 :=
 propext ⟨fun k=>detC (yjQ [] ya6) (as:=[(.agg [(.int .i64 p0),(.int .i64 p1)]),(.agg [(.int .i64 p2),(.int .i64 p3)])]) (x:=(.tup [(.agg [(.int .i64 r0),(.int .i64 r1)]),(.int .i64 r2)])) (fun K' k'=>h (fun r0 r1 r2=>K' (.tup [(.agg [(.int .i64 r0),(.int .i64 r1)]),(.int .i64 r2)])) k') (K:=fun x=>match x with | (.tup [(.agg [(.int .i64 r0),(.int .i64 r1)]),(.int .i64 r2)])=>K r0 r1 r2 | _=>False) k,h K⟩
theorem yDr (p0:Int) (p1:Int) (p2:Int) (p3:Int) (r0:Int) (r1:Int) (r2:Int) (h:∀ K:Int→Int→Int→Prop,K r0 r1 r2→yav p0 p1 p2 p3 K) (K:Int→Int→Int→Prop):yav p0 p1 p2 p3 K=K r0 r1 r2 :=
 propext ⟨fun k=>detC (ygF [] ya6) (as:=[(.agg [(.int .i64 p0),(.int .i64 p1)]),(.agg [(.int .i64 p2),(.int .i64 p3)])]) (x:=(.tup [(.agg [(.int .i64 r0),(.int .i64 r1)]),(.int .i64 r2)])) (fun K' k'=>h (fun r0 r1 r2=>K' (.tup [(.agg [(.int .i64 r0),(.int .i64 r1)]),(.int .i64 r2)])) k') (K:=fun x=>match x with | (.tup [(.agg [(.int .i64 r0),(.int .i64 r1)]),(.int .i64 r2)])=>K r0 r1 r2 | _=>False) k,h K⟩
end Go.Pf.Vc
namespace Go.Pf.Vc
open Go Go.Pf
set_option maxRecDepth 100000
abbrev yfh:Type:=Ls→(Int→Prop)→Prop
def yck (x0:Ls→Int→Int→Bool→Prop):Nat→Ls→Int→Int→Prop
 | 0,_,_,_=>False
 | n+1,l0,i1,i2 =>
 (cbr (decide (i2<(((List.length l0):Nat):Int)))
 (asr (decide ((0:Int)≤i2))
 (asr (decide (i2<(((List.length l0):Nat):Int)))
 (asr (conf (.one (.i .i64)) (List.getD l0 (i2.toNat) .nils))
 (yck x0 n l0 (if (intOfV (List.getD l0 (i2.toNat) .nils))<i1 then (intOfV (List.getD l0 (i2.toNat) .nils)) else i1) (IntKind.i64.wrap (i2+(1:Int)))))))
 (x0 l0 i1 i2 false))
def ykT (p0:Ls) (K:Int→Prop):Prop :=
 (cbr (decide ((((List.length p0):Nat):Int)<(1:Int)))
 False
 (asr (decide ((0:Int)<(((List.length p0):Nat):Int)))
 (asr (conf (.one (.i .i64)) (List.getD p0 0 .nils))
 (∃ n:Nat,yck
 (fun _ a _ _=>(K a))
 n p0 (intOfV (List.getD p0 0 .nils)) (1:Int)))))
def ydH (p0:Ls) (K:Int→Prop):Prop:=ykT p0 K
def ykU (w:yfh) (as:Ls) (K:PV→Prop):Prop :=
 match as with
 | [(.data p0)]=>w p0 (fun r0=>K (.int .i64 r0))
 | _=>False
def yqf (as:Ls) (K:PV→Prop):Prop:=ykU ydH as K
def yep (F:Frm) (H:Hp) (A0:Ls→Int→Int→Prop):Prop :=
 match F,H with
 | [(0,.v (.data l0)),(3,.v (.int .i64 i1)),(4,.v (.int .i64 i2))],[]=>(A0 l0 i1 i2)
 | _,_=>False
def yio (Q:Ex→Frm→Hp→Prop):Ls→Int→Int→Bool→Prop:=(fun l0 i1 i2 b3=>Q (.exit 0) [(0,.v (.data l0)),(3,.v (.int .i64 i1)),(4,.v (.int .i64 i2)),(15,.v (.bool b3))] [])
def yht (Q:Ex→Frm→Hp→Prop) (n:Nat) (F:Frm) (H:Hp):Prop:=yep F H (fun l0 i1 i2=>yck (yio Q) n l0 i1 i2)
def yh6:LP:=fun id F H Q =>
 bif Nat.beq id 10434000 then yep F H (fun l0 i1 i2=>∃ n:Nat,yck (yio Q) n l0 i1 i2) else
 False
def ykV (e:Es):SE:=⟨(E e),lookS [],lookI [],yh6⟩
theorem yoY (e:Es) (he:EG e):SEOk (ykV e):=yao trivial trivial he.ok
theorem yqJ (e:Es) ( Q n l0 i1 i2):WC (E e) (callW (ykV e) 5) (yh6) ynJ [(0,.v (.data l0)),(3,.v (.int .i64 i1)),(4,.v (.int .i64 i2))] [] (fun x F' H'=>match x with | .norm=>yht Q n F' H' | .exit i=>Q (.exit i) F' H' | .ret=>Q .ret F' H')=yck (yio Q) (n+1) l0 i1 i2:=by kernel_rfl
theorem yt8 (e:Es) (_:EG e):LpOk (E e) (yh6) ynJ:=(yag (by kernel_rfl))
theorem ysx (e:Es) (he:EG e):∀ F H Q,yh6 10434000 F H Q→LoopT (E e) ynJ F H Q:=by
 intro F H Q h
 have go:=LoopT.intro (yaF (yoY e he) 5) (yt8 e he) (yht Q) (by
   intro F H h
   unfold yht yep at h
   split at h
   · exact h
   · exact h) (by
   intro n F H h
   unfold yht yep at h
   split at h
   · exact (yqJ ..).mpr h
   · exact h.elim)
 have h:yep F H _:=h
 unfold yep at h
 split at h
 · obtain ⟨n,h⟩:=h;exact go n _ _ h
 · exact h.elim
theorem yyM (e:Es) ( p0 K):WP (ykV e) 6 yz7 [(.data p0)] K=ykT p0 (fun r0=>K (.int .i64 r0)):=by kernel_rfl
theorem yyN (e:Es) (he:EG e):OkF (E e) yqf ygR:=by
 intro as K h
 unfold yqf ykU at h
 split at h
 · exact WP_ok (yoY e he) (ybe (l:=[(10434000,ynJ)]) ⟨ysx e he,trivial⟩ (by kernel_rfl)) (by kernel_rfl) (by kernel_rfl) (fun _=>yaa (by kernel_rfl) _) (he.num _ (by kernel_rfl)) ((yyM ..).mpr h)
 · exact h.elim
abbrev yfi:Type:=Ls→(Int→Prop)→Prop
def ycl (x0:Ls→Int→Int→Bool→Prop):Nat→Ls→Int→Int→Prop
 | 0,_,_,_=>False
 | n+1,l0,i1,i2 =>
 (cbr (decide (i2<(((List.length l0):Nat):Int)))
 (asr (decide ((0:Int)≤i2))
 (asr (decide (i2<(((List.length l0):Nat):Int)))
 (asr (conf (.one (.i .i64)) (List.getD l0 (i2.toNat) .nils))
 (ycl x0 n l0 (if (intOfV (List.getD l0 (i2.toNat) .nils))>i1 then (intOfV (List.getD l0 (i2.toNat) .nils)) else i1) (IntKind.i64.wrap (i2+(1:Int)))))))
 (x0 l0 i1 i2 false))
def ykW (p0:Ls) (K:Int→Prop):Prop :=
 (cbr (decide ((((List.length p0):Nat):Int)<(1:Int)))
 False
 (asr (decide ((0:Int)<(((List.length p0):Nat):Int)))
 (asr (conf (.one (.i .i64)) (List.getD p0 0 .nils))
 (∃ n:Nat,ycl
 (fun _ a _ _=>(K a))
 n p0 (intOfV (List.getD p0 0 .nils)) (1:Int)))))
def ydI (p0:Ls) (K:Int→Prop):Prop:=ykW p0 K
def ykX (w:yfi) (as:Ls) (K:PV→Prop):Prop :=
 match as with
 | [(.data p0)]=>w p0 (fun r0=>K (.int .i64 r0))
 | _=>False
def yqg (as:Ls) (K:PV→Prop):Prop:=ykX ydI as K
def yeq (F:Frm) (H:Hp) (A0:Ls→Int→Int→Prop):Prop :=
 match F,H with
 | [(0,.v (.data l0)),(3,.v (.int .i64 i1)),(4,.v (.int .i64 i2))],[]=>(A0 l0 i1 i2)
 | _,_=>False
def yip (Q:Ex→Frm→Hp→Prop):Ls→Int→Int→Bool→Prop:=(fun l0 i1 i2 b3=>Q (.exit 0) [(0,.v (.data l0)),(3,.v (.int .i64 i1)),(4,.v (.int .i64 i2)),(15,.v (.bool b3))] [])
def yhu (Q:Ex→Frm→Hp→Prop) (n:Nat) (F:Frm) (H:Hp):Prop:=yeq F H (fun l0 i1 i2=>ycl (yip Q) n l0 i1 i2)
def yh7:LP:=fun id F H Q =>
 bif Nat.beq id 64079100 then yeq F H (fun l0 i1 i2=>∃ n:Nat,ycl (yip Q) n l0 i1 i2) else
 False
def ykY (e:Es):SE:=⟨(E e),lookS [],lookI [],yh7⟩
theorem yoZ (e:Es) (he:EG e):SEOk (ykY e):=yao trivial trivial he.ok
theorem yqK (e:Es) ( Q n l0 i1 i2):WC (E e) (callW (ykY e) 5) (yh7) ynK [(0,.v (.data l0)),(3,.v (.int .i64 i1)),(4,.v (.int .i64 i2))] [] (fun x F' H'=>match x with | .norm=>yhu Q n F' H' | .exit i=>Q (.exit i) F' H' | .ret=>Q .ret F' H')=ycl (yip Q) (n+1) l0 i1 i2:=by kernel_rfl
theorem yt9 (e:Es) (_:EG e):LpOk (E e) (yh7) ynK:=(yag (by kernel_rfl))
theorem ysy (e:Es) (he:EG e):∀ F H Q,yh7 64079100 F H Q→LoopT (E e) ynK F H Q:=by
 intro F H Q h
 have go:=LoopT.intro (yaF (yoZ e he) 5) (yt9 e he) (yhu Q) (by
   intro F H h
   unfold yhu yeq at h
   split at h
   · exact h
   · exact h) (by
   intro n F H h
   unfold yhu yeq at h
   split at h
   · exact (yqK ..).mpr h
   · exact h.elim)
 have h:yeq F H _:=h
 unfold yeq at h
 split at h
 · obtain ⟨n,h⟩:=h;exact go n _ _ h
 · exact h.elim
theorem yyO (e:Es) ( p0 K):WP (ykY e) 6 yz8 [(.data p0)] K=ykW p0 (fun r0=>K (.int .i64 r0)):=by kernel_rfl
theorem yyP (e:Es) (he:EG e):OkF (E e) yqg yff:=by
 intro as K h
 unfold yqg ykX at h
 split at h
 · exact WP_ok (yoZ e he) (ybe (l:=[(64079100,ynK)]) ⟨ysy e he,trivial⟩ (by kernel_rfl)) (by kernel_rfl) (by kernel_rfl) (fun _=>yaa (by kernel_rfl) _) (he.num _ (by kernel_rfl)) ((yyO ..).mpr h)
 · exact h.elim
abbrev yaB:Type:=Int→Ls→Ls→(Int→Prop)→Prop
def ydf (a0:yfh) (a1:yfi) (x0:Int→Prop) (x1:Int→Ls→Ls→Int→Int→Bool→Prop):Nat→Int→Ls→Ls→Int→Int→Prop
 | 0,_,_,_,_,_=>False
 | n+1,i0,l1,l2,i3,i4 =>
 (cbr (decide (i4<i3))
 (asr (decide ((0:Int)≤i4))
 (asr (decide (i4<(((List.length l1):Nat):Int)))
 (asr (conf (.one (.i .i64)) (List.getD l1 (i4.toNat) .nils))
 (asr (decide ((0:Int)≤(IntKind.i64.wrap (i4+(1:Int)))))
 (asr (decide ((IntKind.i64.wrap (i4+(1:Int)))<(((List.length l1):Nat):Int)))
 (asr (conf (.one (.i .i64)) (List.getD l1 ((IntKind.i64.wrap (i4+(1:Int))).toNat) .nils))
 (cbr (decide ((intOfV (List.getD l1 (i4.toNat) .nils))≥(intOfV (List.getD l1 ((IntKind.i64.wrap (i4+(1:Int))).toNat) .nils))))
 (x0 (8:Int))
 (ydf a0 a1 x0 x1 n i0 l1 l2 i3 (IntKind.i64.wrap (i4+(1:Int)))))))))))
 (x1 i0 l1 l2 i3 i4 false))
def ypw (a0:yfh) (a1:yfi) (p0:Int) (p1 p2:Ls) (K:Int→Prop):Prop :=
 (cbr (decide (p0>(1000:Int)))
 (K (4:Int))
 (cbr (decide ((((List.length p1):Nat):Int)>(40:Int)))
 (K (4:Int))
 (cbr (decide (p0<(1:Int)))
 (K (8:Int))
 (cbr (decide ((((List.length p1):Nat):Int)<(2:Int)))
 (K (8:Int))
 (cbr ((((List.length p2):Nat):Int) !=(IntKind.i64.wrap ((((List.length p1):Nat):Int)-(1:Int))))
 (K (8:Int))
 (asr (decide ((0:Int)<(((List.length p1):Nat):Int)))
 (asr (conf (.one (.i .i64)) (List.getD p1 0 .nils))
 (cbr ((intOfV (List.getD p1 0 .nils)) !=(0:Int))
 (K (8:Int))
 (asr (decide ((0:Int)≤(IntKind.i64.wrap ((((List.length p1):Nat):Int)-(1:Int)))))
 (asr (decide ((IntKind.i64.wrap ((((List.length p1):Nat):Int)-(1:Int)))<(((List.length p1):Nat):Int)))
 (asr (conf (.one (.i .i64)) (List.getD p1 ((IntKind.i64.wrap ((((List.length p1):Nat):Int)-(1:Int))).toNat) .nils))
 (cbr ((intOfV (List.getD p1 ((IntKind.i64.wrap ((((List.length p1):Nat):Int)-(1:Int))).toNat) .nils)) != p0)
 (K (8:Int))
 (∃ n:Nat,ydf a0 a1
 (fun b=>(K b))
 (fun _ _ a _ _ _=>(a0 a (fun c =>
 (cbr (decide (c<(0:Int)))
 (K (8:Int))
 (a1 a (fun d =>
 (cbr (decide (d>(12:Int)))
 (K (8:Int))
 (a1 a (fun e =>
 (cbr (e ==(0:Int))
 (K (8:Int))
 (K (0:Int))))))))))))
 n p0 p1 p2 (IntKind.i64.wrap ((((List.length p1):Nat):Int)-(1:Int))) (0:Int))))))))))))))
def yap (p0:Int) (p1 p2:Ls) (K:Int→Prop):Prop:=ypw ydH ydI p0 p1 p2 K
def yd7 (w:yaB) (as:Ls) (K:PV→Prop):Prop :=
 match as with
 | [(.agg [(.int .i64 p0),(.data p1),(.data p2)])]=>w p0 p1 p2 (fun r0=>K (.int .i64 r0))
 | _=>False
def yuR (as:Ls) (K:PV→Prop):Prop:=yd7 yap as K
def yga (F:Frm) (H:Hp) (A0:Int→Ls→Ls→Int→Int→Prop):Prop :=
 match F,H with
 | [(1,.box (.agg [(.int .i64 i0),(.data l1),(.data l2)])),(49,.v (.int .i64 i3)),(50,.v (.int .i64 i4))],[]=>(A0 i0 l1 l2 i3 i4)
 | _,_=>False
def ykZ (Q:Ex→Frm→Hp→Prop):Int→Prop:=(fun i0=>Q .ret [(2,.v (.int .i64 i0))] [])
def yk0 (Q:Ex→Frm→Hp→Prop):Int→Ls→Ls→Int→Int→Bool→Prop:=(fun i0 l1 l2 i3 i4 b5=>Q (.exit 0) [(1,.box (.agg [(.int .i64 i0),(.data l1),(.data l2)])),(49,.v (.int .i64 i3)),(50,.v (.int .i64 i4)),(51,.v (.bool b5))] [])
def yjR (a0:yfh) (a1:yfi) (Q:Ex→Frm→Hp→Prop) (n:Nat) (F:Frm) (H:Hp):Prop:=yga F H (fun i0 l1 l2 i3 i4=>ydf a0 a1 (ykZ Q) (yk0 Q) n i0 l1 l2 i3 i4)
def ylq (a0:yfh) (a1:yfi):LP:=fun id F H Q =>
 bif Nat.beq id 87419700 then yga F H (fun i0 l1 l2 i3 i4=>∃ n:Nat,ydf a0 a1 (ykZ Q) (yk0 Q) n i0 l1 l2 i3 i4) else
 False
def ypx (e:Es) (a0:yfh) (a1:yfi):SE:=⟨(E e),lookS [(ygR,ykU a0),(yff,ykX a1)],lookI [],ylq a0 a1⟩
theorem ysz (e:Es) (he:EG e):SEOk (ypx e ydH ydI):=yao ⟨(yyN e he),(yyP e he),trivial⟩ trivial he.ok
theorem yua (e:Es) (a0 a1 Q n i0 l1 l2 i3 i4):WC (E e) (callW (ypx e a0 a1) 5) (ylq a0 a1) ynL [(1,.box (.agg [(.int .i64 i0),(.data l1),(.data l2)])),(49,.v (.int .i64 i3)),(50,.v (.int .i64 i4))] [] (fun x F' H'=>match x with | .norm=>yjR a0 a1 Q n F' H' | .exit i=>Q (.exit i) F' H' | .ret=>Q .ret F' H')=ydf a0 a1 (ykZ Q) (yk0 Q) (n+1) i0 l1 l2 i3 i4:=by kernel_rfl
theorem yyQ (e:Es) (_:EG e):LpOk (E e) (ylq ydH ydI) ynL:=(yag (by kernel_rfl))
theorem yw5 (e:Es) (he:EG e):∀ F H Q,ylq ydH ydI 87419700 F H Q→LoopT (E e) ynL F H Q:=by
 intro F H Q h
 have go:=LoopT.intro (yaF (ysz e he) 5) (yyQ e he) (yjR ydH ydI Q) (by
   intro F H h
   unfold yjR yga at h
   split at h
   · exact h
   · exact h) (by
   intro n F H h
   unfold yjR yga at h
   split at h
   · exact (yua ..).mpr h
   · exact h.elim)
 have h:yga F H _:=h
 unfold yga at h
 split at h
 · obtain ⟨n,h⟩:=h;exact go n _ _ h
 · exact h.elim
theorem yDs (e:Es) (a0 a1 p0 p1 p2 K):WP (ypx e a0 a1) 6 yFe [(.agg [(.int .i64 p0),(.data p1),(.data p2)])] K=ypw a0 a1 p0 p1 p2 (fun r0=>K (.int .i64 r0)):=by kernel_rfl
theorem yeO (e:Es) (he:EG e):OkF (E e) yuR ybX:=by
 intro as K h
 unfold yuR yd7 at h
 split at h
 · exact WP_ok (ysz e he) (ybe (l:=[(87419700,ynL)]) ⟨yw5 e he,trivial⟩ (by kernel_rfl)) (by kernel_rfl) (by kernel_rfl) (fun _=>yaa (by kernel_rfl) _) (he.num _ (by kernel_rfl)) ((yDs ..).mpr h)
 · exact h.elim
abbrev yar:Type:=Int→Ls→Ls→(Int→Int→Prop)→Prop
def ydg (a0:yaB) (x0:Int→Ls→Ls→Int→Ls→Int→Int→Bool→Prop):Nat→Int→Ls→Ls→Int→Ls→Int→Int→Prop
 | 0,_,_,_,_,_,_,_=>False
 | n+1,i0,l1,l2,i3,l4,i5,i6 =>
 (cbr (decide (i6<i5))
 (asr (decide ((0:Int)≤i6))
 (asr (decide (i6<(((List.length l4):Nat):Int)))
 (asr (conf (.one (.i .i64)) (List.getD l4 (i6.toNat) .nils))
 (asr (decide ((0:Int)≤(IntKind.i64.wrap (i6+(1:Int)))))
 (asr (decide ((IntKind.i64.wrap (i6+(1:Int)))<(((List.length l1):Nat):Int)))
 (asr (conf (.one (.i .i64)) (List.getD l1 ((IntKind.i64.wrap (i6+(1:Int))).toNat) .nils))
 (asr (decide ((0:Int)≤i6))
 (asr (decide (i6<(((List.length l1):Nat):Int)))
 (asr (conf (.one (.i .i64)) (List.getD l1 (i6.toNat) .nils))
 (ydg a0 x0 n i0 l1 l2 (IntKind.i64.wrap (i3+(IntKind.i64.wrap ((intOfV (List.getD l4 (i6.toNat) .nils))*(IntKind.i64.wrap ((intOfV (List.getD l1 ((IntKind.i64.wrap (i6+(1:Int))).toNat) .nils))-(intOfV (List.getD l1 (i6.toNat) .nils)))))))) l4 i5 (IntKind.i64.wrap (i6+(1:Int)))))))))))))
 (x0 i0 l1 l2 i3 l4 i5 i6 false))
def ylr (a0:yaB) (p0:Int) (p1 p2:Ls) (K:Int→Int→Prop):Prop :=
 (a0 p0 p1 p2 (fun a =>
 (cbr (a !=(0:Int))
 (K (0:Int) a)
 (∃ n:Nat,ydg a0
 (fun _ _ _ b _ _ _ _=>(K b (0:Int)))
 n p0 p1 p2 (0:Int) p2 (((List.length p2):Nat):Int) (0:Int)))))
def yad (p0:Int) (p1 p2:Ls) (K:Int→Int→Prop):Prop:=ylr yap p0 p1 p2 K
def yd8 (w:yar) (as:Ls) (K:PV→Prop):Prop :=
 match as with
 | [(.agg [(.int .i64 p0),(.data p1),(.data p2)])]=>w p0 p1 p2 (fun r0 r1=>K (.tup [(.int .i64 r0),(.int .i64 r1)]))
 | _=>False
def yuS (as:Ls) (K:PV→Prop):Prop:=yd8 yad as K
def ygb (F:Frm) (H:Hp) (A0:Int→Ls→Ls→Int→Ls→Int→Int→Prop):Prop :=
 match F,H with
 | [(1,.box (.agg [(.int .i64 i0),(.data l1),(.data l2)])),(5,.v (.int .i64 i3)),(14,.v (.data l4)),(15,.v (.int .i64 i5)),(16,.v (.int .i64 i6))],[]=>(A0 i0 l1 l2 i3 l4 i5 i6)
 | _,_=>False
def yk1 (Q:Ex→Frm→Hp→Prop):Int→Ls→Ls→Int→Ls→Int→Int→Bool→Prop:=(fun i0 l1 l2 i3 l4 i5 i6 b7=>Q (.exit 0) [(1,.box (.agg [(.int .i64 i0),(.data l1),(.data l2)])),(5,.v (.int .i64 i3)),(14,.v (.data l4)),(15,.v (.int .i64 i5)),(16,.v (.int .i64 i6)),(17,.v (.bool b7))] [])
def yjS (a0:yaB) (Q:Ex→Frm→Hp→Prop) (n:Nat) (F:Frm) (H:Hp):Prop:=ygb F H (fun i0 l1 l2 i3 l4 i5 i6=>ydg a0 (yk1 Q) n i0 l1 l2 i3 l4 i5 i6)
def yls (a0:yaB):LP:=fun id F H Q =>
 bif Nat.beq id 45203600 then ygb F H (fun i0 l1 l2 i3 l4 i5 i6=>∃ n:Nat,ydg a0 (yk1 Q) n i0 l1 l2 i3 l4 i5 i6) else
 False
def ypy (e:Es) (a0:yaB):SE:=⟨(E e),lookS [(ybX,yd7 a0)],lookI [],yls a0⟩
theorem ysA (e:Es) (he:EG e):SEOk (ypy e yap):=yao ⟨(yeO e he),trivial⟩ trivial he.ok
theorem yub (e:Es) (a0 Q n i0 l1 l2 i3 l4 i5 i6):WC (E e) (callW (ypy e a0) 5) (yls a0) ynO [(1,.box (.agg [(.int .i64 i0),(.data l1),(.data l2)])),(5,.v (.int .i64 i3)),(14,.v (.data l4)),(15,.v (.int .i64 i5)),(16,.v (.int .i64 i6))] [] (fun x F' H'=>match x with | .norm=>yjS a0 Q n F' H' | .exit i=>Q (.exit i) F' H' | .ret=>Q .ret F' H')=ydg a0 (yk1 Q) (n+1) i0 l1 l2 i3 l4 i5 i6:=by kernel_rfl
theorem yyR (e:Es) (_:EG e):LpOk (E e) (yls yap) ynO:=(yag (by kernel_rfl))
theorem yw6 (e:Es) (he:EG e):∀ F H Q,yls yap 45203600 F H Q→LoopT (E e) ynO F H Q:=by
 intro F H Q h
 have go:=LoopT.intro (yaF (ysA e he) 5) (yyR e he) (yjS yap Q) (by
   intro F H h
   unfold yjS ygb at h
   split at h
   · exact h
   · exact h) (by
   intro n F H h
   unfold yjS ygb at h
   split at h
   · exact (yub ..).mpr h
   · exact h.elim)
 have h:ygb F H _:=h
 unfold ygb at h
 split at h
 · obtain ⟨n,h⟩:=h;exact go n _ _ h
 · exact h.elim
theorem yDt (e:Es) (a0 p0 p1 p2 K):WP (ypy e a0) 6 yFg [(.agg [(.int .i64 p0),(.data p1),(.data p2)])] K=ylr a0 p0 p1 p2 (fun r0 r1=>K (.tup [(.int .i64 r0),(.int .i64 r1)])):=by kernel_rfl
theorem yeP (e:Es) (he:EG e):OkF (E e) yuS ycF:=by
 intro as K h
 unfold yuS yd8 at h
 split at h
 · exact WP_ok (ysA e he) (ybe (l:=[(45203600,ynO)]) ⟨yw6 e he,trivial⟩ (by kernel_rfl)) (by kernel_rfl) (by kernel_rfl) (fun _=>yaa (by kernel_rfl) _) (he.num _ (by kernel_rfl)) ((yDt ..).mpr h)
 · exact h.elim
abbrev yca:Type:=Int→(Int→Int→Prop)→Prop
def yuT (p0:Int) (K:Int→Int→Prop):Prop :=
 (K p0 (1:Int))
def ybF (p0:Int) (K:Int→Int→Prop):Prop:=yuT p0 K
def yg6 (w:yca) (as:Ls) (K:PV→Prop):Prop :=
 match as with
 | [(.int .i64 p0)]=>w p0 (fun r0 r1=>K (.agg [(.int .i64 r0),(.int .i64 r1)]))
 | _=>False
def yuU (as:Ls) (K:PV→Prop):Prop:=yg6 ybF as K
def yDu:LP:=fun _ _ _ _ =>
 False
def yuV (e:Es):SE:=⟨(E e),lookS [],lookI [],yDu⟩
theorem yBP (e:Es) (he:EG e):SEOk (yuV e):=yao trivial trivial he.ok
theorem yDv (e:Es) ( p0 K):WP (yuV e) 6 yFj [(.int .i64 p0)] K=yuT p0 (fun r0 r1=>K (.agg [(.int .i64 r0),(.int .i64 r1)])):=by kernel_rfl
theorem ylt (e:Es) (he:EG e):OkF (E e) yuU ybY:=by
 intro as K h
 unfold yuU yg6 at h
 split at h
 · exact WP_ok (yBP e he) (yag (by kernel_rfl)) (by kernel_rfl) (by kernel_rfl) (fun _=>yaa (by kernel_rfl) _) (he.num _ (by kernel_rfl)) ((yDv ..).mpr h)
 · exact h.elim
abbrev ycx:Type:=Int→Int→Int→Int→(Bool→Prop)→Prop
def yqL (a0:ybD) (p0 p1 p2 p3:Int) (K:Bool→Prop):Prop :=
 (a0 p0 p1 p2 p3 (fun a _ =>
 (K (decide (a<(0:Int))))))
def ybM (p0 p1 p2 p3:Int) (K:Bool→Prop):Prop:=yqL ybL p0 p1 p2 p3 K
def yh8 (w:ycx) (as:Ls) (K:PV→Prop):Prop :=
 match as with
 | [(.agg [(.int .i64 p0),(.int .i64 p1)]),(.agg [(.int .i64 p2),(.int .i64 p3)])]=>w p0 p1 p2 p3 (fun r0=>K (.bool r0))
 | _=>False
def yw7 (as:Ls) (K:PV→Prop):Prop:=yh8 ybM as K
def yFC (_:ybD):LP:=fun _ _ _ _ =>
 False
def yw8 (e:Es) (a0:ybD):SE:=⟨(E e),lookS [(ycv,yfy a0)],lookI [],yFC a0⟩
theorem yDw (e:Es) (he:EG e):SEOk (yw8 e ybL):=yao ⟨(ygC e he),trivial⟩ trivial he.ok
theorem yFD (e:Es) (a0 p0 p1 p2 p3 K):WP (yw8 e a0) 6 yG7 [(.agg [(.int .i64 p0),(.int .i64 p1)]),(.agg [(.int .i64 p2),(.int .i64 p3)])] K=yqL a0 p0 p1 p2 p3 (fun r0=>K (.bool r0)):=by kernel_rfl
theorem ym0 (e:Es) (he:EG e):OkF (E e) yw7 ycQ:=by
 intro as K h
 unfold yw7 yh8 at h
 split at h
 · exact WP_ok (yDw e he) (yag (by kernel_rfl)) (by kernel_rfl) (by kernel_rfl) (fun _=>yaa (by kernel_rfl) _) (he.num _ (by kernel_rfl)) ((yFD ..).mpr h)
 · exact h.elim
abbrev yc2:Type:=Int→Ls→Ls→Int→Int→(Bool→Prop)→Prop
def ypz (a0:ycg) (a1:yca) (a2:ycx) (p0:Int) (_ _:Ls) (p3 p4:Int) (K:Bool→Prop):Prop :=
 (a0 p3 p4 (fun a =>
 (cbr (a ==(0:Int))
 (cbr (decide (p3≥(0:Int)))
 (a1 p0 (fun b c =>
 (a2 b c p3 p4 (fun d =>
 (K (!d))))))
 (K false))
 (K false))))
def ybR (p0:Int) (p1 p2:Ls) (p3 p4:Int) (K:Bool→Prop):Prop:=ypz ybp ybF ybM p0 p1 p2 p3 p4 K
def yiz (w:yc2) (as:Ls) (K:PV→Prop):Prop :=
 match as with
 | [(.agg [(.int .i64 p0),(.data p1),(.data p2)]),(.agg [(.int .i64 p3),(.int .i64 p4)])]=>w p0 p1 p2 p3 p4 (fun r0=>K (.bool r0))
 | _=>False
def yuW (as:Ls) (K:PV→Prop):Prop:=yiz ybR as K
def yDx (_:ycg) (_:yca) (_:ycx):LP:=fun _ _ _ _ =>
 False
def yuX (e:Es) (a0:ycg) (a1:yca) (a2:ycx):SE:=⟨(E e),lookS [(ycX,yf8 a0),(ybY,yg6 a1),(ycQ,yh8 a2)],lookI [],yDx a0 a1 a2⟩
theorem yBQ (e:Es) (he:EG e):SEOk (yuX e ybp ybF ybM):=yao ⟨(yhD e he),(ylt e he),(ym0 e he),trivial⟩ trivial he.ok
theorem yDy (e:Es) (a0 a1 a2 p0 p1 p2 p3 p4 K):WP (yuX e a0 a1 a2) 6 yFl [(.agg [(.int .i64 p0),(.data p1),(.data p2)]),(.agg [(.int .i64 p3),(.int .i64 p4)])] K=ypz a0 a1 a2 p0 p1 p2 p3 p4 (fun r0=>K (.bool r0)):=by kernel_rfl
theorem ypA (e:Es) (he:EG e):OkF (E e) yuW yeH:=by
 intro as K h
 unfold yuW yiz at h
 split at h
 · exact WP_ok (yBQ e he) (yag (by kernel_rfl)) (by kernel_rfl) (by kernel_rfl) (fun _=>yaa (by kernel_rfl) _) (he.num _ (by kernel_rfl)) ((yDy ..).mpr h)
 · exact h.elim
abbrev yo0:Type:=Int→Ls→Ls→Int→Int→Int→Int→(Int→Int→Int→Prop)→Prop
def ybu (a0:yaB) (a1:yc2) (a2:ycg) (a3:yca) (a4:ycx) (a5:ydG) (a6:ycw) (a7:yaJ) (a8:ybq) (x0:Int→Int→Int→Int→Int→Int→Prop) (x1:Int→Int→Int→Int→Int→Int→Ls→Ls→Int→Int→Ls→Int→Int→Bool→Prop):Nat→Int→Int→Int→Int→Int→Int→Ls→Ls→Int→Int→Ls→Int→Int→Prop
 | 0,_,_,_,_,_,_,_,_,_,_,_,_,_=>False
 | n+1,i0,i1,i2,i3,i4,i5,l6,l7,i8,i9,l10,i11,i12 =>
 (cbr (decide (i12<i11))
 (asr (decide ((0:Int)≤i12))
 (asr (decide (i12<(((List.length l10):Nat):Int)))
 (asr (conf (.one (.i .i64)) (List.getD l10 (i12.toNat) .nils))
 (asr (decide ((0:Int)≤(IntKind.i64.wrap (i12+(1:Int)))))
 (asr (decide ((IntKind.i64.wrap (i12+(1:Int)))<(((List.length l6):Nat):Int)))
 (asr (conf (.one (.i .i64)) (List.getD l6 ((IntKind.i64.wrap (i12+(1:Int))).toNat) .nils))
 (a3 (intOfV (List.getD l6 ((IntKind.i64.wrap (i12+(1:Int))).toNat) .nils)) (fun a b =>
 (a4 i8 i9 a b (fun s =>
 (cbr (!s)
 (ybu a0 a1 a2 a3 a4 a5 a6 a7 a8 x0 x1 n i0 i1 i2 i3 i4 i5 l6 l7 i8 i9 l10 i11 (IntKind.i64.wrap (i12+(1:Int))))
 (a3 (0:Int) (fun j k =>
 (cbr (decide ((intOfV (List.getD l10 (i12.toNat) .nils))>(0:Int)))
 (a5 a b i8 i9 (fun t u l =>
 (cbr (l !=(0:Int))
 (x0 i0 i1 i2 i3 i4 l)
 (a3 (intOfV (List.getD l10 (i12.toNat) .nils)) (fun v w =>
 (a6 t u v w (fun m o p =>
 (cbr (p !=(0:Int))
 (x0 i0 i1 i2 i3 i4 p)
 (cbr ((intOfV (List.getD l10 (i12.toNat) .nils)) ==(0:Int))
 (ybu a0 a1 a2 a3 a4 a5 a6 a7 a8 x0 x1 n i0 i1 i2 i3 i4 i5 l6 l7 a b l10 i11 (IntKind.i64.wrap (i12+(1:Int))))
 (a4 m o i0 i1 (fun x =>
 (cbr x
 (a5 i0 i1 m o (fun e f c =>
 (cbr (c !=(0:Int))
 (cbr (c !=(0:Int))
 (x0 e f i2 i3 c (0:Int))
 (ybu a0 a1 a2 a3 a4 a5 a6 a7 a8 x0 x1 n e f i2 i3 c i5 l6 l7 a b l10 i11 (IntKind.i64.wrap (i12+(1:Int)))))
 (cbr (c !=(0:Int))
 (x0 e f i2 i3 (6:Int) (0:Int))
 (ybu a0 a1 a2 a3 a4 a5 a6 a7 a8 x0 x1 n e f i2 i3 (6:Int) i5 l6 l7 a b l10 i11 (IntKind.i64.wrap (i12+(1:Int))))))))
 (a3 (intOfV (List.getD l10 (i12.toNat) .nils)) (fun y z =>
 (a7 i0 i1 y z (fun A B q =>
 (cbr (q ==(0:Int))
 (a8 i8 i9 A B (fun C D E =>
 (x0 i0 i1 C D E (0:Int))))
 (x0 i0 i1 i2 i3 q (0:Int)))))))))))))))))))
 (cbr ((intOfV (List.getD l10 (i12.toNat) .nils)) ==(0:Int))
 (ybu a0 a1 a2 a3 a4 a5 a6 a7 a8 x0 x1 n i0 i1 i2 i3 i4 i5 l6 l7 a b l10 i11 (IntKind.i64.wrap (i12+(1:Int))))
 (a4 j k i0 i1 (fun F =>
 (cbr F
 (a5 i0 i1 j k (fun g h d =>
 (cbr (d !=(0:Int))
 (cbr (d !=(0:Int))
 (x0 g h i2 i3 d (0:Int))
 (ybu a0 a1 a2 a3 a4 a5 a6 a7 a8 x0 x1 n g h i2 i3 d i5 l6 l7 a b l10 i11 (IntKind.i64.wrap (i12+(1:Int)))))
 (cbr (d !=(0:Int))
 (x0 g h i2 i3 (6:Int) (0:Int))
 (ybu a0 a1 a2 a3 a4 a5 a6 a7 a8 x0 x1 n g h i2 i3 (6:Int) i5 l6 l7 a b l10 i11 (IntKind.i64.wrap (i12+(1:Int))))))))
 (a3 (intOfV (List.getD l10 (i12.toNat) .nils)) (fun G H =>
 (a7 i0 i1 G H (fun I J r =>
 (cbr (r ==(0:Int))
 (a8 i8 i9 I J (fun K L M =>
 (x0 i0 i1 K L M (0:Int))))
 (x0 i0 i1 i2 i3 r (0:Int)))))))))))))))))))))))))
 (x1 i0 i1 i2 i3 i4 i5 l6 l7 i8 i9 l10 i11 i12 false))
def yqM (a0:yaB) (a1:yc2) (a2:ycg) (a3:yca) (a4:ycx) (a5:ydG) (a6:ycw) (a7:yaJ) (a8:ybq) (p0:Int) (p1 p2:Ls) (p3 p4 p5 p6:Int) (K:Int→Int→Int→Prop):Prop :=
 (a0 p0 p1 p2 (fun b =>
 (cbr (b !=(0:Int))
 (K (0:Int) (0:Int) b)
 (a1 p0 p1 p2 p3 p4 (fun g =>
 (cbr (!g)
 (K (0:Int) (0:Int) (2:Int))
 (a2 p5 p6 (fun h =>
 (cbr (h !=(0:Int))
 (K (0:Int) (0:Int) (2:Int))
 (cbr (decide (p5<(0:Int)))
 (K (0:Int) (0:Int) (2:Int))
 (cbr (p5 ==(0:Int))
 (K p3 p4 (0:Int))
 (∃ n:Nat,ybu a0 a1 a2 a3 a4 a5 a6 a7 a8
 (fun _ _ c d e a=>(cbr (a !=(0:Int))
 (cbr (a !=(0:Int))
 (K (0:Int) (0:Int) a)
 (K c d (0:Int)))
 (cbr (e !=(0:Int))
 (K (0:Int) (0:Int) e)
 (K c d (0:Int)))))
 (fun _ _ i j f _ _ _ _ _ _ _ _ _=>(cbr (f !=(0:Int))
 (K (0:Int) (0:Int) f)
 (K i j (0:Int))))
 n p5 p6 (0:Int) (0:Int) (6:Int) p0 p1 p2 p3 p4 p2 (((List.length p2):Nat):Int) (0:Int)))))))))))))
def yhH (p0:Int) (p1 p2:Ls) (p3 p4 p5 p6:Int) (K:Int→Int→Int→Prop):Prop:=yqM yap ybR ybp ybF ybM ybE ybr yav yaD p0 p1 p2 p3 p4 p5 p6 K
def yqN (w:yo0) (as:Ls) (K:PV→Prop):Prop :=
 match as with
 | [(.agg [(.int .i64 p0),(.data p1),(.data p2)]),(.agg [(.int .i64 p3),(.int .i64 p4)]),(.agg [(.int .i64 p5),(.int .i64 p6)])]=>w p0 p1 p2 p3 p4 p5 p6 (fun r0 r1 r2=>K (.tup [(.agg [(.int .i64 r0),(.int .i64 r1)]),(.int .i64 r2)]))
 | _=>False
def yw9 (as:Ls) (K:PV→Prop):Prop:=yqN yhH as K
def yg7 (F:Frm) (H:Hp) (A0:Int→Int→Int→Int→Int→Int→Ls→Ls→Int→Int→Ls→Int→Int→Prop):Prop :=
 match F,H with
 | [(2,.v (.fn (.func q0) [] [(.ptr 0 1 0 0),(.ptr 2 1 0 0),(.ptr 1 1 0 0)])),(3,.box (.agg [(.int .i64 i5),(.data l6),(.data l7)])),(4,.box (.agg [(.int .i64 i8),(.int .i64 i9)])),(14,.v (.data l10)),(15,.v (.int .i64 i11)),(16,.v (.int .i64 i12))],[⟨false,true,2,[(.agg [(.int .i64 i0),(.int .i64 i1)])]⟩,⟨false,true,2,[(.agg [(.int .i64 i2),(.int .i64 i3)])]⟩,⟨false,true,1,[(.int .i64 i4)]⟩]=>asr (Nat.beq q0 yfG) (A0 i0 i1 i2 i3 i4 i5 l6 l7 i8 i9 l10 i11 i12)
 | _,_=>False
def ymp (Q:Ex→Frm→Hp→Prop):Int→Int→Int→Int→Int→Int→Prop:=(fun i0 i1 i2 i3 i4 i5=>Q .ret [(6,.v (.int .i64 i5))] [⟨false,true,2,([(.agg [(.int .i64 i0),(.int .i64 i1)])]:Ls)⟩,⟨false,true,2,([(.agg [(.int .i64 i2),(.int .i64 i3)])]:Ls)⟩,⟨false,true,1,([(.int .i64 i4)]:Ls)⟩])
def ymq (Q:Ex→Frm→Hp→Prop):Int→Int→Int→Int→Int→Int→Ls→Ls→Int→Int→Ls→Int→Int→Bool→Prop:=(fun i0 i1 i2 i3 i4 i5 l6 l7 i8 i9 l10 i11 i12 b13=>Q (.exit 0) [(2,.v (.fn (.func yfG) [] [(.ptr 0 1 0 0),(.ptr 2 1 0 0),(.ptr 1 1 0 0)])),(3,.box (.agg [(.int .i64 i5),(.data l6),(.data l7)])),(4,.box (.agg [(.int .i64 i8),(.int .i64 i9)])),(14,.v (.data l10)),(15,.v (.int .i64 i11)),(16,.v (.int .i64 i12)),(17,.v (.bool b13))] [⟨false,true,2,([(.agg [(.int .i64 i0),(.int .i64 i1)])]:Ls)⟩,⟨false,true,2,([(.agg [(.int .i64 i2),(.int .i64 i3)])]:Ls)⟩,⟨false,true,1,([(.int .i64 i4)]:Ls)⟩])
def ylu (a0:yaB) (a1:yc2) (a2:ycg) (a3:yca) (a4:ycx) (a5:ydG) (a6:ycw) (a7:yaJ) (a8:ybq) (Q:Ex→Frm→Hp→Prop) (n:Nat) (F:Frm) (H:Hp):Prop:=yg7 F H (fun i0 i1 i2 i3 i4 i5 l6 l7 i8 i9 l10 i11 i12=>ybu a0 a1 a2 a3 a4 a5 a6 a7 a8 (ymp Q) (ymq Q) n i0 i1 i2 i3 i4 i5 l6 l7 i8 i9 l10 i11 i12)
def yjT (a0:yaB) (a1:yc2) (a2:ycg) (a3:yca) (a4:ycx) (a5:ydG) (a6:ycw) (a7:yaJ) (a8:ybq):LP:=fun id F H Q =>
 bif Nat.beq id 41613500 then yg7 F H (fun i0 i1 i2 i3 i4 i5 l6 l7 i8 i9 l10 i11 i12=>∃ n:Nat,ybu a0 a1 a2 a3 a4 a5 a6 a7 a8 (ymp Q) (ymq Q) n i0 i1 i2 i3 i4 i5 l6 l7 i8 i9 l10 i11 i12) else
 False
def yxa (e:Es) (a0:yaB) (a1:yc2) (a2:ycg) (a3:yca) (a4:ycx) (a5:ydG) (a6:ycw) (a7:yaJ) (a8:ybq):SE:=⟨(E e),lookS [(ybX,yd7 a0),(yeH,yiz a1),(ycX,yf8 a2),(ybY,yg6 a3),(ycQ,yh8 a4),(yfs,yjP a5),(yed,yh5 a6),(yee,yfA a7),(yda,yfz a8)],lookI [(yfG,yuJ)],yjT a0 a1 a2 a3 a4 a5 a6 a7 a8⟩
def yxb (e:Es) (a0:yaB) (a1:yc2) (a2:ycg) (a3:yca) (a4:ycx) (a5:ydG) (a6:ycw) (a7:yaJ) (a8:ybq):SE:=⟨(E e),lookS [(ybX,yd7 a0),(yeH,yiz a1),(ycX,yf8 a2),(ybY,yg6 a3),(ycQ,yh8 a4),(yfs,yjP a5),(yed,yh5 a6),(yee,yfA a7),(yda,yfz a8)],lookI [(ysh,yHc),(yfG,yuJ)],yjT a0 a1 a2 a3 a4 a5 a6 a7 a8⟩
theorem yDz (e:Es) (he:EG e):SEOk (yxa e yap ybR ybp ybF ybM ybE ybr yav yaD):=yao ⟨(yeO e he),(ypA e he),(yhD e he),(ylt e he),(ym0 e he),(ymZ e he),(yjQ e he),(ygF e he),(ygE e he),trivial⟩ ⟨⟨by kernel_rfl,by kernel_rfl,rfl,fun as=>yaa (by kernel_rfl) as,he.num _ (by kernel_rfl),(yag (by kernel_rfl))⟩,trivial⟩ he.ok
theorem yvL (e:Es) (a0 a1 a2 a3 a4 a5 a6 a7 a8 Q n i0 i1 i2 i3 i4 i5 l6 l7 i8 i9 l10 i11 i12):WC (E e) (callW (yxa e a0 a1 a2 a3 a4 a5 a6 a7 a8) 5) (yjT a0 a1 a2 a3 a4 a5 a6 a7 a8) ynS [(2,.v (.fn (.func yfG) [] [(.ptr 0 1 0 0),(.ptr 2 1 0 0),(.ptr 1 1 0 0)])),(3,.box (.agg [(.int .i64 i5),(.data l6),(.data l7)])),(4,.box (.agg [(.int .i64 i8),(.int .i64 i9)])),(14,.v (.data l10)),(15,.v (.int .i64 i11)),(16,.v (.int .i64 i12))] [⟨false,true,2,([(.agg [(.int .i64 i0),(.int .i64 i1)])]:Ls)⟩,⟨false,true,2,([(.agg [(.int .i64 i2),(.int .i64 i3)])]:Ls)⟩,⟨false,true,1,([(.int .i64 i4)]:Ls)⟩] (fun x F' H'=>match x with | .norm=>ylu a0 a1 a2 a3 a4 a5 a6 a7 a8 Q n F' H' | .exit i=>Q (.exit i) F' H' | .ret=>Q .ret F' H')=ybu a0 a1 a2 a3 a4 a5 a6 a7 a8 (ymp Q) (ymq Q) (n+1) i0 i1 i2 i3 i4 i5 l6 l7 i8 i9 l10 i11 i12:=by kernel_rfl
theorem yAg (e:Es) (_:EG e):LpOk (E e) (yjT yap ybR ybp ybF ybM ybE ybr yav yaD) ynS:=(yag (by kernel_rfl))
theorem yyS (e:Es) (he:EG e):∀ F H Q,yjT yap ybR ybp ybF ybM ybE ybr yav yaD 41613500 F H Q→LoopT (E e) ynS F H Q:=by
 intro F H Q h
 have go:=LoopT.intro (yaF (yDz e he) 5) (yAg e he) (ylu yap ybR ybp ybF ybM ybE ybr yav yaD Q) (by
   intro F H h
   unfold ylu yg7 at h
   split at h
   · obtain ⟨hg,k⟩:=yaf.1 h
     clear h
     have h:=k
     clear k
     try simp only [Bool.and_eq_true,decide_eq_true_eq] at hg
     have g0:=hg;have g0:=Nat.eq_of_beq_eq_true g0;subst g0;exact h
   · exact h) (by
   intro n F H h
   unfold ylu yg7 at h
   split at h
   · obtain ⟨hg,k⟩:=yaf.1 h
     clear h
     have h:=k
     clear k
     try simp only [Bool.and_eq_true,decide_eq_true_eq] at hg
     have g0:=hg;have g0:=Nat.eq_of_beq_eq_true g0;subst g0;exact (yvL ..).mpr h
   · exact h.elim)
 have h:yg7 F H _:=h
 unfold yg7 at h
 split at h
 · obtain ⟨hg,n,h⟩:=yaf.1 h;exact go n _ _ (yaf.2 ⟨hg,h⟩)
 · exact h.elim
theorem yDA (e:Es) (he:EG e):SEOk (yxb e yap ybR ybp ybF ybM ybE ybr yav yaD):=yao ⟨(yeO e he),(ypA e he),(yhD e he),(ylt e he),(ym0 e he),(ymZ e he),(yjQ e he),(ygF e he),(ygE e he),trivial⟩ ⟨⟨by kernel_rfl,by kernel_rfl,rfl,fun as=>yaa (by kernel_rfl) as,he.num _ (by kernel_rfl),(ybe (l:=[(41613500,ynS)]) ⟨yyS e he,trivial⟩ (by kernel_rfl))⟩,⟨by kernel_rfl,by kernel_rfl,rfl,fun as=>yaa (by kernel_rfl) as,he.num _ (by kernel_rfl),(yag (by kernel_rfl))⟩,trivial⟩ he.ok
theorem yFE (e:Es) (a0 a1 a2 a3 a4 a5 a6 a7 a8 p0 p1 p2 p3 p4 p5 p6 K):WP (yxb e a0 a1 a2 a3 a4 a5 a6 a7 a8) 6 yHd [(.agg [(.int .i64 p0),(.data p1),(.data p2)]),(.agg [(.int .i64 p3),(.int .i64 p4)]),(.agg [(.int .i64 p5),(.int .i64 p6)])] K=yqM a0 a1 a2 a3 a4 a5 a6 a7 a8 p0 p1 p2 p3 p4 p5 p6 (fun r0 r1 r2=>K (.tup [(.agg [(.int .i64 r0),(.int .i64 r1)]),(.int .i64 r2)])):=by kernel_rfl
theorem yxc (e:Es) (he:EG e):OkF (E e) yw9 ylQ:=by
 intro as K h
 unfold yw9 yqN at h
 split at h
 · exact WP_ok (yDA e he) (yag (by kernel_rfl)) (by kernel_rfl) (by kernel_rfl) (fun _=>yaa (by kernel_rfl) _) (he.num _ (by kernel_rfl)) ((yFE ..).mpr h)
 · exact h.elim
abbrev yd9:Type:=Int→Ls→Ls→Int→Int→Int→Int→(Int→Int→Int→Prop)→Prop
def ya1 (a0:yaB) (a1:yc2) (a2:ycx) (a3:yca) (a4:ydG) (a5:ycw) (a6:ybq) (x0:Int→Int→Int→Prop) (x1:Int→Ls→Ls→Int→Int→Int→Int→Int→Int→Int→Int→Ls→Int→Int→Bool→Prop):Nat→Int→Ls→Ls→Int→Int→Int→Int→Int→Int→Int→Int→Ls→Int→Int→Prop
 | 0,_,_,_,_,_,_,_,_,_,_,_,_,_,_=>False
 | n+1,i0,l1,l2,i3,i4,i5,i6,i7,i8,i9,i10,l11,i12,i13 =>
 (cbr (decide (i13<i12))
 (asr (decide ((0:Int)≤i13))
 (asr (decide (i13<(((List.length l11):Nat):Int)))
 (asr (conf (.one (.i .i64)) (List.getD l11 (i13.toNat) .nils))
 (asr (decide ((0:Int)≤(IntKind.i64.wrap (i13+(1:Int)))))
 (asr (decide ((IntKind.i64.wrap (i13+(1:Int)))<(((List.length l1):Nat):Int)))
 (asr (conf (.one (.i .i64)) (List.getD l1 ((IntKind.i64.wrap (i13+(1:Int))).toNat) .nils))
 (a3 (intOfV (List.getD l1 ((IntKind.i64.wrap (i13+(1:Int))).toNat) .nils)) (fun a b =>
 (a2 i3 i4 a b (fun j =>
 (cbr j
 (cbr ((intOfV (List.getD l11 (i13.toNat) .nils)) ==(0:Int))
 (a2 i9 i10 i3 i4 (fun k =>
 (cbr k
 (ya1 a0 a1 a2 a3 a4 a5 a6 x0 x1 n i0 l1 l2 i3 i4 i5 i6 i7 i8 i3 i4 l11 i12 (IntKind.i64.wrap (i13+(1:Int))))
 (ya1 a0 a1 a2 a3 a4 a5 a6 x0 x1 n i0 l1 l2 i3 i4 i5 i6 i7 i8 i9 i10 l11 i12 (IntKind.i64.wrap (i13+(1:Int)))))))
 (a2 i9 i10 i3 i4 (fun l =>
 (cbr (!l)
 (a2 i9 i10 i3 i4 (fun m =>
 (cbr m
 (ya1 a0 a1 a2 a3 a4 a5 a6 x0 x1 n i0 l1 l2 i3 i4 i5 i6 i7 i8 i3 i4 l11 i12 (IntKind.i64.wrap (i13+(1:Int))))
 (ya1 a0 a1 a2 a3 a4 a5 a6 x0 x1 n i0 l1 l2 i3 i4 i5 i6 i7 i8 i9 i10 l11 i12 (IntKind.i64.wrap (i13+(1:Int)))))))
 (a4 i3 i4 i9 i10 (fun o p c =>
 (cbr (c !=(0:Int))
 (x0 (0:Int) (0:Int) c)
 (a3 (intOfV (List.getD l11 (i13.toNat) .nils)) (fun q r =>
 (a5 o p q r (fun s t d =>
 (cbr (d !=(0:Int))
 (x0 (0:Int) (0:Int) d)
 (a6 i7 i8 s t (fun u v e =>
 (cbr (e !=(0:Int))
 (x0 (0:Int) (0:Int) e)
 (ya1 a0 a1 a2 a3 a4 a5 a6 x0 x1 n i0 l1 l2 i3 i4 i5 i6 u v i3 i4 l11 i12 (IntKind.i64.wrap (i13+(1:Int)))))))))))))))))))
 (cbr ((intOfV (List.getD l11 (i13.toNat) .nils)) ==(0:Int))
 (a2 i9 i10 a b (fun w =>
 (cbr w
 (ya1 a0 a1 a2 a3 a4 a5 a6 x0 x1 n i0 l1 l2 i3 i4 i5 i6 i7 i8 a b l11 i12 (IntKind.i64.wrap (i13+(1:Int))))
 (ya1 a0 a1 a2 a3 a4 a5 a6 x0 x1 n i0 l1 l2 i3 i4 i5 i6 i7 i8 i9 i10 l11 i12 (IntKind.i64.wrap (i13+(1:Int)))))))
 (a2 i9 i10 a b (fun x =>
 (cbr (!x)
 (a2 i9 i10 a b (fun y =>
 (cbr y
 (ya1 a0 a1 a2 a3 a4 a5 a6 x0 x1 n i0 l1 l2 i3 i4 i5 i6 i7 i8 a b l11 i12 (IntKind.i64.wrap (i13+(1:Int))))
 (ya1 a0 a1 a2 a3 a4 a5 a6 x0 x1 n i0 l1 l2 i3 i4 i5 i6 i7 i8 i9 i10 l11 i12 (IntKind.i64.wrap (i13+(1:Int)))))))
 (a4 a b i9 i10 (fun z A f =>
 (cbr (f !=(0:Int))
 (x0 (0:Int) (0:Int) f)
 (a3 (intOfV (List.getD l11 (i13.toNat) .nils)) (fun B C =>
 (a5 z A B C (fun D E g =>
 (cbr (g !=(0:Int))
 (x0 (0:Int) (0:Int) g)
 (a6 i7 i8 D E (fun F G h =>
 (cbr (h !=(0:Int))
 (x0 (0:Int) (0:Int) h)
 (ya1 a0 a1 a2 a3 a4 a5 a6 x0 x1 n i0 l1 l2 i3 i4 i5 i6 F G a b l11 i12 (IntKind.i64.wrap (i13+(1:Int))))))))))))))))))))))))))))))
 (x1 i0 l1 l2 i3 i4 i5 i6 i7 i8 i9 i10 l11 i12 i13 false))
def ypB (a0:yaB) (a1:yc2) (a2:ycx) (a3:yca) (a4:ydG) (a5:ycw) (a6:ybq) (p0:Int) (p1 p2:Ls) (p3 p4 p5 p6:Int) (K:Int→Int→Int→Prop):Prop :=
 (a0 p0 p1 p2 (fun a =>
 (cbr (a !=(0:Int))
 (K (0:Int) (0:Int) a)
 (a1 p0 p1 p2 p3 p4 (fun b =>
 (cbr (!b)
 (K (0:Int) (0:Int) (2:Int))
 (a1 p0 p1 p2 p5 p6 (fun c =>
 (cbr (!c)
 (K (0:Int) (0:Int) (2:Int))
 (a2 p5 p6 p3 p4 (fun d =>
 (cbr d
 (K (0:Int) (0:Int) (2:Int))
 (a3 (0:Int) (fun e f =>
 (∃ n:Nat,ya1 a0 a1 a2 a3 a4 a5 a6
 (fun g h i=>(K g h i))
 (fun _ _ _ _ _ _ _ j k _ _ _ _ _ _=>(K j k (0:Int)))
 n p0 p1 p2 p5 p6 (0:Int) (0:Int) e f p3 p4 p2 (((List.length p2):Nat):Int) (0:Int))))))))))))))))
def ybn (p0:Int) (p1 p2:Ls) (p3 p4 p5 p6:Int) (K:Int→Int→Int→Prop):Prop:=ypB yap ybR ybM ybF ybE ybr yaD p0 p1 p2 p3 p4 p5 p6 K
def yiA (w:yd9) (as:Ls) (K:PV→Prop):Prop :=
 match as with
 | [(.agg [(.int .i64 p0),(.data p1),(.data p2)]),(.agg [(.int .i64 p3),(.int .i64 p4)]),(.agg [(.int .i64 p5),(.int .i64 p6)])]=>w p0 p1 p2 p3 p4 p5 p6 (fun r0 r1 r2=>K (.tup [(.agg [(.int .i64 r0),(.int .i64 r1)]),(.int .i64 r2)]))
 | _=>False
def yuY (as:Ls) (K:PV→Prop):Prop:=yiA ybn as K
def ygc (F:Frm) (H:Hp) (A0:Int→Ls→Ls→Int→Int→Int→Int→Int→Int→Int→Int→Ls→Int→Int→Prop):Prop :=
 match F,H with
 | [(3,.box (.agg [(.int .i64 i0),(.data l1),(.data l2)])),(5,.box (.agg [(.int .i64 i3),(.int .i64 i4)])),(6,.box (.agg [(.int .i64 i5),(.int .i64 i6)])),(9,.box (.agg [(.int .i64 i7),(.int .i64 i8)])),(10,.box (.agg [(.int .i64 i9),(.int .i64 i10)])),(42,.v (.data l11)),(43,.v (.int .i64 i12)),(44,.v (.int .i64 i13))],[]=>(A0 i0 l1 l2 i3 i4 i5 i6 i7 i8 i9 i10 l11 i12 i13)
 | _,_=>False
def yk2 (Q:Ex→Frm→Hp→Prop):Int→Int→Int→Prop:=(fun i0 i1 i2=>Q .ret [(6,.box (.agg [(.int .i64 i0),(.int .i64 i1)])),(7,.v (.int .i64 i2))] [])
def yk3 (Q:Ex→Frm→Hp→Prop):Int→Ls→Ls→Int→Int→Int→Int→Int→Int→Int→Int→Ls→Int→Int→Bool→Prop:=(fun i0 l1 l2 i3 i4 i5 i6 i7 i8 i9 i10 l11 i12 i13 b14=>Q (.exit 0) [(3,.box (.agg [(.int .i64 i0),(.data l1),(.data l2)])),(5,.box (.agg [(.int .i64 i3),(.int .i64 i4)])),(6,.box (.agg [(.int .i64 i5),(.int .i64 i6)])),(9,.box (.agg [(.int .i64 i7),(.int .i64 i8)])),(10,.box (.agg [(.int .i64 i9),(.int .i64 i10)])),(42,.v (.data l11)),(43,.v (.int .i64 i12)),(44,.v (.int .i64 i13)),(45,.v (.bool b14))] [])
def yjU (a0:yaB) (a1:yc2) (a2:ycx) (a3:yca) (a4:ydG) (a5:ycw) (a6:ybq) (Q:Ex→Frm→Hp→Prop) (n:Nat) (F:Frm) (H:Hp):Prop:=ygc F H (fun i0 l1 l2 i3 i4 i5 i6 i7 i8 i9 i10 l11 i12 i13=>ya1 a0 a1 a2 a3 a4 a5 a6 (yk2 Q) (yk3 Q) n i0 l1 l2 i3 i4 i5 i6 i7 i8 i9 i10 l11 i12 i13)
def ylv (a0:yaB) (a1:yc2) (a2:ycx) (a3:yca) (a4:ydG) (a5:ycw) (a6:ybq):LP:=fun id F H Q =>
 bif Nat.beq id 85339800 then ygc F H (fun i0 l1 l2 i3 i4 i5 i6 i7 i8 i9 i10 l11 i12 i13=>∃ n:Nat,ya1 a0 a1 a2 a3 a4 a5 a6 (yk2 Q) (yk3 Q) n i0 l1 l2 i3 i4 i5 i6 i7 i8 i9 i10 l11 i12 i13) else
 False
def ypC (e:Es) (a0:yaB) (a1:yc2) (a2:ycx) (a3:yca) (a4:ydG) (a5:ycw) (a6:ybq):SE:=⟨(E e),lookS [(ybX,yd7 a0),(yeH,yiz a1),(ycQ,yh8 a2),(ybY,yg6 a3),(yfs,yjP a4),(yed,yh5 a5),(yda,yfz a6)],lookI [],ylv a0 a1 a2 a3 a4 a5 a6⟩
theorem ysB (e:Es) (he:EG e):SEOk (ypC e yap ybR ybM ybF ybE ybr yaD):=yao ⟨(yeO e he),(ypA e he),(ym0 e he),(ylt e he),(ymZ e he),(yjQ e he),(ygE e he),trivial⟩ trivial he.ok
theorem yuc (e:Es) (a0 a1 a2 a3 a4 a5 a6 Q n i0 l1 l2 i3 i4 i5 i6 i7 i8 i9 i10 l11 i12 i13):WC (E e) (callW (ypC e a0 a1 a2 a3 a4 a5 a6) 5) (ylv a0 a1 a2 a3 a4 a5 a6) ynT [(3,.box (.agg [(.int .i64 i0),(.data l1),(.data l2)])),(5,.box (.agg [(.int .i64 i3),(.int .i64 i4)])),(6,.box (.agg [(.int .i64 i5),(.int .i64 i6)])),(9,.box (.agg [(.int .i64 i7),(.int .i64 i8)])),(10,.box (.agg [(.int .i64 i9),(.int .i64 i10)])),(42,.v (.data l11)),(43,.v (.int .i64 i12)),(44,.v (.int .i64 i13))] [] (fun x F' H'=>match x with | .norm=>yjU a0 a1 a2 a3 a4 a5 a6 Q n F' H' | .exit i=>Q (.exit i) F' H' | .ret=>Q .ret F' H')=ya1 a0 a1 a2 a3 a4 a5 a6 (yk2 Q) (yk3 Q) (n+1) i0 l1 l2 i3 i4 i5 i6 i7 i8 i9 i10 l11 i12 i13:=by kernel_rfl
theorem yyT (e:Es) (_:EG e):LpOk (E e) (ylv yap ybR ybM ybF ybE ybr yaD) ynT:=(yag (by kernel_rfl))
theorem yxd (e:Es) (he:EG e):∀ F H Q,ylv yap ybR ybM ybF ybE ybr yaD 85339800 F H Q→LoopT (E e) ynT F H Q:=by
 intro F H Q h
 have go:=LoopT.intro (yaF (ysB e he) 5) (yyT e he) (yjU yap ybR ybM ybF ybE ybr yaD Q) (by
   intro F H h
   unfold yjU ygc at h
   split at h
   · exact h
   · exact h) (by
   intro n F H h
   unfold yjU ygc at h
   split at h
   · exact (yuc ..).mpr h
   · exact h.elim)
 have h:ygc F H _:=h
 unfold ygc at h
 split at h
 · obtain ⟨n,h⟩:=h;exact go n _ _ h
 · exact h.elim
theorem yDB (e:Es) (a0 a1 a2 a3 a4 a5 a6 p0 p1 p2 p3 p4 p5 p6 K):WP (ypC e a0 a1 a2 a3 a4 a5 a6) 6 yFm [(.agg [(.int .i64 p0),(.data p1),(.data p2)]),(.agg [(.int .i64 p3),(.int .i64 p4)]),(.agg [(.int .i64 p5),(.int .i64 p6)])] K=ypB a0 a1 a2 a3 a4 a5 a6 p0 p1 p2 p3 p4 p5 p6 (fun r0 r1 r2=>K (.tup [(.agg [(.int .i64 r0),(.int .i64 r1)]),(.int .i64 r2)])):=by kernel_rfl
theorem ylw (e:Es) (he:EG e):OkF (E e) yuY yft:=by
 intro as K h
 unfold yuY yiA at h
 split at h
 · exact WP_ok (ysB e he) (ybe (l:=[(85339800,ynT)]) ⟨yxd e he,trivial⟩ (by kernel_rfl)) (by kernel_rfl) (by kernel_rfl) (fun _=>yaa (by kernel_rfl) _) (he.num _ (by kernel_rfl)) ((yDB ..).mpr h)
 · exact h.elim
abbrev ybd:Type:=Ls→Ls→(Bool→Prop)→Prop
def yaC (x0:Bool→Prop) (x1:Ls→Ls→Int→Int→Bool→Prop):Nat→Ls→Ls→Int→Int→Prop
 | 0,_,_,_,_=>False
 | n+1,l0,l1,i2,i3 =>
 (cbr (decide (i3<i2))
 (asr (decide ((0:Int)≤i3))
 (asr (decide (i3<(((List.length l0):Nat):Int)))
 (asr (conf (.agg [.i .i64,.i .u8,.i .i64,.i .i64,.i .i64,.i .i64,.i .i64,.i .i64]) (List.getD l0 (i3.toNat) .nils))
 (asr (decide ((0:Int)≤i3))
 (asr (decide (i3<(((List.length l1):Nat):Int)))
 (asr (conf (.agg [.i .i64,.i .u8,.i .i64,.i .i64,.i .i64,.i .i64,.i .i64,.i .i64]) (List.getD l1 (i3.toNat) .nils))
 (cbr (!(((intOfV (cellAt (List.getD l0 (i3.toNat) .nils) 0)) ==(intOfV (cellAt (List.getD l1 (i3.toNat) .nils) 0)))&&(((intOfV (cellAt (List.getD l0 (i3.toNat) .nils) 1)) ==(intOfV (cellAt (List.getD l1 (i3.toNat) .nils) 1)))&&(((intOfV (cellAt (List.getD l0 (i3.toNat) .nils) 2)) ==(intOfV (cellAt (List.getD l1 (i3.toNat) .nils) 2)))&&(((intOfV (cellAt (List.getD l0 (i3.toNat) .nils) 3)) ==(intOfV (cellAt (List.getD l1 (i3.toNat) .nils) 3)))&&(((intOfV (cellAt (List.getD l0 (i3.toNat) .nils) 4)) ==(intOfV (cellAt (List.getD l1 (i3.toNat) .nils) 4)))&&(((intOfV (cellAt (List.getD l0 (i3.toNat) .nils) 5)) ==(intOfV (cellAt (List.getD l1 (i3.toNat) .nils) 5)))&&(((intOfV (cellAt (List.getD l0 (i3.toNat) .nils) 6)) ==(intOfV (cellAt (List.getD l1 (i3.toNat) .nils) 6)))&&(((intOfV (cellAt (List.getD l0 (i3.toNat) .nils) 7)) ==(intOfV (cellAt (List.getD l1 (i3.toNat) .nils) 7)))&&true)))))))))
 (x0 false)
 (yaC x0 x1 n l0 l1 i2 (IntKind.i64.wrap (i3+(1:Int)))))))))))
 (x1 l0 l1 i2 i3 false))
def ydU (p0 p1:Ls) (K:Bool→Prop):Prop :=
 (cbr ((((List.length p0):Nat):Int) !=(((List.length p1):Nat):Int))
 (K false)
 (∃ n:Nat,yaC
 (fun a=>(K a))
 (fun _ _ _ _ _=>(K true))
 n p0 p1 (((List.length p0):Nat):Int) (0:Int)))
def yay (p0 p1:Ls) (K:Bool→Prop):Prop:=ydU p0 p1 K
def ydV (w:ybd) (as:Ls) (K:PV→Prop):Prop :=
 match as with
 | [(.data p0),(.data p1)]=>w p0 p1 (fun r0=>K (.bool r0))
 | _=>False
def ygd (as:Ls) (K:PV→Prop):Prop:=ydV yay as K
def ybl (F:Frm) (H:Hp) (A0:Ls→Ls→Int→Int→Prop):Prop :=
 match F,H with
 | [(0,.v (.data l0)),(1,.v (.data l1)),(12,.v (.int .i64 i2)),(13,.v (.int .i64 i3))],[]=>(A0 l0 l1 i2 i3)
 | _,_=>False
def ydk (Q:Ex→Frm→Hp→Prop):Bool→Prop:=(fun b0=>Q .ret [(4,.v (.bool b0))] [])
def ydl (Q:Ex→Frm→Hp→Prop):Ls→Ls→Int→Int→Bool→Prop:=(fun l0 l1 i2 i3 b4=>Q (.exit 0) [(0,.v (.data l0)),(1,.v (.data l1)),(12,.v (.int .i64 i2)),(13,.v (.int .i64 i3)),(14,.v (.bool b4))] [])
def yct (Q:Ex→Frm→Hp→Prop) (n:Nat) (F:Frm) (H:Hp):Prop:=ybl F H (fun l0 l1 i2 i3=>yaC (ydk Q) (ydl Q) n l0 l1 i2 i3)
def ycH:LP:=fun id F H Q =>
 bif Nat.beq id 32670000 then ybl F H (fun l0 l1 i2 i3=>∃ n:Nat,yaC (ydk Q) (ydl Q) n l0 l1 i2 i3) else
 False
def ydW (e:Es):SE:=⟨(E e),lookS [],lookI [],ycH⟩
theorem yfX (e:Es) (he:EG e):SEOk (ydW e):=yao trivial trivial he.ok
theorem yiq (e:Es) ( Q n l0 l1 i2 i3):WC (E e) (callW (ydW e) 5) (ycH) ynU [(0,.v (.data l0)),(1,.v (.data l1)),(12,.v (.int .i64 i2)),(13,.v (.int .i64 i3))] [] (fun x F' H'=>match x with | .norm=>yct Q n F' H' | .exit i=>Q (.exit i) F' H' | .ret=>Q .ret F' H')=yaC (ydk Q) (ydl Q) (n+1) l0 l1 i2 i3:=by kernel_rfl
theorem yjx (e:Es) (_:EG e):LpOk (E e) (ycH) ynU:=(yag (by kernel_rfl))
theorem yiU (e:Es) (he:EG e):∀ F H Q,ycH 32670000 F H Q→LoopT (E e) ynU F H Q:=by
 intro F H Q h
 have go:=LoopT.intro (yaF (yfX e he) 5) (yjx e he) (yct Q) (by
   intro F H h
   unfold yct ybl at h
   split at h
   · exact h
   · exact h) (by
   intro n F H h
   unfold yct ybl at h
   split at h
   · exact (yiq ..).mpr h
   · exact h.elim)
 have h:ybl F H _:=h
 unfold ybl at h
 split at h
 · obtain ⟨n,h⟩:=h;exact go n _ _ h
 · exact h.elim
theorem yk4 (e:Es) ( p0 p1 K):WP (ydW e) 6 ylU [(.data p0),(.data p1)] K=ydU p0 p1 (fun r0=>K (.bool r0)):=by kernel_rfl
theorem yge (e:Es) (he:EG e):OkF (E e) ygd ybV:=by
 intro as K h
 unfold ygd ydV at h
 split at h
 · exact WP_ok (yfX e he) (ybe (l:=[(32670000,ynU)]) ⟨yiU e he,trivial⟩ (by kernel_rfl)) (by kernel_rfl) (by kernel_rfl) (fun _=>yaa (by kernel_rfl) _) (he.num _ (by kernel_rfl)) ((yk4 ..).mpr h)
 · exact h.elim
abbrev yau:Type:=Ls→Ls→(Bool→Prop)→Prop
def yaH (x0:Ls→Ls→Int→Int→Bool→Prop) (x1:Bool→Prop):Nat→Ls→Ls→Int→Int→Prop
 | 0,_,_,_,_=>False
 | n+1,l0,l1,i2,i3 =>
 (cbr (decide (i3<i2))
 (asr (decide ((0:Int)≤i3))
 (asr (decide (i3<(((List.length l0):Nat):Int)))
 (lt (List.getD l0 (i3.toNat) .nils) (fun a =>
 (asr (conf (.agg [.i .i64,.i .i64]) a)
 (asr (decide ((0:Int)≤i3))
 (asr (decide (i3<(((List.length l1):Nat):Int)))
 (lt (List.getD l1 (i3.toNat) .nils) (fun b =>
 (asr (conf (.agg [.i .i64,.i .i64]) b)
 (cbr (!(((intOfV (cellAt a 0)) ==(intOfV (cellAt b 0)))&&(((intOfV (cellAt a 1)) ==(intOfV (cellAt b 1)))&&true)))
 (x1 false)
 (lt (IntKind.i64.wrap (i3+(1:Int))) (fun c =>
 (yaH x0 x1 n l0 l1 i2 c))))))))))))))
 (x0 l0 l1 i2 i3 false))
def ydX (p0 p1:Ls) (K:Bool→Prop):Prop :=
 (cbr ((((List.length p0):Nat):Int) !=(((List.length p1):Nat):Int))
 (K false)
 (∃ n:Nat,yaH
 (fun _ _ _ _ _=>(K true))
 (fun a=>(K a))
 n p0 p1 (((List.length p0):Nat):Int) (0:Int)))
def yam (p0 p1:Ls) (K:Bool→Prop):Prop:=ydX p0 p1 K
def ycI (w:yau) (as:Ls) (K:PV→Prop):Prop :=
 match as with
 | [(.data p0),(.data p1)]=>w p0 p1 (fun r0=>K (.bool r0))
 | _=>False
def ygf (as:Ls) (K:PV→Prop):Prop:=ycI yam as K
def ybm (F:Frm) (H:Hp) (A0:Ls→Ls→Int→Int→Prop):Prop :=
 match F,H with
 | [(0,.v (.data l0)),(1,.v (.data l1)),(12,.v (.int .i64 i2)),(13,.v (.int .i64 i3))],[]=>(A0 l0 l1 i2 i3)
 | _,_=>False
def ydm (Q:Ex→Frm→Hp→Prop):Ls→Ls→Int→Int→Bool→Prop:=(fun l0 l1 i2 i3 b4=>Q (.exit 0) [(0,.v (.data l0)),(1,.v (.data l1)),(12,.v (.int .i64 i2)),(13,.v (.int .i64 i3)),(14,.v (.bool b4))] [])
def ydn (Q:Ex→Frm→Hp→Prop):Bool→Prop:=(fun b0=>Q .ret [(4,.v (.bool b0))] [])
def ycu (Q:Ex→Frm→Hp→Prop) (n:Nat) (F:Frm) (H:Hp):Prop:=ybm F H (fun l0 l1 i2 i3=>yaH (ydm Q) (ydn Q) n l0 l1 i2 i3)
def ycJ:LP:=fun id F H Q =>
 bif Nat.beq id 11234800 then ybm F H (fun l0 l1 i2 i3=>∃ n:Nat,yaH (ydm Q) (ydn Q) n l0 l1 i2 i3) else
 False
def ydY (e:Es):SE:=⟨(E e),lookS [],lookI [],ycJ⟩
theorem yfY (e:Es) (he:EG e):SEOk (ydY e):=yao trivial trivial he.ok
theorem yir (e:Es) ( Q n l0 l1 i2 i3):WC (E e) (callW (ydY e) 5) (ycJ) yn6 [(0,.v (.data l0)),(1,.v (.data l1)),(12,.v (.int .i64 i2)),(13,.v (.int .i64 i3))] [] (fun x F' H'=>match x with | .norm=>ycu Q n F' H' | .exit i=>Q (.exit i) F' H' | .ret=>Q .ret F' H')=yaH (ydm Q) (ydn Q) (n+1) l0 l1 i2 i3:=by kernel_rfl
theorem yjy (e:Es) (_:EG e):LpOk (E e) (ycJ) yn6:=(yag (by kernel_rfl))
theorem yiV (e:Es) (he:EG e):∀ F H Q,ycJ 11234800 F H Q→LoopT (E e) yn6 F H Q:=by
 intro F H Q h
 have go:=LoopT.intro (yaF (yfY e he) 5) (yjy e he) (ycu Q) (by
   intro F H h
   unfold ycu ybm at h
   split at h
   · exact h
   · exact h) (by
   intro n F H h
   unfold ycu ybm at h
   split at h
   · exact (yir ..).mpr h
   · exact h.elim)
 have h:ybm F H _:=h
 unfold ybm at h
 split at h
 · obtain ⟨n,h⟩:=h;exact go n _ _ h
 · exact h.elim
theorem yk5 (e:Es) ( p0 p1 K):WP (ydY e) 6 ylV [(.data p0),(.data p1)] K=ydX p0 p1 (fun r0=>K (.bool r0)):=by kernel_rfl
theorem ydZ (e:Es) (he:EG e):OkF (E e) ygf yaI:=by
 intro as K h
 unfold ygf ycI at h
 split at h
 · exact WP_ok (yfY e he) (ybe (l:=[(11234800,yn6)]) ⟨yiV e he,trivial⟩ (by kernel_rfl)) (by kernel_rfl) (by kernel_rfl) (fun _=>yaa (by kernel_rfl) _) (he.num _ (by kernel_rfl)) ((yk5 ..).mpr h)
 · exact h.elim
end Go.Pf.Vc
namespace Go.Pf.Vc
open Go Go.Pf
set_option linter.unusedVariables false
theorem yBR (p0:Int) (p1:Ls) (p2:Ls) (r0:Int) (h:∀ K:Int→Prop,K r0→yap p0 p1 p2 K) (K:Int→Prop):yap p0 p1 p2 K=K r0 :=
 propext ⟨fun k=>detC (yeO [] ya6) (as:=[(.agg [(.int .i64 p0),(.data p1),(.data p2)])]) (x:=(.int .i64 r0)) (fun K' k'=>h (fun r0=>K' (.int .i64 r0)) k') (K:=fun x=>match x with | (.int .i64 r0)=>K r0 | _=>False) k,h K⟩
theorem yBS (p0:Int) (p1:Ls) (p2:Ls) (r0:Int) (r1:Int) (h:∀ K:Int→Int→Prop,K r0 r1→yad p0 p1 p2 K) (K:Int→Int→Prop):yad p0 p1 p2 K=K r0 r1 :=
 propext ⟨fun k=>detC (yeP [] ya6) (as:=[(.agg [(.int .i64 p0),(.data p1),(.data p2)])]) (x:=(.tup [(.int .i64 r0),(.int .i64 r1)])) (fun K' k'=>h (fun r0 r1=>K' (.tup [(.int .i64 r0),(.int .i64 r1)])) k') (K:=fun x=>match x with | (.tup [(.int .i64 r0),(.int .i64 r1)])=>K r0 r1 | _=>False) k,h K⟩
theorem yDC (p0:Int) (p1:Ls) (p2:Ls) (p3:Int) (p4:Int) (p5:Int) (p6:Int) (r0:Int) (r1:Int) (r2:Int) (h:∀ K:Int→Int→Int→Prop,K r0 r1 r2→yhH p0 p1 p2 p3 p4 p5 p6 K) (K:Int→Int→Int→Prop):yhH p0 p1 p2 p3 p4 p5 p6 K=K r0 r1 r2 :=
 propext ⟨fun k=>detC (yxc [] ya6) (as:=[(.agg [(.int .i64 p0),(.data p1),(.data p2)]),(.agg [(.int .i64 p3),(.int .i64 p4)]),(.agg [(.int .i64 p5),(.int .i64 p6)])]) (x:=(.tup [(.agg [(.int .i64 r0),(.int .i64 r1)]),(.int .i64 r2)])) (fun K' k'=>h (fun r0 r1 r2=>K' (.tup [(.agg [(.int .i64 r0),(.int .i64 r1)]),(.int .i64 r2)])) k') (K:=fun x=>match x with | (.tup [(.agg [(.int .i64 r0),(.int .i64 r1)]),(.int .i64 r2)])=>K r0 r1 r2 | _=>False) k,h K⟩
theorem yBT (p0:Int) (p1:Ls) (p2:Ls) (p3:Int) (p4:Int) (p5:Int) (p6:Int) (r0:Int) (r1:Int) (r2:Int) (h:∀ K:Int→Int→Int→Prop,K r0 r1 r2→ybn p0 p1 p2 p3 p4 p5 p6 K) (K:Int→Int→Int→Prop):ybn p0 p1 p2 p3 p4 p5 p6 K=K r0 r1 r2 :=
 propext ⟨fun k=>detC (ylw [] ya6) (as:=[(.agg [(.int .i64 p0),(.data p1),(.data p2)]),(.agg [(.int .i64 p3),(.int .i64 p4)]),(.agg [(.int .i64 p5),(.int .i64 p6)])]) (x:=(.tup [(.agg [(.int .i64 r0),(.int .i64 r1)]),(.int .i64 r2)])) (fun K' k'=>h (fun r0 r1 r2=>K' (.tup [(.agg [(.int .i64 r0),(.int .i64 r1)]),(.int .i64 r2)])) k') (K:=fun x=>match x with | (.tup [(.agg [(.int .i64 r0),(.int .i64 r1)]),(.int .i64 r2)])=>K r0 r1 r2 | _=>False) k,h K⟩
theorem ykr (p0:Ls) (p1:Ls) (r0:Bool) (h:∀ K:Bool→Prop,K r0→yay p0 p1 K) (K:Bool→Prop):yay p0 p1 K=K r0 :=
 propext ⟨fun k=>detC (yge [] ya6) (as:=[(.data p0),(.data p1)]) (x:=(.bool r0)) (fun K' k'=>h (fun r0=>K' (.bool r0)) k') (K:=fun x=>match x with | (.bool r0)=>K r0 | _=>False) k,h K⟩
theorem yks (p0:Ls) (p1:Ls) (r0:Bool) (h:∀ K:Bool→Prop,K r0→yam p0 p1 K) (K:Bool→Prop):yam p0 p1 K=K r0 :=
 propext ⟨fun k=>detC (ydZ [] ya6) (as:=[(.data p0),(.data p1)]) (x:=(.bool r0)) (fun K' k'=>h (fun r0=>K' (.bool r0)) k') (K:=fun x=>match x with | (.bool r0)=>K r0 | _=>False) k,h K⟩
end Go.Pf.Vc
namespace Go.Pf.Vc
open Go Go.Pf
set_option maxRecDepth 100000
abbrev yg8:Type:=Int→Int→Int→Int→(Bool→Prop)→Prop
def yoe (a0:ybD) (p0 p1 p2 p3:Int) (K:Bool→Prop):Prop :=
 (a0 p0 p1 p2 p3 (fun a b =>
 (cbr (b ==(0:Int))
 (K (decide (a<(0:Int))))
 (K false))))
def ycD (p0 p1 p2 p3:Int) (K:Bool→Prop):Prop:=yoe ybL p0 p1 p2 p3 K
def yof (w:yg8) (as:Ls) (K:PV→Prop):Prop :=
 match as with
 | [(.agg [(.int .i64 p0),(.int .i64 p1),(.int .i64 p2),(.int .i64 p3)])]=>w p0 p1 p2 p3 (fun r0=>K (.bool r0))
 | _=>False
def ysC (as:Ls) (K:PV→Prop):Prop:=yof ycD as K
def yBU (_:ybD):LP:=fun _ _ _ _ =>
 False
def ysD (e:Es) (a0:ybD):SE:=⟨(E e),lookS [(ycv,yfy a0)],lookI [],yBU a0⟩
theorem yAh (e:Es) (he:EG e):SEOk (ysD e ybL):=yao ⟨(ygC e he),trivial⟩ trivial he.ok
theorem yBV (e:Es) (a0 p0 p1 p2 p3 K):WP (ysD e a0) 6 yC3 [(.agg [(.int .i64 p0),(.int .i64 p1),(.int .i64 p2),(.int .i64 p3)])] K=yoe a0 p0 p1 p2 p3 (fun r0=>K (.bool r0)):=by kernel_rfl
theorem ysE (e:Es) (he:EG e):OkF (E e) ysC yiw:=by
 intro as K h
 unfold ysC yof at h
 split at h
 · exact WP_ok (yAh e he) (yag (by kernel_rfl)) (by kernel_rfl) (by kernel_rfl) (fun _=>yaa (by kernel_rfl) _) (he.num _ (by kernel_rfl)) ((yBV ..).mpr h)
 · exact h.elim
abbrev yjs:Type:=Ls→(Int→Prop)→Prop
def ydJ (a0:yg8) (x0:Int→Prop) (x1:Ls→Int→Int→Bool→Prop):Nat→Ls→Int→Int→Prop
 | 0,_,_,_=>False
 | n+1,l0,i1,i2 =>
 (cbr (decide (i2<i1))
 (asr (decide ((0:Int)≤i2))
 (asr (decide (i2<(((List.length l0):Nat):Int)))
 (asr (conf (.agg [.i .i64,.i .i64,.i .i64,.i .i64]) (List.getD l0 (i2.toNat) .nils))
 (a0 (intOfV (cellAt (List.getD l0 (i2.toNat) .nils) 0)) (intOfV (cellAt (List.getD l0 (i2.toNat) .nils) 1)) (intOfV (cellAt (List.getD l0 (i2.toNat) .nils) 2)) (intOfV (cellAt (List.getD l0 (i2.toNat) .nils) 3)) (fun a =>
 (cbr (!a)
 (x0 (8:Int))
 (ydJ a0 x0 x1 n l0 i1 (IntKind.i64.wrap (i2+(1:Int))))))))))
 (x1 l0 i1 i2 false))
def yqO (a0:yg8) (p0:Ls) (K:Int→Prop):Prop :=
 (cbr (decide ((((List.length p0):Nat):Int)>(60:Int)))
 (K (4:Int))
 (∃ n:Nat,ydJ a0
 (fun a=>(K a))
 (fun _ _ _ _=>(K (0:Int)))
 n p0 (((List.length p0):Nat):Int) (0:Int)))
def yeh (p0:Ls) (K:Int→Prop):Prop:=yqO ycD p0 K
def yqP (w:yjs) (as:Ls) (K:PV→Prop):Prop :=
 match as with
 | [(.data p0)]=>w p0 (fun r0=>K (.int .i64 r0))
 | _=>False
def yxe (as:Ls) (K:PV→Prop):Prop:=yqP yeh as K
def yg9 (F:Frm) (H:Hp) (A0:Ls→Int→Int→Prop):Prop :=
 match F,H with
 | [(8,.v (.data l0)),(9,.v (.int .i64 i1)),(10,.v (.int .i64 i2))],[]=>(A0 l0 i1 i2)
 | _,_=>False
def ymr (Q:Ex→Frm→Hp→Prop):Int→Prop:=(fun i0=>Q .ret [(2,.v (.int .i64 i0))] [])
def yms (Q:Ex→Frm→Hp→Prop):Ls→Int→Int→Bool→Prop:=(fun l0 i1 i2 b3=>Q (.exit 0) [(8,.v (.data l0)),(9,.v (.int .i64 i1)),(10,.v (.int .i64 i2)),(11,.v (.bool b3))] [])
def ylx (a0:yg8) (Q:Ex→Frm→Hp→Prop) (n:Nat) (F:Frm) (H:Hp):Prop:=yg9 F H (fun l0 i1 i2=>ydJ a0 (ymr Q) (yms Q) n l0 i1 i2)
def ym1 (a0:yg8):LP:=fun id F H Q =>
 bif Nat.beq id 56157900 then yg9 F H (fun l0 i1 i2=>∃ n:Nat,ydJ a0 (ymr Q) (yms Q) n l0 i1 i2) else
 False
def yqQ (e:Es) (a0:yg8):SE:=⟨(E e),lookS [(yiw,yof a0)],lookI [],ym1 a0⟩
theorem yuZ (e:Es) (he:EG e):SEOk (yqQ e ycD):=yao ⟨(ysE e he),trivial⟩ trivial he.ok
theorem yvM (e:Es) (a0 Q n l0 i1 i2):WC (E e) (callW (yqQ e a0) 5) (ym1 a0) ynX [(8,.v (.data l0)),(9,.v (.int .i64 i1)),(10,.v (.int .i64 i2))] [] (fun x F' H'=>match x with | .norm=>ylx a0 Q n F' H' | .exit i=>Q (.exit i) F' H' | .ret=>Q .ret F' H')=ydJ a0 (ymr Q) (yms Q) (n+1) l0 i1 i2:=by kernel_rfl
theorem yAi (e:Es) (_:EG e):LpOk (E e) (ym1 ycD) ynX:=(yag (by kernel_rfl))
theorem yyU (e:Es) (he:EG e):∀ F H Q,ym1 ycD 56157900 F H Q→LoopT (E e) ynX F H Q:=by
 intro F H Q h
 have go:=LoopT.intro (yaF (yuZ e he) 5) (yAi e he) (ylx ycD Q) (by
   intro F H h
   unfold ylx yg9 at h
   split at h
   · exact h
   · exact h) (by
   intro n F H h
   unfold ylx yg9 at h
   split at h
   · exact (yvM ..).mpr h
   · exact h.elim)
 have h:yg9 F H _:=h
 unfold yg9 at h
 split at h
 · obtain ⟨n,h⟩:=h;exact go n _ _ h
 · exact h.elim
theorem yFF (e:Es) (a0 p0 K):WP (yqQ e a0) 6 yHh [(.data p0)] K=yqO a0 p0 (fun r0=>K (.int .i64 r0)):=by kernel_rfl
theorem yxf (e:Es) (he:EG e):OkF (E e) yxe ylS:=by
 intro as K h
 unfold yxe yqP at h
 split at h
 · exact WP_ok (yuZ e he) (ybe (l:=[(56157900,ynX)]) ⟨yyU e he,trivial⟩ (by kernel_rfl)) (by kernel_rfl) (by kernel_rfl) (fun _=>yaa (by kernel_rfl) _) (he.num _ (by kernel_rfl)) ((yFF ..).mpr h)
 · exact h.elim
abbrev ycE:Type:=Int→Int→Int→Int→(Int→Prop)→Prop
def yog (a0:ybD) (p0 p1 p2 p3:Int) (K:Int→Prop):Prop :=
 (a0 p0 p1 p2 p3 (fun a _ =>
 (K a)))
def ya0 (p0 p1 p2 p3:Int) (K:Int→Prop):Prop:=yog ybL p0 p1 p2 p3 K
def yhI (w:ycE) (as:Ls) (K:PV→Prop):Prop :=
 match as with
 | [(.agg [(.int .i64 p0),(.int .i64 p1)]),(.agg [(.int .i64 p2),(.int .i64 p3)])]=>w p0 p1 p2 p3 (fun r0=>K (.int .i64 r0))
 | _=>False
def ysF (as:Ls) (K:PV→Prop):Prop:=yhI ya0 as K
def yBW (_:ybD):LP:=fun _ _ _ _ =>
 False
def ysG (e:Es) (a0:ybD):SE:=⟨(E e),lookS [(ycv,yfy a0)],lookI [],yBW a0⟩
theorem yAj (e:Es) (he:EG e):SEOk (ysG e ybL):=yao ⟨(ygC e he),trivial⟩ trivial he.ok
theorem yBX (e:Es) (a0 p0 p1 p2 p3 K):WP (ysG e a0) 6 yC4 [(.agg [(.int .i64 p0),(.int .i64 p1)]),(.agg [(.int .i64 p2),(.int .i64 p3)])] K=yog a0 p0 p1 p2 p3 (fun r0=>K (.int .i64 r0)):=by kernel_rfl
theorem yoh (e:Es) (he:EG e):OkF (E e) ysF yeK:=by
 intro as K h
 unfold ysF yhI at h
 split at h
 · exact WP_ok (yAj e he) (yag (by kernel_rfl)) (by kernel_rfl) (by kernel_rfl) (fun _=>yaa (by kernel_rfl) _) (he.num _ (by kernel_rfl)) ((yBX ..).mpr h)
 · exact h.elim
abbrev ybU:Type:=Ls→(Int→Prop)→Prop
def ycp (a0:yjs) (a1:ycE) (x0:Int→Prop) (x1:Ls→Int→Bool→Prop):Nat→Ls→Int→Prop
 | 0,_,_=>False
 | n+1,l0,i1 =>
 (cbr (decide (i1<(((List.length l0):Nat):Int)))
 (asr (decide ((0:Int)≤(IntKind.i64.wrap (i1-(1:Int)))))
 (asr (decide ((IntKind.i64.wrap (i1-(1:Int)))<(((List.length l0):Nat):Int)))
 (asr (conf (.agg [.i .i64,.i .i64,.i .i64,.i .i64]) (List.getD l0 ((IntKind.i64.wrap (i1-(1:Int))).toNat) .nils))
 (asr (decide ((0:Int)≤i1))
 (asr (decide (i1<(((List.length l0):Nat):Int)))
 (asr (conf (.agg [.i .i64,.i .i64,.i .i64,.i .i64]) (List.getD l0 (i1.toNat) .nils))
 (a1 (intOfV (cellAt (List.getD l0 ((IntKind.i64.wrap (i1-(1:Int))).toNat) .nils) 2)) (intOfV (cellAt (List.getD l0 ((IntKind.i64.wrap (i1-(1:Int))).toNat) .nils) 3)) (intOfV (cellAt (List.getD l0 (i1.toNat) .nils) 0)) (intOfV (cellAt (List.getD l0 (i1.toNat) .nils) 1)) (fun a =>
 (cbr (decide (a≥(0:Int)))
 (x0 (8:Int))
 (ycp a0 a1 x0 x1 n l0 (IntKind.i64.wrap (i1+(1:Int)))))))))))))
 (x1 l0 i1 false))
def yoi (a0:yjs) (a1:ycE) (p0:Ls) (K:Int→Prop):Prop :=
 (a0 p0 (fun a =>
 (cbr (a !=(0:Int))
 (K a)
 (∃ n:Nat,ycp a0 a1
 (fun b=>(K b))
 (fun _ _ _=>(K (0:Int)))
 n p0 (1:Int)))))
def yaE (p0:Ls) (K:Int→Prop):Prop:=yoi yeh ya0 p0 K
def yhJ (w:ybU) (as:Ls) (K:PV→Prop):Prop :=
 match as with
 | [(.data p0)]=>w p0 (fun r0=>K (.int .i64 r0))
 | _=>False
def ysH (as:Ls) (K:PV→Prop):Prop:=yhJ yaE as K
def yfj (F:Frm) (H:Hp) (A0:Ls→Int→Prop):Prop :=
 match F,H with
 | [(0,.v (.data l0)),(4,.v (.int .i64 i1))],[]=>(A0 l0 i1)
 | _,_=>False
def yjV (Q:Ex→Frm→Hp→Prop):Int→Prop:=(fun i0=>Q .ret [(2,.v (.int .i64 i0))] [])
def yjW (Q:Ex→Frm→Hp→Prop):Ls→Int→Bool→Prop:=(fun l0 i1 b2=>Q (.exit 0) [(0,.v (.data l0)),(4,.v (.int .i64 i1)),(13,.v (.bool b2))] [])
def yiJ (a0:yjs) (a1:ycE) (Q:Ex→Frm→Hp→Prop) (n:Nat) (F:Frm) (H:Hp):Prop:=yfj F H (fun l0 i1=>ycp a0 a1 (yjV Q) (yjW Q) n l0 i1)
def yjX (a0:yjs) (a1:ycE):LP:=fun id F H Q =>
 bif Nat.beq id 17365500 then yfj F H (fun l0 i1=>∃ n:Nat,ycp a0 a1 (yjV Q) (yjW Q) n l0 i1) else
 False
def yoj (e:Es) (a0:yjs) (a1:ycE):SE:=⟨(E e),lookS [(ylS,yqP a0),(yeK,yhI a1)],lookI [],yjX a0 a1⟩
theorem yrD (e:Es) (he:EG e):SEOk (yoj e yeh ya0):=yao ⟨(yxf e he),(yoh e he),trivial⟩ trivial he.ok
theorem ysI (e:Es) (a0 a1 Q n l0 i1):WC (E e) (callW (yoj e a0 a1) 5) (yjX a0 a1) ynY [(0,.v (.data l0)),(4,.v (.int .i64 i1))] [] (fun x F' H'=>match x with | .norm=>yiJ a0 a1 Q n F' H' | .exit i=>Q (.exit i) F' H' | .ret=>Q .ret F' H')=ycp a0 a1 (yjV Q) (yjW Q) (n+1) l0 i1:=by kernel_rfl
theorem yxg (e:Es) (_:EG e):LpOk (E e) (yjX yeh ya0) ynY:=(yag (by kernel_rfl))
theorem yvN (e:Es) (he:EG e):∀ F H Q,yjX yeh ya0 17365500 F H Q→LoopT (E e) ynY F H Q:=by
 intro F H Q h
 have go:=LoopT.intro (yaF (yrD e he) 5) (yxg e he) (yiJ yeh ya0 Q) (by
   intro F H h
   unfold yiJ yfj at h
   split at h
   · exact h
   · exact h) (by
   intro n F H h
   unfold yiJ yfj at h
   split at h
   · exact (ysI ..).mpr h
   · exact h.elim)
 have h:yfj F H _:=h
 unfold yfj at h
 split at h
 · obtain ⟨n,h⟩:=h;exact go n _ _ h
 · exact h.elim
theorem yBY (e:Es) (a0 a1 p0 K):WP (yoj e a0 a1) 6 yC5 [(.data p0)] K=yoi a0 a1 p0 (fun r0=>K (.int .i64 r0)):=by kernel_rfl
theorem yjY (e:Es) (he:EG e):OkF (E e) ysH yeL:=by
 intro as K h
 unfold ysH yhJ at h
 split at h
 · exact WP_ok (yrD e he) (ybe (l:=[(17365500,ynY)]) ⟨yvN e he,trivial⟩ (by kernel_rfl)) (by kernel_rfl) (by kernel_rfl) (fun _=>yaa (by kernel_rfl) _) (he.num _ (by kernel_rfl)) ((yBY ..).mpr h)
 · exact h.elim
abbrev yDD:Type:=Int→Ls→Ls→Ls→(Int→Int→Int→Prop)→Prop
def ybG (a0:yaB) (a1:ybU) (a2:ycE) (a3:yd9) (a4:ybq) (x0:Int→Ls→Ls→Int→Int→Int→Int→Ls→Int→Int→Bool→Prop) (x1:Int→Ls→Ls→Int→Int→Int→Prop):Nat→Int→Ls→Ls→Int→Int→Int→Int→Ls→Int→Int→Prop
 | 0,_,_,_,_,_,_,_,_,_,_=>False
 | n+1,i0,l1,l2,i3,i4,i5,i6,l7,i8,i9 =>
 (cbr (decide (i9<i8))
 (asr (decide ((0:Int)≤i9))
 (asr (decide (i9<(((List.length l7):Nat):Int)))
 (lt (List.getD l7 (i9.toNat) .nils) (fun a =>
 (asr (conf (.agg [.i .i64,.i .i64,.i .i64,.i .i64]) a)
 (a3 i0 l1 l2 (intOfV (cellAt a 0)) (intOfV (cellAt a 1)) (intOfV (cellAt a 2)) (intOfV (cellAt a 3)) (fun d e b =>
 (cbr (b !=(0:Int))
 (x1 i0 l1 l2 (0:Int) (0:Int) b)
 (a4 i5 i6 d e (fun f g c =>
 (cbr (c !=(0:Int))
 (x1 i0 l1 l2 (0:Int) (0:Int) c)
 (lt (IntKind.i64.wrap (i9+(1:Int))) (fun h =>
 (ybG a0 a1 a2 a3 a4 x0 x1 n i0 l1 l2 i3 i4 f g l7 i8 h))))))))))))))
 (x0 i0 l1 l2 i3 i4 i5 i6 l7 i8 i9 false))
def yok (a0:yaB) (a1:ybU) (a2:ycE) (a3:yd9) (a4:ybq) (p0:Int) (p1 p2 p3:Ls) (K:Int→Int→Int→Prop):Prop :=
 (a0 p0 p1 p2 (fun d =>
 (cbr (d !=(0:Int))
 (K (0:Int) (0:Int) d)
 (a1 p3 (fun e =>
 (cbr (e !=(0:Int))
 (K (0:Int) (0:Int) e)
 (jn (fun (a:Bool→Prop) =>
 (cbr (decide ((((List.length p3):Nat):Int)>(0:Int)))
 (asr (decide ((0:Int)<(((List.length p3):Nat):Int)))
 (lt (List.getD p3 0 .nils) (fun f =>
 (asr (conf (.agg [.i .i64,.i .i64,.i .i64,.i .i64]) f)
 (cbr (decide ((intOfV (cellAt f 0))<(0:Int)))
 (a true)
 (lt (IntKind.i64.wrap ((((List.length p3):Nat):Int)-(1:Int))) (fun b =>
 (asr (decide ((0:Int)≤b))
 (asr (decide (b<(((List.length p3):Nat):Int)))
 (lt (List.getD p3 (b.toNat) .nils) (fun c =>
 (asr (conf (.agg [.i .i64,.i .i64,.i .i64,.i .i64]) c)
 (a2 (intOfV (cellAt c 2)) (intOfV (cellAt c 3)) p0 (1:Int) (fun h =>
 (a (decide (h>(0:Int))))))))))))))))))
 (a false)))
 (fun j=>(cbr j
 (K (0:Int) (0:Int) (2:Int))
 (jn (fun (g:Int→Ls→Ls→Int→Int→Int→Prop) =>
 (∃ n:Nat,ybG a0 a1 a2 a3 a4
 (fun k l m _ _ o p _ _ _ _=>(g k l m o p (0:Int)))
 (fun q r s t u v=>(g q r s t u v))
 n p0 p1 p2 (0:Int) (0:Int) (0:Int) (1:Int) p3 (((List.length p3):Nat):Int) (0:Int)))
 (fun _ _ _ w x y=>(K w x y))))))))))))
def ycZ (p0:Int) (p1 p2 p3:Ls) (K:Int→Int→Int→Prop):Prop:=yok yap yaE ya0 ybn yaD p0 p1 p2 p3 K
def yol (w:yDD) (as:Ls) (K:PV→Prop):Prop :=
 match as with
 | [(.agg [(.int .i64 p0),(.data p1),(.data p2)]),(.data p3)]=>w p0 p1 p2 p3 (fun r0 r1 r2=>K (.tup [(.agg [(.int .i64 r0),(.int .i64 r1)]),(.int .i64 r2)]))
 | _=>False
def yjZ (as:Ls) (K:PV→Prop):Prop:=yol ycZ as K
def yfk (F:Frm) (H:Hp) (A0:Int→Ls→Ls→Int→Int→Int→Int→Ls→Int→Int→Prop):Prop :=
 match F,H with
 | [(1,.v (.fn (.func q0) [] [(.ptr 0 1 0 0)])),(4,.box (.agg [(.int .i64 i3),(.int .i64 i4)])),(6,.box (.agg [(.int .i64 i5),(.int .i64 i6)])),(12,.v (.data l7)),(13,.v (.int .i64 i8)),(14,.v (.int .i64 i9))],[⟨false,true,3,[(.agg [(.int .i64 i0),(.data l1),(.data l2)])]⟩]=>asr (Nat.beq q0 yeu) (A0 i0 l1 l2 i3 i4 i5 i6 l7 i8 i9)
 | _,_=>False
def yj0 (Q:Ex→Frm→Hp→Prop):Int→Ls→Ls→Int→Int→Int→Int→Ls→Int→Int→Bool→Prop:=(fun i0 l1 l2 i3 i4 i5 i6 l7 i8 i9 b10=>Q (.exit 0) [(1,.v (.fn (.func yeu) [] [(.ptr 0 1 0 0)])),(4,.box (.agg [(.int .i64 i3),(.int .i64 i4)])),(6,.box (.agg [(.int .i64 i5),(.int .i64 i6)])),(12,.v (.data l7)),(13,.v (.int .i64 i8)),(14,.v (.int .i64 i9)),(15,.v (.bool b10))] [⟨false,true,3,([(.agg [(.int .i64 i0),(.data l1),(.data l2)])]:Ls)⟩])
def yj1 (Q:Ex→Frm→Hp→Prop):Int→Ls→Ls→Int→Int→Int→Prop:=(fun i0 l1 l2 i3 i4 i5=>Q .ret [(4,.box (.agg [(.int .i64 i3),(.int .i64 i4)])),(5,.v (.int .i64 i5))] [⟨false,true,3,([(.agg [(.int .i64 i0),(.data l1),(.data l2)])]:Ls)⟩])
def yiK (a0:yaB) (a1:ybU) (a2:ycE) (a3:yd9) (a4:ybq) (Q:Ex→Frm→Hp→Prop) (n:Nat) (F:Frm) (H:Hp):Prop:=yfk F H (fun i0 l1 l2 i3 i4 i5 i6 l7 i8 i9=>ybG a0 a1 a2 a3 a4 (yj0 Q) (yj1 Q) n i0 l1 l2 i3 i4 i5 i6 l7 i8 i9)
def yhK (a0:yaB) (a1:ybU) (a2:ycE) (a3:yd9) (a4:ybq):LP:=fun id F H Q =>
 bif Nat.beq id 87165700 then yfk F H (fun i0 l1 l2 i3 i4 i5 i6 l7 i8 i9=>∃ n:Nat,ybG a0 a1 a2 a3 a4 (yj0 Q) (yj1 Q) n i0 l1 l2 i3 i4 i5 i6 l7 i8 i9) else
 False
def ysJ (e:Es) (a0:yaB) (a1:ybU) (a2:ycE) (a3:yd9) (a4:ybq):SE:=⟨(E e),lookS [(ybX,yd7 a0),(yeL,yhJ a1),(yeK,yhI a2),(yft,yiA a3),(yda,yfz a4)],lookI [(yeu,yrA)],yhK a0 a1 a2 a3 a4⟩
def ysK (e:Es) (a0:yaB) (a1:ybU) (a2:ycE) (a3:yd9) (a4:ybq):SE:=⟨(E e),lookS [(ybX,yd7 a0),(yeL,yhJ a1),(yeK,yhI a2),(yft,yiA a3),(yda,yfz a4)],lookI [(ysi,yHi),(yeu,yrA)],yhK a0 a1 a2 a3 a4⟩
theorem yAk (e:Es) (he:EG e):SEOk (ysJ e yap yaE ya0 ybn yaD):=yao ⟨(yeO e he),(yjY e he),(yoh e he),(ylw e he),(ygE e he),trivial⟩ ⟨⟨by kernel_rfl,by kernel_rfl,rfl,fun as=>yaa (by kernel_rfl) as,he.num _ (by kernel_rfl),(yag (by kernel_rfl))⟩,trivial⟩ he.ok
theorem ysL (e:Es) (a0 a1 a2 a3 a4 Q n i0 l1 l2 i3 i4 i5 i6 l7 i8 i9):WC (E e) (callW (ysJ e a0 a1 a2 a3 a4) 5) (yhK a0 a1 a2 a3 a4) ynZ [(1,.v (.fn (.func yeu) [] [(.ptr 0 1 0 0)])),(4,.box (.agg [(.int .i64 i3),(.int .i64 i4)])),(6,.box (.agg [(.int .i64 i5),(.int .i64 i6)])),(12,.v (.data l7)),(13,.v (.int .i64 i8)),(14,.v (.int .i64 i9))] [⟨false,true,3,([(.agg [(.int .i64 i0),(.data l1),(.data l2)])]:Ls)⟩] (fun x F' H'=>match x with | .norm=>yiK a0 a1 a2 a3 a4 Q n F' H' | .exit i=>Q (.exit i) F' H' | .ret=>Q .ret F' H')=ybG a0 a1 a2 a3 a4 (yj0 Q) (yj1 Q) (n+1) i0 l1 l2 i3 i4 i5 i6 l7 i8 i9:=by kernel_rfl
theorem yxh (e:Es) (_:EG e):LpOk (E e) (yhK yap yaE ya0 ybn yaD) ynZ:=(yag (by kernel_rfl))
theorem yvO (e:Es) (he:EG e):∀ F H Q,yhK yap yaE ya0 ybn yaD 87165700 F H Q→LoopT (E e) ynZ F H Q:=by
 intro F H Q h
 have go:=LoopT.intro (yaF (yAk e he) 5) (yxh e he) (yiK yap yaE ya0 ybn yaD Q) (by
   intro F H h
   unfold yiK yfk at h
   split at h
   · obtain ⟨hg,k⟩:=yaf.1 h
     clear h
     have h:=k
     clear k
     try simp only [Bool.and_eq_true,decide_eq_true_eq] at hg
     have g0:=hg;have g0:=Nat.eq_of_beq_eq_true g0;subst g0;exact h
   · exact h) (by
   intro n F H h
   unfold yiK yfk at h
   split at h
   · obtain ⟨hg,k⟩:=yaf.1 h
     clear h
     have h:=k
     clear k
     try simp only [Bool.and_eq_true,decide_eq_true_eq] at hg
     have g0:=hg;have g0:=Nat.eq_of_beq_eq_true g0;subst g0;exact (ysL ..).mpr h
   · exact h.elim)
 have h:yfk F H _:=h
 unfold yfk at h
 split at h
 · obtain ⟨hg,n,h⟩:=yaf.1 h;exact go n _ _ (yaf.2 ⟨hg,h⟩)
 · exact h.elim
theorem yAl (e:Es) (he:EG e):SEOk (ysK e yap yaE ya0 ybn yaD):=yao ⟨(yeO e he),(yjY e he),(yoh e he),(ylw e he),(ygE e he),trivial⟩ ⟨⟨by kernel_rfl,by kernel_rfl,rfl,fun as=>yaa (by kernel_rfl) as,he.num _ (by kernel_rfl),(ybe (l:=[(87165700,ynZ)]) ⟨yvO e he,trivial⟩ (by kernel_rfl))⟩,⟨by kernel_rfl,by kernel_rfl,rfl,fun as=>yaa (by kernel_rfl) as,he.num _ (by kernel_rfl),(yag (by kernel_rfl))⟩,trivial⟩ he.ok
theorem yBZ (e:Es) (a0 a1 a2 a3 a4 p0 p1 p2 p3 K):WP (ysK e a0 a1 a2 a3 a4) 6 yC8 [(.agg [(.int .i64 p0),(.data p1),(.data p2)]),(.data p3)] K=yok a0 a1 a2 a3 a4 p0 p1 p2 p3 (fun r0 r1 r2=>K (.tup [(.agg [(.int .i64 r0),(.int .i64 r1)]),(.int .i64 r2)])):=by kernel_rfl
theorem ysM (e:Es) (he:EG e):OkF (E e) yjZ ycB:=by
 intro as K h
 unfold yjZ yol at h
 split at h
 · exact WP_ok (yAl e he) (yag (by kernel_rfl)) (by kernel_rfl) (by kernel_rfl) (fun _=>yaa (by kernel_rfl) _) (he.num _ (by kernel_rfl)) ((yBZ ..).mpr h)
 · exact h.elim
end Go.Pf.Vc
namespace Go.Pf.Vc
open Go Go.Pf
set_option linter.unusedVariables false
theorem yAm (p0:Int) (p1:Int) (p2:Int) (p3:Int) (r0:Bool) (h:∀ K:Bool→Prop,K r0→ycD p0 p1 p2 p3 K) (K:Bool→Prop):ycD p0 p1 p2 p3 K=K r0 :=
 propext ⟨fun k=>detC (ysE [] ya6) (as:=[(.agg [(.int .i64 p0),(.int .i64 p1),(.int .i64 p2),(.int .i64 p3)])]) (x:=(.bool r0)) (fun K' k'=>h (fun r0=>K' (.bool r0)) k') (K:=fun x=>match x with | (.bool r0)=>K r0 | _=>False) k,h K⟩
theorem yDE (p0:Ls) (r0:Int) (h:∀ K:Int→Prop,K r0→yeh p0 K) (K:Int→Prop):yeh p0 K=K r0 :=
 propext ⟨fun k=>detC (yxf [] ya6) (as:=[(.data p0)]) (x:=(.int .i64 r0)) (fun K' k'=>h (fun r0=>K' (.int .i64 r0)) k') (K:=fun x=>match x with | (.int .i64 r0)=>K r0 | _=>False) k,h K⟩
theorem yAn (p0:Ls) (r0:Int) (h:∀ K:Int→Prop,K r0→yaE p0 K) (K:Int→Prop):yaE p0 K=K r0 :=
 propext ⟨fun k=>detC (yjY [] ya6) (as:=[(.data p0)]) (x:=(.int .i64 r0)) (fun K' k'=>h (fun r0=>K' (.int .i64 r0)) k') (K:=fun x=>match x with | (.int .i64 r0)=>K r0 | _=>False) k,h K⟩
theorem yAo (p0:Int) (p1:Ls) (p2:Ls) (p3:Ls) (r0:Int) (r1:Int) (r2:Int) (h:∀ K:Int→Int→Int→Prop,K r0 r1 r2→ycZ p0 p1 p2 p3 K) (K:Int→Int→Int→Prop):ycZ p0 p1 p2 p3 K=K r0 r1 r2 :=
 propext ⟨fun k=>detC (ysM [] ya6) (as:=[(.agg [(.int .i64 p0),(.data p1),(.data p2)]),(.data p3)]) (x:=(.tup [(.agg [(.int .i64 r0),(.int .i64 r1)]),(.int .i64 r2)])) (fun K' k'=>h (fun r0 r1 r2=>K' (.tup [(.agg [(.int .i64 r0),(.int .i64 r1)]),(.int .i64 r2)])) k') (K:=fun x=>match x with | (.tup [(.agg [(.int .i64 r0),(.int .i64 r1)]),(.int .i64 r2)])=>K r0 r1 r2 | _=>False) k,h K⟩
end Go.Pf.Vc
namespace Go.Pf.Vc
open Go Go.Pf
set_option maxRecDepth 100000
abbrev yaY:Type:=Ls→Ls→(Int→Prop)→Prop
def ydK (a0:yaB) (a:Int→Prop) (b:Ls→Ls→Ls→Int→Int→Bool→Prop):Nat→Ls→Ls→Ls→Int→Int→Prop
 | 0,_,_,_,_,_=>False
 | e+1,l0,l1,l2,i3,i4 =>
 (cbr (decide (i4<i3))
 (asr (decide ((0:Int)≤i4))
 (asr (decide (i4<(((List.length l2):Nat):Int)))
 (asr (conf (.agg [.i .i64,.d,.d]) (List.getD l2 (i4.toNat) .nils))
 (a0 (intOfV (cellAt (List.getD l2 (i4.toNat) .nils) 0)) (datOfV (cellAt (List.getD l2 (i4.toNat) .nils) 1)) (datOfV (cellAt (List.getD l2 (i4.toNat) .nils) 2)) (fun c =>
 (cbr (c !=(0:Int))
 (a c)
 (ydK a0 a b e l0 l1 l2 i3 (IntKind.i64.wrap (i4+(1:Int))))))))))
 (b l0 l1 l2 i3 i4 false))
def yc3 (a0:yaB) (a:Int→Prop) (b:Ls→Ls→Ls→Int→Int→Bool→Prop):Nat→Ls→Ls→Ls→Int→Int→Prop
 | 0,_,_,_,_,_=>False
 | c+1,l0,l1,l2,i3,i4 =>
 (cbr (decide (i4<i3))
 (asr (decide ((0:Int)≤i4))
 (asr (decide (i4<(((List.length l2):Nat):Int)))
 (asr (conf (.agg [.i .i64,.d,.d]) (List.getD l2 (i4.toNat) .nils))
 (asr (decide ((0:Int)<(((List.length l0):Nat):Int)))
 (asr (conf (.agg [.i .i64,.d,.d]) (List.getD l0 0 .nils))
 (cbr ((intOfV (cellAt (List.getD l2 (i4.toNat) .nils) 0)) !=(intOfV (cellAt (List.getD l0 0 .nils) 0)))
 (a (8:Int))
 (yc3 a0 a b c l0 l1 l2 i3 (IntKind.i64.wrap (i4+(1:Int))))))))))
 (b l0 l1 l2 i3 i4 false))
def yqR (a0:yaB) (p0 p1:Ls) (K:Int→Prop):Prop :=
 (cbr (decide ((((List.length p0):Nat):Int)>(6:Int)))
 (K (4:Int))
 (cbr (decide ((((List.length p1):Nat):Int)>(2000:Int)))
 (K (4:Int))
 (cbr ((((List.length p0):Nat):Int) ==(0:Int))
 (K (8:Int))
 (∃ b:Nat,ydK a0
 (fun c=>(K c))
 (fun a d _ _ _ _=>(∃ e:Nat,yc3 a0
 (fun f=>(K f))
 (fun _ _ _ _ _ _=>(K (0:Int)))
 e a d a (((List.length a):Nat):Int) (0:Int)))
 b p0 p1 p0 (((List.length p0):Nat):Int) (0:Int)))))
def yaK (p0 p1:Ls) (K:Int→Prop):Prop:=yqR yap p0 p1 K
def yfB (w:yaY) (as:Ls) (K:PV→Prop):Prop :=
 match as with
 | [(.agg [(.data p0),(.data p1)])]=>w p0 p1 (fun r0=>K (.int .i64 r0))
 | _=>False
def yxi (as:Ls) (K:PV→Prop):Prop:=yfB yaK as K
def yha (F:Frm) (H:Hp) (A0:Ls→Ls→Ls→Int→Int→Prop):Prop :=
 match F,H with
 | [(1,.box (.agg [(.data l0),(.data l1)])),(23,.v (.data l2)),(24,.v (.int .i64 i3)),(25,.v (.int .i64 i4))],[]=>(A0 l0 l1 l2 i3 i4)
 | _,_=>False
def yhb (F:Frm) (H:Hp) (A0:Ls→Ls→Ls→Int→Int→Prop):Prop :=
 match F,H with
 | [(1,.box (.agg [(.data l0),(.data l1)])),(36,.v (.data l2)),(37,.v (.int .i64 i3)),(38,.v (.int .i64 i4))],[]=>(A0 l0 l1 l2 i3 i4)
 | _,_=>False
def ymt (Q:Ex→Frm→Hp→Prop):Int→Prop:=(fun i0=>Q .ret [(2,.v (.int .i64 i0))] [])
def ymu (Q:Ex→Frm→Hp→Prop):Ls→Ls→Ls→Int→Int→Bool→Prop:=(fun l0 l1 l2 i3 i4 b5=>Q (.exit 0) [(1,.box (.agg [(.data l0),(.data l1)])),(23,.v (.data l2)),(24,.v (.int .i64 i3)),(25,.v (.int .i64 i4)),(26,.v (.bool b5))] [])
def ymv (Q:Ex→Frm→Hp→Prop):Int→Prop:=(fun i0=>Q .ret [(2,.v (.int .i64 i0))] [])
def ymw (Q:Ex→Frm→Hp→Prop):Ls→Ls→Ls→Int→Int→Bool→Prop:=(fun l0 l1 l2 i3 i4 b5=>Q (.exit 2) [(1,.box (.agg [(.data l0),(.data l1)])),(36,.v (.data l2)),(37,.v (.int .i64 i3)),(38,.v (.int .i64 i4)),(39,.v (.bool b5))] [])
def yly (a0:yaB) (Q:Ex→Frm→Hp→Prop) (n:Nat) (F:Frm) (H:Hp):Prop:=yha F H (fun l0 l1 l2 i3 i4=>ydK a0 (ymt Q) (ymu Q) n l0 l1 l2 i3 i4)
def ylz (a0:yaB) (Q:Ex→Frm→Hp→Prop) (n:Nat) (F:Frm) (H:Hp):Prop:=yhb F H (fun l0 l1 l2 i3 i4=>yc3 a0 (ymv Q) (ymw Q) n l0 l1 l2 i3 i4)
def ygG (a0:yaB):LP:=fun id F H Q =>
 bif Nat.beq id 12157600 then yha F H (fun l0 l1 l2 i3 i4=>∃ n:Nat,ydK a0 (ymt Q) (ymu Q) n l0 l1 l2 i3 i4) else
 bif Nat.beq id 12157601 then yhb F H (fun l0 l1 l2 i3 i4=>∃ n:Nat,yc3 a0 (ymv Q) (ymw Q) n l0 l1 l2 i3 i4) else
 False
def ym2 (e:Es) (a0:yaB):SE:=⟨(E e),lookS [(ybX,yd7 a0)],lookI [],ygG a0⟩
theorem ypD (e:Es) (he:EG e):SEOk (ym2 e yap):=yao ⟨(yeO e he),trivial⟩ trivial he.ok
theorem yvP (e:Es) (a0 Q n l0 l1 l2 i3 i4):WC (E e) (callW (ym2 e a0) 5) (ygG a0) ynM [(1,.box (.agg [(.data l0),(.data l1)])),(23,.v (.data l2)),(24,.v (.int .i64 i3)),(25,.v (.int .i64 i4))] [] (fun x F' H'=>match x with | .norm=>yly a0 Q n F' H' | .exit i=>Q (.exit i) F' H' | .ret=>Q .ret F' H')=ydK a0 (ymt Q) (ymu Q) (n+1) l0 l1 l2 i3 i4:=by kernel_rfl
theorem yAp (e:Es) (_:EG e):LpOk (E e) (ygG yap) ynM:=(yag (by kernel_rfl))
theorem yyV (e:Es) (he:EG e):∀ F H Q,ygG yap 12157600 F H Q→LoopT (E e) ynM F H Q:=by
 intro F H Q h
 have go:=LoopT.intro (yaF (ypD e he) 5) (yAp e he) (yly yap Q) (by
   intro F H h
   unfold yly yha at h
   split at h
   · exact h
   · exact h) (by
   intro n F H h
   unfold yly yha at h
   split at h
   · exact (yvP ..).mpr h
   · exact h.elim)
 have h:yha F H _:=h
 unfold yha at h
 split at h
 · obtain ⟨n,h⟩:=h;exact go n _ _ h
 · exact h.elim
theorem yvQ (e:Es) (a0 Q n l0 l1 l2 i3 i4):WC (E e) (callW (ym2 e a0) 5) (ygG a0) ynN [(1,.box (.agg [(.data l0),(.data l1)])),(36,.v (.data l2)),(37,.v (.int .i64 i3)),(38,.v (.int .i64 i4))] [] (fun x F' H'=>match x with | .norm=>ylz a0 Q n F' H' | .exit i=>Q (.exit i) F' H' | .ret=>Q .ret F' H')=yc3 a0 (ymv Q) (ymw Q) (n+1) l0 l1 l2 i3 i4:=by kernel_rfl
theorem yAq (e:Es) (_:EG e):LpOk (E e) (ygG yap) ynN:=(yag (by kernel_rfl))
theorem yyW (e:Es) (he:EG e):∀ F H Q,ygG yap 12157601 F H Q→LoopT (E e) ynN F H Q:=by
 intro F H Q h
 have go:=LoopT.intro (yaF (ypD e he) 5) (yAq e he) (ylz yap Q) (by
   intro F H h
   unfold ylz yhb at h
   split at h
   · exact h
   · exact h) (by
   intro n F H h
   unfold ylz yhb at h
   split at h
   · exact (yvQ ..).mpr h
   · exact h.elim)
 have h:yhb F H _:=h
 unfold yhb at h
 split at h
 · obtain ⟨n,h⟩:=h;exact go n _ _ h
 · exact h.elim
theorem yFG (e:Es) (a0 p0 p1 K):WP (ym2 e a0) 6 yG4 [(.agg [(.data p0),(.data p1)])] K=yqR a0 p0 p1 (fun r0=>K (.int .i64 r0)):=by kernel_rfl
theorem ygH (e:Es) (he:EG e):OkF (E e) yxi ycP:=by
 intro as K h
 unfold yxi yfB at h
 split at h
 · exact WP_ok (ypD e he) (ybe (l:=[(12157600,ynM),(12157601,ynN)]) ⟨yyV e he,yyW e he,trivial⟩ (by kernel_rfl)) (by kernel_rfl) (by kernel_rfl) (fun _=>yaa (by kernel_rfl) _) (he.num _ (by kernel_rfl)) ((yFG ..).mpr h)
 · exact h.elim
abbrev yea:Type:=Ls→(Ls→Prop)→Prop
mutual
def yeR (a0:yeo) (x0:Ls→Ls→Int→Int→Bool→Prop) (x1:Ls→Int→Int→Bool→Prop):Nat→Ls→Int→Int→Prop
 | 0,_,_,_=>False
 | n+1,l0,i1,i2 =>
 (cbr (decide (i2<i1))
 (asr (decide ((0:Int)≤i2))
 (asr (decide (i2<(((List.length l0):Nat):Int)))
 (asr (conf (.agg [.i .i64,.d,.d]) (List.getD l0 (i2.toNat) .nils))
 (a0 (datOfV (cellAt (List.getD l0 (i2.toNat) .nils) 1)) (fun a =>
 (a0 (datOfV (cellAt (List.getD l0 (i2.toNat) .nils) 2)) (fun b =>
 (asr (decide (1=List.length ([(.agg [(.int .i64 (intOfV (cellAt (List.getD l0 (i2.toNat) .nils) 0))),(.data a),(.data b)])]:Ls))&&decide (1=List.length ([(.agg [(.int .i64 (intOfV (cellAt (List.getD l0 (i2.toNat) .nils) 0))),(.data a),(.data b)])]:Ls)))
 (ydh a0 x0 x1 n ([(.agg [(.int .i64 (intOfV (cellAt (List.getD l0 (i2.toNat) .nils) 0))),(.data a),(.data b)])]:Ls) l0 i1 (IntKind.i64.wrap (i2+(1:Int))))))))))))
 (x1 l0 i1 i2 false))
def ydh (a0:yeo) (x0:Ls→Ls→Int→Int→Bool→Prop) (x1:Ls→Int→Int→Bool→Prop):Nat→Ls→Ls→Int→Int→Prop
 | 0,_,_,_,_=>False
 | n+1,l0,l3,i4,i5 =>
 (cbr (decide (i5<i4))
 (asr (decide ((0:Int)≤i5))
 (asr (decide (i5<(((List.length l3):Nat):Int)))
 (asr (conf (.agg [.i .i64,.d,.d]) (List.getD l3 (i5.toNat) .nils))
 (a0 (datOfV (cellAt (List.getD l3 (i5.toNat) .nils) 1)) (fun a =>
 (a0 (datOfV (cellAt (List.getD l3 (i5.toNat) .nils) 2)) (fun b =>
 (asr (decide ((List.length l0)=(List.length l0)))
 (asr (decide ((0+(List.length l0))≤(List.length l0)))
 (asr (!(decide (((0+(List.length l0))+1)≤(List.length l0))))
 (asr (decide ((List.length l0)=(List.length l0)))
 (asr (decide ((((List.length l0)+1)+64)*(56+1)≤room))
 (asr (decide ((List.length (l0++([(.agg [(.int .i64 (intOfV (cellAt (List.getD l3 (i5.toNat) .nils) 0))),(.data a),(.data b)])]:Ls)))=List.length (l0++([(.agg [(.int .i64 (intOfV (cellAt (List.getD l3 (i5.toNat) .nils) 0))),(.data a),(.data b)])]:Ls)))&&decide ((List.length (l0++([(.agg [(.int .i64 (intOfV (cellAt (List.getD l3 (i5.toNat) .nils) 0))),(.data a),(.data b)])]:Ls)))=List.length (l0++([(.agg [(.int .i64 (intOfV (cellAt (List.getD l3 (i5.toNat) .nils) 0))),(.data a),(.data b)])]:Ls))))
 (ydh a0 x0 x1 n (l0++([(.agg [(.int .i64 (intOfV (cellAt (List.getD l3 (i5.toNat) .nils) 0))),(.data a),(.data b)])]:Ls)) l3 i4 (IntKind.i64.wrap (i5+(1:Int)))))))))))))))))
 (x0 l0 l3 i4 i5 false))
end
def ypE (a0:yeo) (p0:Ls) (K:Ls→Prop):Prop :=
 (∃ n:Nat,yeR a0
 (fun a _ _ _ _=>(asr (decide ((List.length a)=(List.length a)))
 (asr (decide ((0+(List.length a))≤(List.length a)))
 (K (List.take (List.length a) a)))))
 (fun _ _ _ _=>(K ([]:Ls)))
 n p0 (((List.length p0):Nat):Int) (0:Int))
def ydz (p0:Ls) (K:Ls→Prop):Prop:=ypE ydy p0 K
def yiB (w:yea) (as:Ls) (K:PV→Prop):Prop :=
 match as with
 | [(.data p0)]=>w p0 (fun r0=>K (.data r0))
 | _=>False
def yu0 (as:Ls) (K:PV→Prop):Prop:=yiB ydz as K
def ygg (F:Frm) (H:Hp) (A0:Ls→Int→Int→Prop) (A1:Ls→Ls→Int→Int→Prop):Prop :=
 match F,H with
 | [(3,.v .nils),(6,.v (.data l0)),(7,.v (.int .i64 i1)),(8,.v (.int .i64 i2))],[]=>(A0 l0 i1 i2)
 | [(3,.v (.own 0 0 t1 t2 none)),(6,.v (.data l3)),(7,.v (.int .i64 i4)),(8,.v (.int .i64 i5))],[⟨false,true,3,l0⟩]=>asr (decide (t1=List.length l0)&&decide (t2=List.length l0)) (A1 l0 l3 i4 i5)
 | _,_=>False
def yeS (Q:Ex→Frm→Hp→Prop):Ls→Ls→Int→Int→Bool→Prop:=(fun l0 l3 i4 i5 b6=>Q (.exit 0) [(3,.v (.own 0 0 (List.length l0) (List.length l0) none)),(6,.v (.data l3)),(7,.v (.int .i64 i4)),(8,.v (.int .i64 i5)),(9,.v (.bool b6))] [⟨false,true,3,l0⟩])
def yeT (Q:Ex→Frm→Hp→Prop):Ls→Int→Int→Bool→Prop:=(fun l0 i1 i2 b3=>Q (.exit 0) [(3,.v .nils),(6,.v (.data l0)),(7,.v (.int .i64 i1)),(8,.v (.int .i64 i2)),(9,.v (.bool b3))] [])
def yhL (a0:yeo) (Q:Ex→Frm→Hp→Prop) (n:Nat) (F:Frm) (H:Hp):Prop:=ygg F H (fun l0 i1 i2=>yeR a0 (yeS Q) (yeT Q) n l0 i1 i2) (fun l0 l3 i4 i5=>ydh a0 (yeS Q) (yeT Q) n l0 l3 i4 i5)
def yiC (a0:yeo):LP:=fun id F H Q =>
 bif Nat.beq id 94933800 then ygg F H (fun l0 i1 i2=>∃ n:Nat,yeR a0 (yeS Q) (yeT Q) n l0 i1 i2) (fun l0 l3 i4 i5=>∃ n:Nat,ydh a0 (yeS Q) (yeT Q) n l0 l3 i4 i5) else
 False
def ylA (e:Es) (a0:yeo):SE:=⟨(E e),lookS [(yds,yvx a0)],lookI [],yiC a0⟩
theorem ysN (e:Es) (he:EG e):SEOk (ylA e ydy):=yao ⟨(yvz e he),trivial⟩ trivial he.ok
theorem yud (e:Es) (a0 Q n l0 i1 i2):WC (E e) (callW (ylA e a0) 5) (yiC a0) ykG [(3,.v .nils),(6,.v (.data l0)),(7,.v (.int .i64 i1)),(8,.v (.int .i64 i2))] [] (fun x F' H'=>match x with | .norm=>yhL a0 Q n F' H' | .exit i=>Q (.exit i) F' H' | .ret=>Q .ret F' H')=yeR a0 (yeS Q) (yeT Q) (n+1) l0 i1 i2:=by kernel_rfl
theorem yue (e:Es) (a0 Q n l0 l3 i4 i5):WC (E e) (callW (ylA e a0) 5) (yiC a0) ykG [(3,.v (.own 0 0 (List.length l0) (List.length l0) none)),(6,.v (.data l3)),(7,.v (.int .i64 i4)),(8,.v (.int .i64 i5))] [⟨false,true,3,l0⟩] (fun x F' H'=>match x with | .norm=>yhL a0 Q n F' H' | .exit i=>Q (.exit i) F' H' | .ret=>Q .ret F' H')=ydh a0 (yeS Q) (yeT Q) (n+1) l0 l3 i4 i5:=by kernel_rfl
theorem yyX (e:Es) (_:EG e):LpOk (E e) (yiC ydy) ykG:=(yag (by kernel_rfl))
theorem yxj (e:Es) (he:EG e):∀ F H Q,yiC ydy 94933800 F H Q→LoopT (E e) ykG F H Q:=by
 intro F H Q h
 have go:=LoopT.intro (yaF (ysN e he) 5) (yyX e he) (yhL ydy Q) (by
   intro F H h
   unfold yhL ygg at h
   split at h
   · exact h
   · obtain ⟨hg,k⟩:=yaf.1 h
     clear h
     have h:=k
     clear k
     try simp only [Bool.and_eq_true,decide_eq_true_eq] at hg
     obtain ⟨g0,g1⟩:=hg;subst g0;subst g1;exact h
   · exact h) (by
   intro n F H h
   unfold yhL ygg at h
   split at h
   · exact (yud ..).mpr h
   · obtain ⟨hg,k⟩:=yaf.1 h
     clear h
     have h:=k
     clear k
     try simp only [Bool.and_eq_true,decide_eq_true_eq] at hg
     obtain ⟨g0,g1⟩:=hg;subst g0;subst g1;exact (yue ..).mpr h
   · exact h.elim)
 have h:ygg F H _ _:=h
 unfold ygg at h
 split at h
 · obtain ⟨n,h⟩:=h;exact go n _ _ h
 · obtain ⟨hg,n,h⟩:=yaf.1 h;exact go n _ _ (yaf.2 ⟨hg,h⟩)
 · exact h.elim
theorem yDF (e:Es) (a0 p0 K):WP (ylA e a0) 6 yFf [(.data p0)] K=ypE a0 p0 (fun r0=>K (.data r0)):=by kernel_rfl
theorem ylB (e:Es) (he:EG e):OkF (E e) yu0 yfq:=by
 intro as K h
 unfold yu0 yiB at h
 split at h
 · exact WP_ok (ysN e he) (ybe (l:=[(94933800,ykG)]) ⟨yxj e he,trivial⟩ (by kernel_rfl)) (by kernel_rfl) (by kernel_rfl) (fun _=>yaa (by kernel_rfl) _) (he.num _ (by kernel_rfl)) ((yDF ..).mpr h)
 · exact h.elim
abbrev yqS:Type:=Ls→(Ls→Ls→Int→Prop)→Prop
def ysO (a0:yaY) (a1:yea) (p0:Ls) (K:Ls→Ls→Int→Prop):Prop :=
 (a0 p0 ([]:Ls) (fun a =>
 (cbr (a !=(0:Int))
 (K ([]:Ls) ([]:Ls) a)
 (a1 p0 (fun b =>
 (K b ([]:Ls) (0:Int)))))))
def yom (p0:Ls) (K:Ls→Ls→Int→Prop):Prop:=ysO yaK ydz p0 K
def ysP (w:yqS) (as:Ls) (K:PV→Prop):Prop :=
 match as with
 | [(.data p0)]=>w p0 (fun r0 r1 r2=>K (.tup [(.agg [(.data r0),(.data r1)]),(.int .i64 r2)]))
 | _=>False
def yzJ (as:Ls) (K:PV→Prop):Prop:=ysP yom as K
def yHo (_:yaY) (_:yea):LP:=fun _ _ _ _ =>
 False
def yzK (e:Es) (a0:yaY) (a1:yea):SE:=⟨(E e),lookS [(ycP,yfB a0),(yfq,yiB a1)],lookI [],yHo a0 a1⟩
theorem yFH (e:Es) (he:EG e):SEOk (yzK e yaK ydz):=yao ⟨(ygH e he),(ylB e he),trivial⟩ trivial he.ok
theorem yHp (e:Es) (a0 a1 p0 K):WP (yzK e a0 a1) 6 yI5 [(.data p0)] K=ysO a0 a1 p0 (fun r0 r1 r2=>K (.tup [(.agg [(.data r0),(.data r1)]),(.int .i64 r2)])):=by kernel_rfl
theorem yHq (e:Es) (he:EG e):OkF (E e) yzJ ynC:=by
 intro as K h
 unfold yzJ ysP at h
 split at h
 · exact WP_ok (yFH e he) (yag (by kernel_rfl)) (by kernel_rfl) (by kernel_rfl) (fun _=>yaa (by kernel_rfl) _) (he.num _ (by kernel_rfl)) ((yHp ..).mpr h)
 · exact h.elim
abbrev ycq:Type:=Ls→Ls→Int→Int→Int→Int→Int→(Int→Int→Int→Prop)→Prop
def ygI (a0:yo0) (p0 _:Ls) (p2 p3 p4 p5 p6:Int) (K:Int→Int→Int→Prop):Prop :=
 (asr (decide ((0:Int)≤p2))
 (asr (decide (p2<(((List.length p0):Nat):Int)))
 (asr (conf (.agg [.i .i64,.d,.d]) (List.getD p0 (p2.toNat) .nils))
 (a0 (intOfV (cellAt (List.getD p0 (p2.toNat) .nils) 0)) (datOfV (cellAt (List.getD p0 (p2.toNat) .nils) 1)) (datOfV (cellAt (List.getD p0 (p2.toNat) .nils) 2)) p3 p4 p5 p6 (fun a b c =>
 (K a b c))))))
def ybv (p0 p1:Ls) (p2 p3 p4 p5 p6:Int) (K:Int→Int→Int→Prop):Prop:=ygI yhH p0 p1 p2 p3 p4 p5 p6 K
def ygJ (w:ycq) (as:Ls) (K:PV→Prop):Prop :=
 match as with
 | [(.agg [(.data p0),(.data p1)]),(.int .i64 p2),(.agg [(.int .i64 p3),(.int .i64 p4)]),(.agg [(.int .i64 p5),(.int .i64 p6)])]=>w p0 p1 p2 p3 p4 p5 p6 (fun r0 r1 r2=>K (.tup [(.agg [(.int .i64 r0),(.int .i64 r1)]),(.int .i64 r2)]))
 | _=>False
def yon (as:Ls) (K:PV→Prop):Prop:=ygJ ybv as K
def yvR (_:yo0):LP:=fun _ _ _ _ =>
 False
def yoo (e:Es) (a0:yo0):SE:=⟨(E e),lookS [(ylQ,yqN a0)],lookI [],yvR a0⟩
theorem yuf (e:Es) (he:EG e):SEOk (yoo e yhH):=yao ⟨(yxc e he),trivial⟩ trivial he.ok
theorem yvS (e:Es) (a0 p0 p1 p2 p3 p4 p5 p6 K):WP (yoo e a0) 6 ywP [(.agg [(.data p0),(.data p1)]),(.int .i64 p2),(.agg [(.int .i64 p3),(.int .i64 p4)]),(.agg [(.int .i64 p5),(.int .i64 p6)])] K=ygI a0 p0 p1 p2 p3 p4 p5 p6 (fun r0 r1 r2=>K (.tup [(.agg [(.int .i64 r0),(.int .i64 r1)]),(.int .i64 r2)])):=by kernel_rfl
theorem yop (e:Es) (he:EG e):OkF (E e) yon ydu:=by
 intro as K h
 unfold yon ygJ at h
 split at h
 · exact WP_ok (yuf e he) (yag (by kernel_rfl)) (by kernel_rfl) (by kernel_rfl) (fun _=>yaa (by kernel_rfl) _) (he.num _ (by kernel_rfl)) ((yvS ..).mpr h)
 · exact h.elim
abbrev ybA:Type:=Ls→Ls→Int→(Bool→Prop)→Prop
def yj2 (p0 _:Ls) (p2:Int) (K:Bool→Prop):Prop :=
 (cbr (decide (p2≥(0:Int)))
 (K (decide (p2<(((List.length p0):Nat):Int))))
 (K false))
def ybg (p0 p1:Ls) (p2:Int) (K:Bool→Prop):Prop:=yj2 p0 p1 p2 K
def yfC (w:ybA) (as:Ls) (K:PV→Prop):Prop :=
 match as with
 | [(.agg [(.data p0),(.data p1)]),(.int .i64 p2)]=>w p0 p1 p2 (fun r0=>K (.bool r0))
 | _=>False
def yo1 (as:Ls) (K:PV→Prop):Prop:=yfC ybg as K
def yxk:LP:=fun _ _ _ _ =>
 False
def yo2 (e:Es):SE:=⟨(E e),lookS [],lookI [],yxk⟩
theorem yvT (e:Es) (he:EG e):SEOk (yo2 e):=yao trivial trivial he.ok
theorem yxl (e:Es) ( p0 p1 p2 K):WP (yo2 e) 6 yyA [(.agg [(.data p0),(.data p1)]),(.int .i64 p2)] K=yj2 p0 p1 p2 (fun r0=>K (.bool r0)):=by kernel_rfl
theorem yj3 (e:Es) (he:EG e):OkF (E e) yo1 ydb:=by
 intro as K h
 unfold yo1 yfC at h
 split at h
 · exact WP_ok (yvT e he) (yag (by kernel_rfl)) (by kernel_rfl) (by kernel_rfl) (fun _=>yaa (by kernel_rfl) _) (he.num _ (by kernel_rfl)) ((yxl ..).mpr h)
 · exact h.elim
abbrev yqT:Type:=Ls→Ls→Int→Int→Int→Int→Int→(Ls→Ls→Int→Int→Int→Prop)→Prop
def ysQ (a0:yaY) (a1:ybA) (a2:ycq) (a3:yea) (p0 p1:Ls) (p2 p3 p4 p5 p6:Int) (K:Ls→Ls→Int→Int→Int→Prop):Prop :=
 (a0 p0 p1 (fun c =>
 (cbr (c !=(0:Int))
 (K ([]:Ls) ([]:Ls) (0:Int) (0:Int) c)
 (a1 p0 p1 p2 (fun f =>
 (cbr (!f)
 (K ([]:Ls) ([]:Ls) (0:Int) (0:Int) (2:Int))
 (a2 p0 p1 p2 p3 p4 p5 p6 (fun a b d =>
 (cbr (d !=(0:Int))
 (K ([]:Ls) ([]:Ls) (0:Int) (0:Int) d)
 (cbr (decide ((((List.length p1):Nat):Int)≥(2000:Int)))
 (K ([]:Ls) ([]:Ls) (0:Int) (0:Int) (4:Int))
 (asr (decide ((0:Int)≤(IntKind.i64.wrap ((((List.length p1):Nat):Int)+(1:Int)))))
 (asr (decide ((((IntKind.i64.wrap ((((List.length p1):Nat):Int)+(1:Int))).toNat)+64)*(64+1)≤room))
 (a3 p0 (fun e =>
 (asr (headOk 8 p1)
 (asr (decide ((List.length (List.replicate ((IntKind.i64.wrap ((((List.length p1):Nat):Int)+(1:Int))).toNat) ((.agg [(.int .i64 (0)),(.int .u8 (0)),(.int .i64 (0)),(.int .i64 (0)),(.int .i64 (0)),(.int .i64 (0)),(.int .i64 (0)),(.int .i64 (0))]):PV)))=((IntKind.i64.wrap ((((List.length p1):Nat):Int)+(1:Int))).toNat)))
 (asr (decide (0≤((IntKind.i64.wrap ((((List.length p1):Nat):Int)+(1:Int))).toNat)))
 (cbr (List.isEmpty p1)
 (asr (decide ((List.length (List.replicate ((IntKind.i64.wrap ((((List.length p1):Nat):Int)+(1:Int))).toNat) ((.agg [(.int .i64 (0)),(.int .u8 (0)),(.int .i64 (0)),(.int .i64 (0)),(.int .i64 (0)),(.int .i64 (0)),(.int .i64 (0)),(.int .i64 (0))]):PV)))=((IntKind.i64.wrap ((((List.length p1):Nat):Int)+(1:Int))).toNat)))
 (asr (decide (0≤((IntKind.i64.wrap ((((List.length p1):Nat):Int)+(1:Int))).toNat)))
 (asr (decide (1≤((IntKind.i64.wrap ((((List.length p1):Nat):Int)+(1:Int))).toNat)))
 (asr (decide ((List.length (([(.agg [(.int .i64 p2),(.int .u8 (2:Int)),(.int .i64 p3),(.int .i64 p4),(.int .i64 p5),(.int .i64 p6),(.int .i64 a),(.int .i64 b)])]:Ls)++(List.drop 1 (List.replicate ((IntKind.i64.wrap ((((List.length p1):Nat):Int)+(1:Int))).toNat) ((.agg [(.int .i64 (0)),(.int .u8 (0)),(.int .i64 (0)),(.int .i64 (0)),(.int .i64 (0)),(.int .i64 (0)),(.int .i64 (0)),(.int .i64 (0))]):PV)))))=((IntKind.i64.wrap ((((List.length p1):Nat):Int)+(1:Int))).toNat)))
 (asr (decide (1≤((IntKind.i64.wrap ((((List.length p1):Nat):Int)+(1:Int))).toNat)))
 (K e (List.take 1 (([(.agg [(.int .i64 p2),(.int .u8 (2:Int)),(.int .i64 p3),(.int .i64 p4),(.int .i64 p5),(.int .i64 p6),(.int .i64 a),(.int .i64 b)])]:Ls)++(List.drop 1 (List.replicate ((IntKind.i64.wrap ((((List.length p1):Nat):Int)+(1:Int))).toNat) ((.agg [(.int .i64 (0)),(.int .u8 (0)),(.int .i64 (0)),(.int .i64 (0)),(.int .i64 (0)),(.int .i64 (0)),(.int .i64 (0)),(.int .i64 (0))]):PV))))) a b (0:Int)))))))
 (asr (decide ((0+(List.length p1))≤((IntKind.i64.wrap ((((List.length p1):Nat):Int)+(1:Int))).toNat)))
 (asr (decide ((List.length (p1++(List.drop (0+(List.length p1)) (List.replicate ((IntKind.i64.wrap ((((List.length p1):Nat):Int)+(1:Int))).toNat) ((.agg [(.int .i64 (0)),(.int .u8 (0)),(.int .i64 (0)),(.int .i64 (0)),(.int .i64 (0)),(.int .i64 (0)),(.int .i64 (0)),(.int .i64 (0))]):PV)))))=((IntKind.i64.wrap ((((List.length p1):Nat):Int)+(1:Int))).toNat)))
 (asr (decide ((0+(0+(List.length p1)))≤((IntKind.i64.wrap ((((List.length p1):Nat):Int)+(1:Int))).toNat)))
 (asr (decide (((0+(List.length p1))+1)≤((IntKind.i64.wrap ((((List.length p1):Nat):Int)+(1:Int))).toNat)))
 (asr (decide ((List.length ((List.take (0+(0+(List.length p1))) (p1++(List.drop (0+(List.length p1)) (List.replicate ((IntKind.i64.wrap ((((List.length p1):Nat):Int)+(1:Int))).toNat) ((.agg [(.int .i64 (0)),(.int .u8 (0)),(.int .i64 (0)),(.int .i64 (0)),(.int .i64 (0)),(.int .i64 (0)),(.int .i64 (0)),(.int .i64 (0))]):PV)))))++(([(.agg [(.int .i64 p2),(.int .u8 (2:Int)),(.int .i64 p3),(.int .i64 p4),(.int .i64 p5),(.int .i64 p6),(.int .i64 a),(.int .i64 b)])]:Ls)++(List.drop ((0+(0+(List.length p1)))+1) (p1++(List.drop (0+(List.length p1)) (List.replicate ((IntKind.i64.wrap ((((List.length p1):Nat):Int)+(1:Int))).toNat) ((.agg [(.int .i64 (0)),(.int .u8 (0)),(.int .i64 (0)),(.int .i64 (0)),(.int .i64 (0)),(.int .i64 (0)),(.int .i64 (0)),(.int .i64 (0))]):PV))))))))=((IntKind.i64.wrap ((((List.length p1):Nat):Int)+(1:Int))).toNat)))
 (asr (decide ((0+((0+(List.length p1))+1))≤((IntKind.i64.wrap ((((List.length p1):Nat):Int)+(1:Int))).toNat)))
 (K e (List.take ((0+(List.length p1))+1) ((List.take (0+(0+(List.length p1))) (p1++(List.drop (0+(List.length p1)) (List.replicate ((IntKind.i64.wrap ((((List.length p1):Nat):Int)+(1:Int))).toNat) ((.agg [(.int .i64 (0)),(.int .u8 (0)),(.int .i64 (0)),(.int .i64 (0)),(.int .i64 (0)),(.int .i64 (0)),(.int .i64 (0)),(.int .i64 (0))]):PV)))))++(([(.agg [(.int .i64 p2),(.int .u8 (2:Int)),(.int .i64 p3),(.int .i64 p4),(.int .i64 p5),(.int .i64 p6),(.int .i64 a),(.int .i64 b)])]:Ls)++(List.drop ((0+(0+(List.length p1)))+1) (p1++(List.drop (0+(List.length p1)) (List.replicate ((IntKind.i64.wrap ((((List.length p1):Nat):Int)+(1:Int))).toNat) ((.agg [(.int .i64 (0)),(.int .u8 (0)),(.int .i64 (0)),(.int .i64 (0)),(.int .i64 (0)),(.int .i64 (0)),(.int .i64 (0)),(.int .i64 (0))]):PV)))))))) a b (0:Int))))))))))))))))))))))))))
def yhM (p0 p1:Ls) (p2 p3 p4 p5 p6:Int) (K:Ls→Ls→Int→Int→Int→Prop):Prop:=ysQ yaK ybg ybv ydz p0 p1 p2 p3 p4 p5 p6 K
def ysR (w:yqT) (as:Ls) (K:PV→Prop):Prop :=
 match as with
 | [(.agg [(.data p0),(.data p1)]),(.int .i64 p2),(.agg [(.int .i64 p3),(.int .i64 p4)]),(.agg [(.int .i64 p5),(.int .i64 p6)])]=>w p0 p1 p2 p3 p4 p5 p6 (fun r0 r1 r2 r3 r4=>K (.tup [(.agg [(.data r0),(.data r1)]),(.agg [(.int .i64 r2),(.int .i64 r3)]),(.int .i64 r4)]))
 | _=>False
def yzL (as:Ls) (K:PV→Prop):Prop:=ysR yhM as K
def yHr (_:yaY) (_:ybA) (_:ycq) (_:yea):LP:=fun _ _ _ _ =>
 False
def yzM (e:Es) (a0:yaY) (a1:ybA) (a2:ycq) (a3:yea):SE:=⟨(E e),lookS [(ycP,yfB a0),(ydb,yfC a1),(ydu,ygJ a2),(yfq,yiB a3)],lookI [(yf7,yp9)],yHr a0 a1 a2 a3⟩
theorem yFI (e:Es) (he:EG e):SEOk (yzM e yaK ybg ybv ydz):=yao ⟨(ygH e he),(yj3 e he),(yop e he),(ylB e he),trivial⟩ ⟨⟨by kernel_rfl,by kernel_rfl,rfl,fun as=>yaa (by kernel_rfl) as,he.num _ (by kernel_rfl),(yag (by kernel_rfl))⟩,trivial⟩ he.ok
theorem yHs (e:Es) (a0 a1 a2 a3 p0 p1 p2 p3 p4 p5 p6 K):WP (yzM e a0 a1 a2 a3) 6 yI6 [(.agg [(.data p0),(.data p1)]),(.int .i64 p2),(.agg [(.int .i64 p3),(.int .i64 p4)]),(.agg [(.int .i64 p5),(.int .i64 p6)])] K=ysQ a0 a1 a2 a3 p0 p1 p2 p3 p4 p5 p6 (fun r0 r1 r2 r3 r4=>K (.tup [(.agg [(.data r0),(.data r1)]),(.agg [(.int .i64 r2),(.int .i64 r3)]),(.int .i64 r4)])):=by kernel_rfl
theorem yzN (e:Es) (he:EG e):OkF (E e) yzL ynD:=by
 intro as K h
 unfold yzL ysR at h
 split at h
 · exact WP_ok (yFI e he) (yag (by kernel_rfl)) (by kernel_rfl) (by kernel_rfl) (fun _=>yaa (by kernel_rfl) _) (he.num _ (by kernel_rfl)) ((yHs ..).mpr h)
 · exact h.elim
abbrev ycb:Type:=Ls→Ls→Int→Int→Int→Int→Int→(Int→Int→Int→Prop)→Prop
def yf1 (a0:yd9) (p0 _:Ls) (p2 p3 p4 p5 p6:Int) (K:Int→Int→Int→Prop):Prop :=
 (asr (decide ((0:Int)≤p2))
 (asr (decide (p2<(((List.length p0):Nat):Int)))
 (asr (conf (.agg [.i .i64,.d,.d]) (List.getD p0 (p2.toNat) .nils))
 (a0 (intOfV (cellAt (List.getD p0 (p2.toNat) .nils) 0)) (datOfV (cellAt (List.getD p0 (p2.toNat) .nils) 1)) (datOfV (cellAt (List.getD p0 (p2.toNat) .nils) 2)) p3 p4 p5 p6 (fun a b c =>
 (K a b c))))))
def ybj (p0 p1:Ls) (p2 p3 p4 p5 p6:Int) (K:Int→Int→Int→Prop):Prop:=yf1 ybn p0 p1 p2 p3 p4 p5 p6 K
def yf2 (w:ycb) (as:Ls) (K:PV→Prop):Prop :=
 match as with
 | [(.agg [(.data p0),(.data p1)]),(.int .i64 p2),(.agg [(.int .i64 p3),(.int .i64 p4)]),(.agg [(.int .i64 p5),(.int .i64 p6)])]=>w p0 p1 p2 p3 p4 p5 p6 (fun r0 r1 r2=>K (.tup [(.agg [(.int .i64 r0),(.int .i64 r1)]),(.int .i64 r2)]))
 | _=>False
def ymS (as:Ls) (K:PV→Prop):Prop:=yf2 ybj as K
def yug (_:yd9):LP:=fun _ _ _ _ =>
 False
def ymT (e:Es) (a0:yd9):SE:=⟨(E e),lookS [(yft,yiA a0)],lookI [],yug a0⟩
theorem ysS (e:Es) (he:EG e):SEOk (ymT e ybn):=yao ⟨(ylw e he),trivial⟩ trivial he.ok
theorem yuh (e:Es) (a0 p0 p1 p2 p3 p4 p5 p6 K):WP (ymT e a0) 6 yvw [(.agg [(.data p0),(.data p1)]),(.int .i64 p2),(.agg [(.int .i64 p3),(.int .i64 p4)]),(.agg [(.int .i64 p5),(.int .i64 p6)])] K=yf1 a0 p0 p1 p2 p3 p4 p5 p6 (fun r0 r1 r2=>K (.tup [(.agg [(.int .i64 r0),(.int .i64 r1)]),(.int .i64 r2)])):=by kernel_rfl
theorem ymU (e:Es) (he:EG e):OkF (E e) ymS yc6:=by
 intro as K h
 unfold ymS yf2 at h
 split at h
 · exact WP_ok (ysS e he) (yag (by kernel_rfl)) (by kernel_rfl) (by kernel_rfl) (fun _=>yaa (by kernel_rfl) _) (he.num _ (by kernel_rfl)) ((yuh ..).mpr h)
 · exact h.elim
abbrev yo3:Type:=Ls→Ls→Int→Int→Int→Int→Int→(Ls→Ls→Int→Int→Int→Prop)→Prop
def yqU (a0:yaY) (a1:ybA) (a2:ycb) (a3:yea) (p0 p1:Ls) (p2 p3 p4 p5 p6:Int) (K:Ls→Ls→Int→Int→Int→Prop):Prop :=
 (a0 p0 p1 (fun c =>
 (cbr (c !=(0:Int))
 (K ([]:Ls) ([]:Ls) (0:Int) (0:Int) c)
 (a1 p0 p1 p2 (fun f =>
 (cbr (!f)
 (K ([]:Ls) ([]:Ls) (0:Int) (0:Int) (2:Int))
 (a2 p0 p1 p2 p3 p4 p5 p6 (fun a b d =>
 (cbr (d !=(0:Int))
 (K ([]:Ls) ([]:Ls) (0:Int) (0:Int) d)
 (cbr (decide ((((List.length p1):Nat):Int)≥(2000:Int)))
 (K ([]:Ls) ([]:Ls) (0:Int) (0:Int) (4:Int))
 (asr (decide ((0:Int)≤(IntKind.i64.wrap ((((List.length p1):Nat):Int)+(1:Int)))))
 (asr (decide ((((IntKind.i64.wrap ((((List.length p1):Nat):Int)+(1:Int))).toNat)+64)*(64+1)≤room))
 (a3 p0 (fun e =>
 (asr (headOk 8 p1)
 (asr (decide ((List.length (List.replicate ((IntKind.i64.wrap ((((List.length p1):Nat):Int)+(1:Int))).toNat) ((.agg [(.int .i64 (0)),(.int .u8 (0)),(.int .i64 (0)),(.int .i64 (0)),(.int .i64 (0)),(.int .i64 (0)),(.int .i64 (0)),(.int .i64 (0))]):PV)))=((IntKind.i64.wrap ((((List.length p1):Nat):Int)+(1:Int))).toNat)))
 (asr (decide (0≤((IntKind.i64.wrap ((((List.length p1):Nat):Int)+(1:Int))).toNat)))
 (cbr (List.isEmpty p1)
 (asr (decide ((List.length (List.replicate ((IntKind.i64.wrap ((((List.length p1):Nat):Int)+(1:Int))).toNat) ((.agg [(.int .i64 (0)),(.int .u8 (0)),(.int .i64 (0)),(.int .i64 (0)),(.int .i64 (0)),(.int .i64 (0)),(.int .i64 (0)),(.int .i64 (0))]):PV)))=((IntKind.i64.wrap ((((List.length p1):Nat):Int)+(1:Int))).toNat)))
 (asr (decide (0≤((IntKind.i64.wrap ((((List.length p1):Nat):Int)+(1:Int))).toNat)))
 (asr (decide (1≤((IntKind.i64.wrap ((((List.length p1):Nat):Int)+(1:Int))).toNat)))
 (asr (decide ((List.length (([(.agg [(.int .i64 p2),(.int .u8 (1:Int)),(.int .i64 p3),(.int .i64 p4),(.int .i64 p5),(.int .i64 p6),(.int .i64 a),(.int .i64 b)])]:Ls)++(List.drop 1 (List.replicate ((IntKind.i64.wrap ((((List.length p1):Nat):Int)+(1:Int))).toNat) ((.agg [(.int .i64 (0)),(.int .u8 (0)),(.int .i64 (0)),(.int .i64 (0)),(.int .i64 (0)),(.int .i64 (0)),(.int .i64 (0)),(.int .i64 (0))]):PV)))))=((IntKind.i64.wrap ((((List.length p1):Nat):Int)+(1:Int))).toNat)))
 (asr (decide (1≤((IntKind.i64.wrap ((((List.length p1):Nat):Int)+(1:Int))).toNat)))
 (K e (List.take 1 (([(.agg [(.int .i64 p2),(.int .u8 (1:Int)),(.int .i64 p3),(.int .i64 p4),(.int .i64 p5),(.int .i64 p6),(.int .i64 a),(.int .i64 b)])]:Ls)++(List.drop 1 (List.replicate ((IntKind.i64.wrap ((((List.length p1):Nat):Int)+(1:Int))).toNat) ((.agg [(.int .i64 (0)),(.int .u8 (0)),(.int .i64 (0)),(.int .i64 (0)),(.int .i64 (0)),(.int .i64 (0)),(.int .i64 (0)),(.int .i64 (0))]):PV))))) a b (0:Int)))))))
 (asr (decide ((0+(List.length p1))≤((IntKind.i64.wrap ((((List.length p1):Nat):Int)+(1:Int))).toNat)))
 (asr (decide ((List.length (p1++(List.drop (0+(List.length p1)) (List.replicate ((IntKind.i64.wrap ((((List.length p1):Nat):Int)+(1:Int))).toNat) ((.agg [(.int .i64 (0)),(.int .u8 (0)),(.int .i64 (0)),(.int .i64 (0)),(.int .i64 (0)),(.int .i64 (0)),(.int .i64 (0)),(.int .i64 (0))]):PV)))))=((IntKind.i64.wrap ((((List.length p1):Nat):Int)+(1:Int))).toNat)))
 (asr (decide ((0+(0+(List.length p1)))≤((IntKind.i64.wrap ((((List.length p1):Nat):Int)+(1:Int))).toNat)))
 (asr (decide (((0+(List.length p1))+1)≤((IntKind.i64.wrap ((((List.length p1):Nat):Int)+(1:Int))).toNat)))
 (asr (decide ((List.length ((List.take (0+(0+(List.length p1))) (p1++(List.drop (0+(List.length p1)) (List.replicate ((IntKind.i64.wrap ((((List.length p1):Nat):Int)+(1:Int))).toNat) ((.agg [(.int .i64 (0)),(.int .u8 (0)),(.int .i64 (0)),(.int .i64 (0)),(.int .i64 (0)),(.int .i64 (0)),(.int .i64 (0)),(.int .i64 (0))]):PV)))))++(([(.agg [(.int .i64 p2),(.int .u8 (1:Int)),(.int .i64 p3),(.int .i64 p4),(.int .i64 p5),(.int .i64 p6),(.int .i64 a),(.int .i64 b)])]:Ls)++(List.drop ((0+(0+(List.length p1)))+1) (p1++(List.drop (0+(List.length p1)) (List.replicate ((IntKind.i64.wrap ((((List.length p1):Nat):Int)+(1:Int))).toNat) ((.agg [(.int .i64 (0)),(.int .u8 (0)),(.int .i64 (0)),(.int .i64 (0)),(.int .i64 (0)),(.int .i64 (0)),(.int .i64 (0)),(.int .i64 (0))]):PV))))))))=((IntKind.i64.wrap ((((List.length p1):Nat):Int)+(1:Int))).toNat)))
 (asr (decide ((0+((0+(List.length p1))+1))≤((IntKind.i64.wrap ((((List.length p1):Nat):Int)+(1:Int))).toNat)))
 (K e (List.take ((0+(List.length p1))+1) ((List.take (0+(0+(List.length p1))) (p1++(List.drop (0+(List.length p1)) (List.replicate ((IntKind.i64.wrap ((((List.length p1):Nat):Int)+(1:Int))).toNat) ((.agg [(.int .i64 (0)),(.int .u8 (0)),(.int .i64 (0)),(.int .i64 (0)),(.int .i64 (0)),(.int .i64 (0)),(.int .i64 (0)),(.int .i64 (0))]):PV)))))++(([(.agg [(.int .i64 p2),(.int .u8 (1:Int)),(.int .i64 p3),(.int .i64 p4),(.int .i64 p5),(.int .i64 p6),(.int .i64 a),(.int .i64 b)])]:Ls)++(List.drop ((0+(0+(List.length p1)))+1) (p1++(List.drop (0+(List.length p1)) (List.replicate ((IntKind.i64.wrap ((((List.length p1):Nat):Int)+(1:Int))).toNat) ((.agg [(.int .i64 (0)),(.int .u8 (0)),(.int .i64 (0)),(.int .i64 (0)),(.int .i64 (0)),(.int .i64 (0)),(.int .i64 (0)),(.int .i64 (0))]):PV)))))))) a b (0:Int))))))))))))))))))))))))))
def yhN (p0 p1:Ls) (p2 p3 p4 p5 p6:Int) (K:Ls→Ls→Int→Int→Int→Prop):Prop:=yqU yaK ybg ybj ydz p0 p1 p2 p3 p4 p5 p6 K
def yqV (w:yo3) (as:Ls) (K:PV→Prop):Prop :=
 match as with
 | [(.agg [(.data p0),(.data p1)]),(.int .i64 p2),(.agg [(.int .i64 p3),(.int .i64 p4)]),(.agg [(.int .i64 p5),(.int .i64 p6)])]=>w p0 p1 p2 p3 p4 p5 p6 (fun r0 r1 r2 r3 r4=>K (.tup [(.agg [(.data r0),(.data r1)]),(.agg [(.int .i64 r2),(.int .i64 r3)]),(.int .i64 r4)]))
 | _=>False
def yxm (as:Ls) (K:PV→Prop):Prop:=yqV yhN as K
def yFJ (_:yaY) (_:ybA) (_:ycb) (_:yea):LP:=fun _ _ _ _ =>
 False
def yxn (e:Es) (a0:yaY) (a1:ybA) (a2:ycb) (a3:yea):SE:=⟨(E e),lookS [(ycP,yfB a0),(ydb,yfC a1),(yc6,yf2 a2),(yfq,yiB a3)],lookI [(yf7,yp9)],yFJ a0 a1 a2 a3⟩
theorem yDG (e:Es) (he:EG e):SEOk (yxn e yaK ybg ybj ydz):=yao ⟨(ygH e he),(yj3 e he),(ymU e he),(ylB e he),trivial⟩ ⟨⟨by kernel_rfl,by kernel_rfl,rfl,fun as=>yaa (by kernel_rfl) as,he.num _ (by kernel_rfl),(yag (by kernel_rfl))⟩,trivial⟩ he.ok
theorem yFK (e:Es) (a0 a1 a2 a3 p0 p1 p2 p3 p4 p5 p6 K):WP (yxn e a0 a1 a2 a3) 6 yHe [(.agg [(.data p0),(.data p1)]),(.int .i64 p2),(.agg [(.int .i64 p3),(.int .i64 p4)]),(.agg [(.int .i64 p5),(.int .i64 p6)])] K=yqU a0 a1 a2 a3 p0 p1 p2 p3 p4 p5 p6 (fun r0 r1 r2 r3 r4=>K (.tup [(.agg [(.data r0),(.data r1)]),(.agg [(.int .i64 r2),(.int .i64 r3)]),(.int .i64 r4)])):=by kernel_rfl
theorem yxo (e:Es) (he:EG e):OkF (E e) yxm ylR:=by
 intro as K h
 unfold yxm yqV at h
 split at h
 · exact WP_ok (yDG e he) (yag (by kernel_rfl)) (by kernel_rfl) (by kernel_rfl) (fun _=>yaa (by kernel_rfl) _) (he.num _ (by kernel_rfl)) ((yFK ..).mpr h)
 · exact h.elim
abbrev ym3:Type:=Ls→Ls→(Int→Int→Prop)→Prop
def ydi (a0:yaY) (a1:ybA) (a2:ycq) (a3:ycb) (x0:Ls→Ls→Ls→Ls→Int→Int→Bool→Prop) (x1:Int→Int→Prop):Nat→Ls→Ls→Ls→Ls→Int→Int→Prop
 | 0,_,_,_,_,_,_=>False
 | n+1,l0,l1,l2,l3,i4,i5 =>
 (cbr (decide (i5<i4))
 (jn (fun d =>
 (asr (decide ((0:Int)≤i5))
 (asr (decide (i5<(((List.length l3):Nat):Int)))
 (lt (List.getD l3 (i5.toNat) .nils) (fun a =>
 (asr (conf (.agg [.i .i64,.i .u8,.i .i64,.i .i64,.i .i64,.i .i64,.i .i64,.i .i64]) a)
 (cbr ((intOfV (cellAt a 1)) ==(2:Int))
 (jn (fun (b:Bool→Prop) =>
 (a1 l1 l2 (intOfV (cellAt a 0)) (fun g =>
 (cbr (!g)
 (b true)
 (cbr (decide ((intOfV (cellAt a 1))<(1:Int)))
 (b true)
 (b (decide ((intOfV (cellAt a 1))>(2:Int)))))))))
 (fun h=>(cbr h
 (x1 i5 (0:Int))
 (a2 l1 l2 (intOfV (cellAt a 0)) (intOfV (cellAt a 2)) (intOfV (cellAt a 3)) (intOfV (cellAt a 4)) (intOfV (cellAt a 5)) (fun j k l =>
 (jn (fun (e:Bool→Prop) =>
 (cbr (l !=(0:Int))
 (e true)
 (e (!((j ==(intOfV (cellAt a 6)))&&((k ==(intOfV (cellAt a 7)))&&true))))))
 (fun m=>(cbr m
 (x1 i5 (0:Int))
 d))))))))
 (jn (fun (c:Bool→Prop) =>
 (a1 l1 l2 (intOfV (cellAt a 0)) (fun o =>
 (cbr (!o)
 (c true)
 (cbr (decide ((intOfV (cellAt a 1))<(1:Int)))
 (c true)
 (c (decide ((intOfV (cellAt a 1))>(2:Int)))))))))
 (fun p=>(cbr p
 (x1 i5 (0:Int))
 (a3 l1 l2 (intOfV (cellAt a 0)) (intOfV (cellAt a 2)) (intOfV (cellAt a 3)) (intOfV (cellAt a 4)) (intOfV (cellAt a 5)) (fun q r s =>
 (jn (fun (f:Bool→Prop) =>
 (cbr (s !=(0:Int))
 (f true)
 (f (!((q ==(intOfV (cellAt a 6)))&&((r ==(intOfV (cellAt a 7)))&&true))))))
 (fun t=>(cbr t
 (x1 i5 (0:Int))
 d)))))))))))))))
 (lt (IntKind.i64.wrap (i5+(1:Int))) (fun u =>
 (ydi a0 a1 a2 a3 x0 x1 n l0 l1 l2 l3 i4 u))))
 (x0 l0 l1 l2 l3 i4 i5 false))
def ypF (a0:yaY) (a1:ybA) (a2:ycq) (a3:ycb) (p0 p1:Ls) (K:Int→Int→Prop):Prop :=
 (a0 p0 p1 (fun a =>
 (cbr (a !=(0:Int))
 (K (0:Int) a)
 (∃ n:Nat,ydi a0 a1 a2 a3
 (fun b _ _ _ _ _ _=>(K (((List.length b):Nat):Int) (0:Int)))
 (fun c d=>(K c d))
 n p1 p0 p1 p1 (((List.length p1):Nat):Int) (0:Int)))))
def ygK (p0 p1:Ls) (K:Int→Int→Prop):Prop:=ypF yaK ybg ybv ybj p0 p1 K
def ypG (w:ym3) (as:Ls) (K:PV→Prop):Prop :=
 match as with
 | [(.data p0),(.data p1)]=>w p0 p1 (fun r0 r1=>K (.tup [(.int .i64 r0),(.int .i64 r1)]))
 | _=>False
def yu1 (as:Ls) (K:PV→Prop):Prop:=ypG ygK as K
def ygh (F:Frm) (H:Hp) (A0:Ls→Ls→Ls→Ls→Int→Int→Prop):Prop :=
 match F,H with
 | [(1,.v (.data l0)),(6,.box (.agg [(.data l1),(.data l2)])),(25,.v (.data l3)),(26,.v (.int .i64 i4)),(27,.v (.int .i64 i5))],[]=>(A0 l0 l1 l2 l3 i4 i5)
 | _,_=>False
def yk6 (Q:Ex→Frm→Hp→Prop):Ls→Ls→Ls→Ls→Int→Int→Bool→Prop:=(fun l0 l1 l2 l3 i4 i5 b6=>Q (.exit 0) [(1,.v (.data l0)),(6,.box (.agg [(.data l1),(.data l2)])),(25,.v (.data l3)),(26,.v (.int .i64 i4)),(27,.v (.int .i64 i5)),(28,.v (.bool b6))] [])
def yk7 (Q:Ex→Frm→Hp→Prop):Int→Int→Prop:=(fun i0 i1=>Q .ret [(4,.v (.int .i64 i0)),(5,.v (.int .i64 i1))] [])
def yj5 (a0:yaY) (a1:ybA) (a2:ycq) (a3:ycb) (Q:Ex→Frm→Hp→Prop) (n:Nat) (F:Frm) (H:Hp):Prop:=ygh F H (fun l0 l1 l2 l3 i4 i5=>ydi a0 a1 a2 a3 (yk6 Q) (yk7 Q) n l0 l1 l2 l3 i4 i5)
def ylC (a0:yaY) (a1:ybA) (a2:ycq) (a3:ycb):LP:=fun id F H Q =>
 bif Nat.beq id 47732200 then ygh F H (fun l0 l1 l2 l3 i4 i5=>∃ n:Nat,ydi a0 a1 a2 a3 (yk6 Q) (yk7 Q) n l0 l1 l2 l3 i4 i5) else
 False
def ypH (e:Es) (a0:yaY) (a1:ybA) (a2:ycq) (a3:ycb):SE:=⟨(E e),lookS [(ycP,yfB a0),(ydb,yfC a1),(ydu,ygJ a2),(yc6,yf2 a3)],lookI [],ylC a0 a1 a2 a3⟩
theorem ysT (e:Es) (he:EG e):SEOk (ypH e yaK ybg ybv ybj):=yao ⟨(ygH e he),(yj3 e he),(yop e he),(ymU e he),trivial⟩ trivial he.ok
theorem yui (e:Es) (a0 a1 a2 a3 Q n l0 l1 l2 l3 i4 i5):WC (E e) (callW (ypH e a0 a1 a2 a3) 5) (ylC a0 a1 a2 a3) yn4 [(1,.v (.data l0)),(6,.box (.agg [(.data l1),(.data l2)])),(25,.v (.data l3)),(26,.v (.int .i64 i4)),(27,.v (.int .i64 i5))] [] (fun x F' H'=>match x with | .norm=>yj5 a0 a1 a2 a3 Q n F' H' | .exit i=>Q (.exit i) F' H' | .ret=>Q .ret F' H')=ydi a0 a1 a2 a3 (yk6 Q) (yk7 Q) (n+1) l0 l1 l2 l3 i4 i5:=by kernel_rfl
theorem yyY (e:Es) (_:EG e):LpOk (E e) (ylC yaK ybg ybv ybj) yn4:=(yag (by kernel_rfl))
theorem yxp (e:Es) (he:EG e):∀ F H Q,ylC yaK ybg ybv ybj 47732200 F H Q→LoopT (E e) yn4 F H Q:=by
 intro F H Q h
 have go:=LoopT.intro (yaF (ysT e he) 5) (yyY e he) (yj5 yaK ybg ybv ybj Q) (by
   intro F H h
   unfold yj5 ygh at h
   split at h
   · exact h
   · exact h) (by
   intro n F H h
   unfold yj5 ygh at h
   split at h
   · exact (yui ..).mpr h
   · exact h.elim)
 have h:ygh F H _:=h
 unfold ygh at h
 split at h
 · obtain ⟨n,h⟩:=h;exact go n _ _ h
 · exact h.elim
theorem yDH (e:Es) (a0 a1 a2 a3 p0 p1 K):WP (ypH e a0 a1 a2 a3) 6 yFq [(.data p0),(.data p1)] K=ypF a0 a1 a2 a3 p0 p1 (fun r0 r1=>K (.tup [(.int .i64 r0),(.int .i64 r1)])):=by kernel_rfl
theorem yu2 (e:Es) (he:EG e):OkF (E e) yu1 yjH:=by
 intro as K h
 unfold yu1 ypG at h
 split at h
 · exact WP_ok (ysT e he) (ybe (l:=[(47732200,yn4)]) ⟨yxp e he,trivial⟩ (by kernel_rfl)) (by kernel_rfl) (by kernel_rfl) (fun _=>yaa (by kernel_rfl) _) (he.num _ (by kernel_rfl)) ((yDH ..).mpr h)
 · exact h.elim
abbrev yo4:Type:=Ls→Int→(Int→Prop)→Prop
def ydL (x0:Int→Int→Ls→Int→Int→Bool→Prop):Nat→Int→Int→Ls→Int→Int→Prop
 | 0,_,_,_,_,_=>False
 | n+1,i0,i1,l2,i3,i4 =>
 (cbr (decide (i4<i3))
 (jn (fun (a:Int→Prop) =>
 (asr (decide ((0:Int)≤i4))
 (asr (decide (i4<(((List.length l2):Nat):Int)))
 (lt (List.getD l2 (i4.toNat) .nils) (fun b =>
 (asr (conf (.agg [.i .i64,.i .u8,.i .i64,.i .i64,.i .i64,.i .i64,.i .i64,.i .i64]) b)
 (cbr ((intOfV (cellAt b 0)) == i0)
 (lt (IntKind.i64.wrap (i1+(1:Int))) (fun c =>
 (a c)))
 (a i1))))))))
 (fun d=>(lt (IntKind.i64.wrap (i4+(1:Int))) (fun e =>
 (ydL x0 n i0 d l2 i3 e)))))
 (x0 i0 i1 l2 i3 i4 false))
def yqW (p0:Ls) (p1:Int) (K:Int→Prop):Prop :=
 (cbr (p1 ==(-1:Int))
 (K (((List.length p0):Nat):Int))
 (∃ n:Nat,ydL
 (fun _ a _ _ _ _=>(K a))
 n p1 (0:Int) p0 (((List.length p0):Nat):Int) (0:Int)))
def yhO (p0:Ls) (p1:Int) (K:Int→Prop):Prop:=yqW p0 p1 K
def yqX (w:yo4) (as:Ls) (K:PV→Prop):Prop :=
 match as with
 | [(.data p0),(.int .i64 p1)]=>w p0 p1 (fun r0=>K (.int .i64 r0))
 | _=>False
def yxq (as:Ls) (K:PV→Prop):Prop:=yqX yhO as K
def yhc (F:Frm) (H:Hp) (A0:Int→Int→Ls→Int→Int→Prop):Prop :=
 match F,H with
 | [(1,.v (.int .i64 i0)),(5,.v (.int .i64 i1)),(12,.v (.data l2)),(13,.v (.int .i64 i3)),(14,.v (.int .i64 i4))],[]=>(A0 i0 i1 l2 i3 i4)
 | _,_=>False
def ymx (Q:Ex→Frm→Hp→Prop):Int→Int→Ls→Int→Int→Bool→Prop:=(fun i0 i1 l2 i3 i4 b5=>Q (.exit 0) [(1,.v (.int .i64 i0)),(5,.v (.int .i64 i1)),(12,.v (.data l2)),(13,.v (.int .i64 i3)),(14,.v (.int .i64 i4)),(15,.v (.bool b5))] [])
def ylD (Q:Ex→Frm→Hp→Prop) (n:Nat) (F:Frm) (H:Hp):Prop:=yhc F H (fun i0 i1 l2 i3 i4=>ydL (ymx Q) n i0 i1 l2 i3 i4)
def ym4:LP:=fun id F H Q =>
 bif Nat.beq id 13451100 then yhc F H (fun i0 i1 l2 i3 i4=>∃ n:Nat,ydL (ymx Q) n i0 i1 l2 i3 i4) else
 False
def yqY (e:Es):SE:=⟨(E e),lookS [],lookI [],ym4⟩
theorem yu3 (e:Es) (he:EG e):SEOk (yqY e):=yao trivial trivial he.ok
theorem yvU (e:Es) ( Q n i0 i1 l2 i3 i4):WC (E e) (callW (yqY e) 5) (ym4) yn5 [(1,.v (.int .i64 i0)),(5,.v (.int .i64 i1)),(12,.v (.data l2)),(13,.v (.int .i64 i3)),(14,.v (.int .i64 i4))] [] (fun x F' H'=>match x with | .norm=>ylD Q n F' H' | .exit i=>Q (.exit i) F' H' | .ret=>Q .ret F' H')=ydL (ymx Q) (n+1) i0 i1 l2 i3 i4:=by kernel_rfl
theorem yAr (e:Es) (_:EG e):LpOk (E e) (ym4) yn5:=(yag (by kernel_rfl))
theorem yyZ (e:Es) (he:EG e):∀ F H Q,ym4 13451100 F H Q→LoopT (E e) yn5 F H Q:=by
 intro F H Q h
 have go:=LoopT.intro (yaF (yu3 e he) 5) (yAr e he) (ylD Q) (by
   intro F H h
   unfold ylD yhc at h
   split at h
   · exact h
   · exact h) (by
   intro n F H h
   unfold ylD yhc at h
   split at h
   · exact (yvU ..).mpr h
   · exact h.elim)
 have h:yhc F H _:=h
 unfold yhc at h
 split at h
 · obtain ⟨n,h⟩:=h;exact go n _ _ h
 · exact h.elim
theorem yFL (e:Es) ( p0 p1 K):WP (yqY e) 6 yHj [(.data p0),(.int .i64 p1)] K=yqW p0 p1 (fun r0=>K (.int .i64 r0)):=by kernel_rfl
theorem yxr (e:Es) (he:EG e):OkF (E e) yxq yjo:=by
 intro as K h
 unfold yxq yqX at h
 split at h
 · exact WP_ok (yu3 e he) (ybe (l:=[(13451100,yn5)]) ⟨yyZ e he,trivial⟩ (by kernel_rfl)) (by kernel_rfl) (by kernel_rfl) (fun _=>yaa (by kernel_rfl) _) (he.num _ (by kernel_rfl)) ((yFL ..).mpr h)
 · exact h.elim
end Go.Pf.Vc
namespace Go.Pf.Vc
open Go Go.Pf
set_option linter.unusedVariables false
theorem yDI (p0:Ls) (p1:Ls) (r0:Int) (h:∀ K:Int→Prop,K r0→yaK p0 p1 K) (K:Int→Prop):yaK p0 p1 K=K r0 :=
 propext ⟨fun k=>detC (ygH [] ya6) (as:=[(.agg [(.data p0),(.data p1)])]) (x:=(.int .i64 r0)) (fun K' k'=>h (fun r0=>K' (.int .i64 r0)) k') (K:=fun x=>match x with | (.int .i64 r0)=>K r0 | _=>False) k,h K⟩
theorem yB0 (p0:Ls) (r0:Ls) (h:∀ K:Ls→Prop,K r0→ydz p0 K) (K:Ls→Prop):ydz p0 K=K r0 :=
 propext ⟨fun k=>detC (ylB [] ya6) (as:=[(.data p0)]) (x:=(.data r0)) (fun K' k'=>h (fun r0=>K' (.data r0)) k') (K:=fun x=>match x with | (.data r0)=>K r0 | _=>False) k,h K⟩
theorem yFM (p0:Ls) (p1:Ls) (p2:Int) (p3:Int) (p4:Int) (p5:Int) (p6:Int) (r0:Ls) (r1:Ls) (r2:Int) (r3:Int) (r4:Int) (h:∀ K:Ls→Ls→Int→Int→Int→Prop,K r0 r1 r2 r3 r4→yhM p0 p1 p2 p3 p4 p5 p6 K) (K:Ls→Ls→Int→Int→Int→Prop):yhM p0 p1 p2 p3 p4 p5 p6 K=K r0 r1 r2 r3 r4 :=
 propext ⟨fun k=>detC (yzN [] ya6) (as:=[(.agg [(.data p0),(.data p1)]),(.int .i64 p2),(.agg [(.int .i64 p3),(.int .i64 p4)]),(.agg [(.int .i64 p5),(.int .i64 p6)])]) (x:=(.tup [(.agg [(.data r0),(.data r1)]),(.agg [(.int .i64 r2),(.int .i64 r3)]),(.int .i64 r4)])) (fun K' k'=>h (fun r0 r1 r2 r3 r4=>K' (.tup [(.agg [(.data r0),(.data r1)]),(.agg [(.int .i64 r2),(.int .i64 r3)]),(.int .i64 r4)])) k') (K:=fun x=>match x with | (.tup [(.agg [(.data r0),(.data r1)]),(.agg [(.int .i64 r2),(.int .i64 r3)]),(.int .i64 r4)])=>K r0 r1 r2 r3 r4 | _=>False) k,h K⟩
theorem yDJ (p0:Ls) (p1:Ls) (p2:Int) (p3:Int) (p4:Int) (p5:Int) (p6:Int) (r0:Ls) (r1:Ls) (r2:Int) (r3:Int) (r4:Int) (h:∀ K:Ls→Ls→Int→Int→Int→Prop,K r0 r1 r2 r3 r4→yhN p0 p1 p2 p3 p4 p5 p6 K) (K:Ls→Ls→Int→Int→Int→Prop):yhN p0 p1 p2 p3 p4 p5 p6 K=K r0 r1 r2 r3 r4 :=
 propext ⟨fun k=>detC (yxo [] ya6) (as:=[(.agg [(.data p0),(.data p1)]),(.int .i64 p2),(.agg [(.int .i64 p3),(.int .i64 p4)]),(.agg [(.int .i64 p5),(.int .i64 p6)])]) (x:=(.tup [(.agg [(.data r0),(.data r1)]),(.agg [(.int .i64 r2),(.int .i64 r3)]),(.int .i64 r4)])) (fun K' k'=>h (fun r0 r1 r2 r3 r4=>K' (.tup [(.agg [(.data r0),(.data r1)]),(.agg [(.int .i64 r2),(.int .i64 r3)]),(.int .i64 r4)])) k') (K:=fun x=>match x with | (.tup [(.agg [(.data r0),(.data r1)]),(.agg [(.int .i64 r2),(.int .i64 r3)]),(.int .i64 r4)])=>K r0 r1 r2 r3 r4 | _=>False) k,h K⟩
theorem yB1 (p0:Ls) (p1:Ls) (r0:Int) (r1:Int) (h:∀ K:Int→Int→Prop,K r0 r1→ygK p0 p1 K) (K:Int→Int→Prop):ygK p0 p1 K=K r0 r1 :=
 propext ⟨fun k=>detC (yu2 [] ya6) (as:=[(.data p0),(.data p1)]) (x:=(.tup [(.int .i64 r0),(.int .i64 r1)])) (fun K' k'=>h (fun r0 r1=>K' (.tup [(.int .i64 r0),(.int .i64 r1)])) k') (K:=fun x=>match x with | (.tup [(.int .i64 r0),(.int .i64 r1)])=>K r0 r1 | _=>False) k,h K⟩
theorem yDK (p0:Ls) (p1:Int) (r0:Int) (h:∀ K:Int→Prop,K r0→yhO p0 p1 K) (K:Int→Prop):yhO p0 p1 K=K r0 :=
 propext ⟨fun k=>detC (yxr [] ya6) (as:=[(.data p0),(.int .i64 p1)]) (x:=(.int .i64 r0)) (fun K' k'=>h (fun r0=>K' (.int .i64 r0)) k') (K:=fun x=>match x with | (.int .i64 r0)=>K r0 | _=>False) k,h K⟩
end Go.Pf.Vc
namespace Go.Pf.Vc
open Go Go.Pf
set_option maxRecDepth 100000
abbrev yxs:Type:=Int→(Int→Int→Prop)→Prop
def yEx (p0:Int) (K:Int→Int→Prop):Prop :=
 (K p0 (1:Int))
def yxt (p0:Int) (K:Int→Int→Prop):Prop:=yEx p0 K
def yy0 (w:yxs) (as:Ls) (K:PV→Prop):Prop :=
 match as with
 | [(.int .i64 p0)]=>w p0 (fun r0 r1=>K (.agg [(.int .i64 r0),(.int .i64 r1)]))
 | _=>False
def yEy (as:Ls) (K:PV→Prop):Prop:=yy0 yxt as K
def yLr:LP:=fun _ _ _ _ =>
 False
def yEz (e:Es):SE:=⟨(E e),lookS [],lookI [],yLr⟩
theorem yJq (e:Es) (he:EG e):SEOk (yEz e):=yao trivial trivial he.ok
theorem yLs (e:Es) ( p0 K):WP (yEz e) 6 yMH [(.int .i64 p0)] K=yEx p0 (fun r0 r1=>K (.agg [(.int .i64 r0),(.int .i64 r1)])):=by kernel_rfl
theorem yLt (e:Es) (he:EG e):OkF (E e) yEy ynB:=by
 intro as K h
 unfold yEy yy0 at h
 split at h
 · exact WP_ok (yJq e he) (yag (by kernel_rfl)) (by kernel_rfl) (by kernel_rfl) (fun _=>yaa (by kernel_rfl) _) (he.num _ (by kernel_rfl)) ((yLs ..).mpr h)
 · exact h.elim
abbrev ytK:Type:=Int→(Int→Prop)→Prop
def yvV (p0:Int) (K:Int→Prop):Prop :=
 (cbr (decide (p0<(0:Int)))
 (K (IntKind.u64.wrap ((IntKind.u64.wrap (IntKind.i64.wrap ((0:Int)-(IntKind.i64.wrap (p0+(1:Int))))))+(1:Int))))
 (K (IntKind.u64.wrap p0)))
def yqh (p0:Int) (K:Int→Prop):Prop:=yvV p0 K
def yvW (w:ytK) (as:Ls) (K:PV→Prop):Prop :=
 match as with
 | [(.int .i64 p0)]=>w p0 (fun r0=>K (.int .u64 r0))
 | _=>False
def yB2 (as:Ls) (K:PV→Prop):Prop:=yvW yqh as K
def yJr:LP:=fun _ _ _ _ =>
 False
def yB3 (e:Es):SE:=⟨(E e),lookS [],lookI [],yJr⟩
theorem yHt (e:Es) (he:EG e):SEOk (yB3 e):=yao trivial trivial he.ok
theorem yJs (e:Es) ( p0 K):WP (yB3 e) 6 yLp [(.int .i64 p0)] K=yvV p0 (fun r0=>K (.int .u64 r0)):=by kernel_rfl
theorem yJt (e:Es) (he:EG e):OkF (E e) yB2 ynq:=by
 intro as K h
 unfold yB2 yvW at h
 split at h
 · exact WP_ok (yHt e he) (yag (by kernel_rfl)) (by kernel_rfl) (by kernel_rfl) (fun _=>yaa (by kernel_rfl) _) (he.num _ (by kernel_rfl)) ((yJs ..).mpr h)
 · exact h.elim
abbrev ytL:Type:=Int→Int→(Int→Prop)→Prop
def yfJ (x0:Int→Int→Bool→Prop):Nat→Int→Int→Prop
 | 0,_,_=>False
 | n+1,i0,i1 =>
 (cbr (i1 !=(0:Int))
 (asr (!(decide (i1=(0:Int))))
 (yfJ x0 n i1 (Int.tmod i0 i1)))
 (x0 i0 i1 false))
def yvX (p0 p1:Int) (K:Int→Prop):Prop :=
 (∃ n:Nat,yfJ
 (fun a _ _=>(K a))
 n p0 p1)
def yk8 (p0 p1:Int) (K:Int→Prop):Prop:=yvX p0 p1 K
def yvY (w:ytL) (as:Ls) (K:PV→Prop):Prop :=
 match as with
 | [(.int .u64 p0),(.int .u64 p1)]=>w p0 p1 (fun r0=>K (.int .u64 r0))
 | _=>False
def yB4 (as:Ls) (K:PV→Prop):Prop:=yvY yk8 as K
def yjt (F:Frm) (H:Hp) (A0:Int→Int→Prop):Prop :=
 match F,H with
 | [(0,.v (.int .u64 i0)),(1,.v (.int .u64 i1))],[]=>(A0 i0 i1)
 | _,_=>False
def ypI (Q:Ex→Frm→Hp→Prop):Int→Int→Bool→Prop:=(fun i0 i1 b2=>Q (.exit 0) [(0,.v (.int .u64 i0)),(1,.v (.int .u64 i1)),(6,.v (.bool b2))] [])
def yo5 (Q:Ex→Frm→Hp→Prop) (n:Nat) (F:Frm) (H:Hp):Prop:=yjt F H (fun i0 i1=>yfJ (ypI Q) n i0 i1)
def yqZ:LP:=fun id F H Q =>
 bif Nat.beq id 16774900 then yjt F H (fun i0 i1=>∃ n:Nat,yfJ (ypI Q) n i0 i1) else
 False
def yvZ (e:Es):SE:=⟨(E e),lookS [],lookI [],yqZ⟩
theorem yzO (e:Es) (he:EG e):SEOk (yvZ e):=yao trivial trivial he.ok
theorem yy1 (e:Es) ( Q n i0 i1):WC (E e) (callW (yvZ e) 5) (yqZ) yn8 [(0,.v (.int .u64 i0)),(1,.v (.int .u64 i1))] [] (fun x F' H'=>match x with | .norm=>yo5 Q n F' H' | .exit i=>Q (.exit i) F' H' | .ret=>Q .ret F' H')=yfJ (ypI Q) (n+1) i0 i1:=by kernel_rfl
theorem yDL (e:Es) (_:EG e):LpOk (E e) (yqZ) yn8:=(yag (by kernel_rfl))
theorem yB5 (e:Es) (he:EG e):∀ F H Q,yqZ 16774900 F H Q→LoopT (E e) yn8 F H Q:=by
 intro F H Q h
 have go:=LoopT.intro (yaF (yzO e he) 5) (yDL e he) (yo5 Q) (by
   intro F H h
   unfold yo5 yjt at h
   split at h
   · exact h
   · exact h) (by
   intro n F H h
   unfold yo5 yjt at h
   split at h
   · exact (yy1 ..).mpr h
   · exact h.elim)
 have h:yjt F H _:=h
 unfold yjt at h
 split at h
 · obtain ⟨n,h⟩:=h;exact go n _ _ h
 · exact h.elim
theorem yJu (e:Es) ( p0 p1 K):WP (yvZ e) 6 yLq [(.int .u64 p0),(.int .u64 p1)] K=yvX p0 p1 (fun r0=>K (.int .u64 r0)):=by kernel_rfl
theorem yB6 (e:Es) (he:EG e):OkF (E e) yB4 yp5:=by
 intro as K h
 unfold yB4 yvY at h
 split at h
 · exact WP_ok (yzO e he) (ybe (l:=[(16774900,yn8)]) ⟨yB5 e he,trivial⟩ (by kernel_rfl)) (by kernel_rfl) (by kernel_rfl) (fun _=>yaa (by kernel_rfl) _) (he.num _ (by kernel_rfl)) ((yJu ..).mpr h)
 · exact h.elim
abbrev yq0:Type:=Bool→Int→Int→Int→Int→(Int→Int→Int→Prop)→Prop
def ysU (p0:Bool) (p1 p2 p3 p4:Int) (K:Int→Int→Int→Prop):Prop :=
 (cbr (decide (p1>(0:Int)))
 (K (0:Int) (0:Int) (16:Int))
 (cbr (decide (p3>(0:Int)))
 (K (0:Int) (0:Int) (16:Int))
 (cbr (decide (p2>(1000000000000000000:Int)))
 (K (0:Int) (0:Int) (16:Int))
 (cbr (decide (p4>(1000000000000000000:Int)))
 (K (0:Int) (0:Int) (16:Int))
 (cbr p0
 (K (IntKind.i64.wrap ((0:Int)-(IntKind.i64.wrap p2))) (IntKind.i64.wrap p4) (0:Int))
 (K (IntKind.i64.wrap p2) (IntKind.i64.wrap p4) (0:Int)))))))
def yoq (p0:Bool) (p1 p2 p3 p4:Int) (K:Int→Int→Int→Prop):Prop:=ysU p0 p1 p2 p3 p4 K
def ysV (w:yq0) (as:Ls) (K:PV→Prop):Prop :=
 match as with
 | [(.bool p0),(.agg [(.int .u64 p1),(.int .u64 p2)]),(.agg [(.int .u64 p3),(.int .u64 p4)])]=>w p0 p1 p2 p3 p4 (fun r0 r1 r2=>K (.tup [(.agg [(.int .i64 r0),(.int .i64 r1)]),(.int .i64 r2)]))
 | _=>False
def yzP (as:Ls) (K:PV→Prop):Prop:=ysV yoq as K
def yHu:LP:=fun _ _ _ _ =>
 False
def yzQ (e:Es):SE:=⟨(E e),lookS [],lookI [],yHu⟩
theorem yFN (e:Es) (he:EG e):SEOk (yzQ e):=yao trivial trivial he.ok
theorem yHv (e:Es) ( p0 p1 p2 p3 p4 K):WP (yzQ e) 6 yJc [(.bool p0),(.agg [(.int .u64 p1),(.int .u64 p2)]),(.agg [(.int .u64 p3),(.int .u64 p4)])] K=ysU p0 p1 p2 p3 p4 (fun r0 r1 r2=>K (.tup [(.agg [(.int .i64 r0),(.int .i64 r1)]),(.int .i64 r2)])):=by kernel_rfl
theorem yHw (e:Es) (he:EG e):OkF (E e) yzP ynF:=by
 intro as K h
 unfold yzP ysV at h
 split at h
 · exact WP_ok (yFN e he) (yag (by kernel_rfl)) (by kernel_rfl) (by kernel_rfl) (fun _=>yaa (by kernel_rfl) _) (he.num _ (by kernel_rfl)) ((yHv ..).mpr h)
 · exact h.elim
abbrev yq1:Type:=Int→Int→(Int→Int→Int→Prop)→Prop
def ysW (a0:ytK) (a1:ytL) (a2:yq0) (p0 p1:Int) (K:Int→Int→Int→Prop):Prop :=
 (cbr (p1 ==(0:Int))
 (K (0:Int) (0:Int) (18:Int))
 (a0 p0 (fun b =>
 (a0 p1 (fun c =>
 (a1 b c (fun a =>
 (asr (!(decide (a=(0:Int))))
 (asr (!(decide (a=(0:Int))))
 (a2 ((decide (p0<(0:Int))) !=(decide (p1<(0:Int)))) (0:Int) (IntKind.u64.wrap (Int.tdiv b a)) (0:Int) (IntKind.u64.wrap (Int.tdiv c a)) (fun d e f =>
 (K d e f))))))))))))
def yor (p0 p1:Int) (K:Int→Int→Int→Prop):Prop:=ysW yqh yk8 yoq p0 p1 K
def ysX (w:yq1) (as:Ls) (K:PV→Prop):Prop :=
 match as with
 | [(.int .i64 p0),(.int .i64 p1)]=>w p0 p1 (fun r0 r1 r2=>K (.tup [(.agg [(.int .i64 r0),(.int .i64 r1)]),(.int .i64 r2)]))
 | _=>False
def yzR (as:Ls) (K:PV→Prop):Prop:=ysX yor as K
def yHx (_:ytK) (_:ytL) (_:yq0):LP:=fun _ _ _ _ =>
 False
def yzS (e:Es) (a0:ytK) (a1:ytL) (a2:yq0):SE:=⟨(E e),lookS [(ynq,yvW a0),(yp5,yvY a1),(ynF,ysV a2)],lookI [],yHx a0 a1 a2⟩
theorem yFO (e:Es) (he:EG e):SEOk (yzS e yqh yk8 yoq):=yao ⟨(yJt e he),(yB6 e he),(yHw e he),trivial⟩ trivial he.ok
theorem yHy (e:Es) (a0 a1 a2 p0 p1 K):WP (yzS e a0 a1 a2) 6 yJd [(.int .i64 p0),(.int .i64 p1)] K=ysW a0 a1 a2 p0 p1 (fun r0 r1 r2=>K (.tup [(.agg [(.int .i64 r0),(.int .i64 r1)]),(.int .i64 r2)])):=by kernel_rfl
theorem yHz (e:Es) (he:EG e):OkF (E e) yzR ynG:=by
 intro as K h
 unfold yzR ysX at h
 split at h
 · exact WP_ok (yFO e he) (yag (by kernel_rfl)) (by kernel_rfl) (by kernel_rfl) (fun _=>yaa (by kernel_rfl) _) (he.num _ (by kernel_rfl)) ((yHy ..).mpr h)
 · exact h.elim
end Go.Pf.Vc
namespace Go.Pf.Vc
open Go Go.Pf
set_option linter.unusedVariables false
theorem yHA (p0:Int) (p1:Int) (r0:Int) (h:∀ K:Int→Prop,K r0→yk8 p0 p1 K) (K:Int→Prop):yk8 p0 p1 K=K r0 :=
 propext ⟨fun k=>detC (yB6 [] ya6) (as:=[(.int .u64 p0),(.int .u64 p1)]) (x:=(.int .u64 r0)) (fun K' k'=>h (fun r0=>K' (.int .u64 r0)) k') (K:=fun x=>match x with | (.int .u64 r0)=>K r0 | _=>False) k,h K⟩
end Go.Pf.Vc
namespace Go.Pf.Vc
open Go Go.Pf
set_option maxRecDepth 100000
abbrev yju:Type:=Int→Ls→Ls→(Bool→Prop)→Prop
def yq2 (_:Int) (p1 p2:Ls) (K:Bool→Prop):Prop :=
 (cbr (decide ((((List.length p1):Nat):Int)>(60:Int)))
 (K true)
 (K (decide ((((List.length p2):Nat):Int)>(60:Int)))))
def yfD (p0:Int) (p1 p2:Ls) (K:Bool→Prop):Prop:=yq2 p0 p1 p2 K
def yq3 (w:yju) (as:Ls) (K:PV→Prop):Prop :=
 match as with
 | [(.agg [(.int .i64 p0),(.data p1),(.data p2)])]=>w p0 p1 p2 (fun r0=>K (.bool r0))
 | _=>False
def yxu (as:Ls) (K:PV→Prop):Prop:=yq3 yfD as K
def yFP:LP:=fun _ _ _ _ =>
 False
def yxv (e:Es):SE:=⟨(E e),lookS [],lookI [],yFP⟩
theorem yDM (e:Es) (he:EG e):SEOk (yxv e):=yao trivial trivial he.ok
theorem yFQ (e:Es) ( p0 p1 p2 K):WP (yxv e) 6 yG0 [(.agg [(.int .i64 p0),(.data p1),(.data p2)])] K=yq2 p0 p1 p2 (fun r0=>K (.bool r0)):=by kernel_rfl
theorem yFR (e:Es) (he:EG e):OkF (E e) yxu ylN:=by
 intro as K h
 unfold yxu yq3 at h
 split at h
 · exact WP_ok (yDM e he) (yag (by kernel_rfl)) (by kernel_rfl) (by kernel_rfl) (fun _=>yaa (by kernel_rfl) _) (he.num _ (by kernel_rfl)) ((yFQ ..).mpr h)
 · exact h.elim
abbrev ygu:Type:=Int→Ls→Ls→(Int→Prop)→Prop
def yc4 (x0:Int→Prop) (x1:Int→Ls→Ls→Bool→Int→Bool→Prop):Nat→Int→Ls→Ls→Bool→Int→Prop
 | 0,_,_,_,_,_=>False
 | n+1,i0,l1,l2,b3,i4 =>
 (cbr (decide (i4<(((List.length l2):Nat):Int)))
 (asr (decide ((0:Int)≤(IntKind.i64.wrap (i4+(1:Int)))))
 (asr (decide ((IntKind.i64.wrap (i4+(1:Int)))<(((List.length l1):Nat):Int)))
 (asr (conf (.one (.i .i64)) (List.getD l1 ((IntKind.i64.wrap (i4+(1:Int))).toNat) .nils))
 (asr (decide ((0:Int)≤i4))
 (asr (decide (i4<(((List.length l1):Nat):Int)))
 (asr (conf (.one (.i .i64)) (List.getD l1 (i4.toNat) .nils))
 (cbr (decide ((intOfV (List.getD l1 ((IntKind.i64.wrap (i4+(1:Int))).toNat) .nils))≤(intOfV (List.getD l1 (i4.toNat) .nils))))
 (x0 (8:Int))
 (asr (decide ((0:Int)≤i4))
 (asr (decide (i4<(((List.length l2):Nat):Int)))
 (asr (conf (.one (.i .i64)) (List.getD l2 (i4.toNat) .nils))
 (cbr (decide ((intOfV (List.getD l2 (i4.toNat) .nils))<(0:Int)))
 (x0 (8:Int))
 (asr (decide ((0:Int)≤i4))
 (asr (decide (i4<(((List.length l2):Nat):Int)))
 (asr (conf (.one (.i .i64)) (List.getD l2 (i4.toNat) .nils))
 (cbr (decide ((intOfV (List.getD l2 (i4.toNat) .nils))>(12:Int)))
 (x0 (8:Int))
 (cbr b3
 (yc4 x0 x1 n i0 l1 l2 true (IntKind.i64.wrap (i4+(1:Int))))
 (asr (decide ((0:Int)≤i4))
 (asr (decide (i4<(((List.length l2):Nat):Int)))
 (asr (conf (.one (.i .i64)) (List.getD l2 (i4.toNat) .nils))
 (yc4 x0 x1 n i0 l1 l2 (decide ((intOfV (List.getD l2 (i4.toNat) .nils))>(0:Int))) (IntKind.i64.wrap (i4+(1:Int)))))))))))))))))))))))
 (x1 i0 l1 l2 b3 i4 false))
def yq4 (p0:Int) (p1 p2:Ls) (K:Int→Prop):Prop :=
 (cbr (decide (p0>(1000:Int)))
 (K (4:Int))
 (cbr (decide ((((List.length p1):Nat):Int)>(40:Int)))
 (K (4:Int))
 (cbr (decide (p0<(1:Int)))
 (K (8:Int))
 (cbr (decide ((((List.length p1):Nat):Int)<(2:Int)))
 (K (8:Int))
 (cbr ((((List.length p2):Nat):Int) !=(IntKind.i64.wrap ((((List.length p1):Nat):Int)-(1:Int))))
 (K (8:Int))
 (asr (decide ((0:Int)<(((List.length p1):Nat):Int)))
 (asr (conf (.one (.i .i64)) (List.getD p1 0 .nils))
 (cbr ((intOfV (List.getD p1 0 .nils)) !=(0:Int))
 (K (8:Int))
 (asr (decide ((0:Int)≤(IntKind.i64.wrap ((((List.length p1):Nat):Int)-(1:Int)))))
 (asr (decide ((IntKind.i64.wrap ((((List.length p1):Nat):Int)-(1:Int)))<(((List.length p1):Nat):Int)))
 (asr (conf (.one (.i .i64)) (List.getD p1 ((IntKind.i64.wrap ((((List.length p1):Nat):Int)-(1:Int))).toNat) .nils))
 (cbr ((intOfV (List.getD p1 ((IntKind.i64.wrap ((((List.length p1):Nat):Int)-(1:Int))).toNat) .nils)) != p0)
 (K (8:Int))
 (∃ n:Nat,yc4
 (fun a=>(K a))
 (fun _ _ _ b _ _=>(cbr (!b)
 (K (8:Int))
 (K (0:Int))))
 n p0 p1 p2 false (0:Int))))))))))))))
def ycm (p0:Int) (p1 p2:Ls) (K:Int→Prop):Prop:=yq4 p0 p1 p2 K
def yq5 (w:ygu) (as:Ls) (K:PV→Prop):Prop :=
 match as with
 | [(.agg [(.int .i64 p0),(.data p1),(.data p2)])]=>w p0 p1 p2 (fun r0=>K (.int .i64 r0))
 | _=>False
def yxw (as:Ls) (K:PV→Prop):Prop:=yq5 ycm as K
def yhd (F:Frm) (H:Hp) (A0:Int→Ls→Ls→Bool→Int→Prop):Prop :=
 match F,H with
 | [(1,.box (.agg [(.int .i64 i0),(.data l1),(.data l2)])),(3,.v (.bool b3)),(4,.v (.int .i64 i4))],[]=>(A0 i0 l1 l2 b3 i4)
 | _,_=>False
def ymy (Q:Ex→Frm→Hp→Prop):Int→Prop:=(fun i0=>Q .ret [(2,.v (.int .i64 i0))] [])
def ymz (Q:Ex→Frm→Hp→Prop):Int→Ls→Ls→Bool→Int→Bool→Prop:=(fun i0 l1 l2 b3 i4 b5=>Q (.exit 0) [(1,.box (.agg [(.int .i64 i0),(.data l1),(.data l2)])),(3,.v (.bool b3)),(4,.v (.int .i64 i4)),(57,.v (.bool b5))] [])
def ylE (Q:Ex→Frm→Hp→Prop) (n:Nat) (F:Frm) (H:Hp):Prop:=yhd F H (fun i0 l1 l2 b3 i4=>yc4 (ymy Q) (ymz Q) n i0 l1 l2 b3 i4)
def ym5:LP:=fun id F H Q =>
 bif Nat.beq id 94526800 then yhd F H (fun i0 l1 l2 b3 i4=>∃ n:Nat,yc4 (ymy Q) (ymz Q) n i0 l1 l2 b3 i4) else
 False
def yq6 (e:Es):SE:=⟨(E e),lookS [],lookI [],ym5⟩
theorem yu4 (e:Es) (he:EG e):SEOk (yq6 e):=yao trivial trivial he.ok
theorem yv0 (e:Es) ( Q n i0 l1 l2 b3 i4):WC (E e) (callW (yq6 e) 5) (ym5) ynI [(1,.box (.agg [(.int .i64 i0),(.data l1),(.data l2)])),(3,.v (.bool b3)),(4,.v (.int .i64 i4))] [] (fun x F' H'=>match x with | .norm=>ylE Q n F' H' | .exit i=>Q (.exit i) F' H' | .ret=>Q .ret F' H')=yc4 (ymy Q) (ymz Q) (n+1) i0 l1 l2 b3 i4:=by kernel_rfl
theorem yAs (e:Es) (_:EG e):LpOk (E e) (ym5) ynI:=(yag (by kernel_rfl))
theorem yy2 (e:Es) (he:EG e):∀ F H Q,ym5 94526800 F H Q→LoopT (E e) ynI F H Q:=by
 intro F H Q h
 have go:=LoopT.intro (yaF (yu4 e he) 5) (yAs e he) (ylE Q) (by
   intro F H h
   unfold ylE yhd at h
   split at h
   · exact h
   · exact h) (by
   intro n F H h
   unfold ylE yhd at h
   split at h
   · exact (yv0 ..).mpr h
   · exact h.elim)
 have h:yhd F H _:=h
 unfold yhd at h
 split at h
 · obtain ⟨n,h⟩:=h;exact go n _ _ h
 · exact h.elim
theorem yFS (e:Es) ( p0 p1 p2 K):WP (yq6 e) 6 yG1 [(.agg [(.int .i64 p0),(.data p1),(.data p2)])] K=yq4 p0 p1 p2 (fun r0=>K (.int .i64 r0)):=by kernel_rfl
theorem yxx (e:Es) (he:EG e):OkF (E e) yxw yjk:=by
 intro as K h
 unfold yxw yq5 at h
 split at h
 · exact WP_ok (yu4 e he) (ybe (l:=[(94526800,ynI)]) ⟨yy2 e he,trivial⟩ (by kernel_rfl)) (by kernel_rfl) (by kernel_rfl) (fun _=>yaa (by kernel_rfl) _) (he.num _ (by kernel_rfl)) ((yFS ..).mpr h)
 · exact h.elim
abbrev yo6:Type:=Int→Ls→Ls→(Int→Prop)→Prop
def ydM (x0:Int→Ls→Ls→Int→Int→Bool→Prop):Nat→Int→Ls→Ls→Int→Int→Prop
 | 0,_,_,_,_,_=>False
 | n+1,i0,l1,l2,i3,i4 =>
 (cbr (decide (i4<(((List.length l2):Nat):Int)))
 (asr (decide ((0:Int)≤i4))
 (asr (decide (i4<(((List.length l2):Nat):Int)))
 (asr (conf (.one (.i .i64)) (List.getD l2 (i4.toNat) .nils))
 (asr (decide ((0:Int)≤(IntKind.i64.wrap (i4+(1:Int)))))
 (asr (decide ((IntKind.i64.wrap (i4+(1:Int)))<(((List.length l1):Nat):Int)))
 (asr (conf (.one (.i .i64)) (List.getD l1 ((IntKind.i64.wrap (i4+(1:Int))).toNat) .nils))
 (asr (decide ((0:Int)≤i4))
 (asr (decide (i4<(((List.length l1):Nat):Int)))
 (asr (conf (.one (.i .i64)) (List.getD l1 (i4.toNat) .nils))
 (ydM x0 n i0 l1 l2 (IntKind.i64.wrap (i3+(IntKind.i64.wrap ((intOfV (List.getD l2 (i4.toNat) .nils))*(IntKind.i64.wrap ((intOfV (List.getD l1 ((IntKind.i64.wrap (i4+(1:Int))).toNat) .nils))-(intOfV (List.getD l1 (i4.toNat) .nils)))))))) (IntKind.i64.wrap (i4+(1:Int)))))))))))))
 (x0 i0 l1 l2 i3 i4 false))
def yq7 (p0:Int) (p1 p2:Ls) (K:Int→Prop):Prop :=
 (∃ n:Nat,ydM
 (fun _ _ _ a _ _=>(K a))
 n p0 p1 p2 (0:Int) (0:Int))
def yhP (p0:Int) (p1 p2:Ls) (K:Int→Prop):Prop:=yq7 p0 p1 p2 K
def yq8 (w:yo6) (as:Ls) (K:PV→Prop):Prop :=
 match as with
 | [(.agg [(.int .i64 p0),(.data p1),(.data p2)])]=>w p0 p1 p2 (fun r0=>K (.int .i64 r0))
 | _=>False
def yxy (as:Ls) (K:PV→Prop):Prop:=yq8 yhP as K
def yhe (F:Frm) (H:Hp) (A0:Int→Ls→Ls→Int→Int→Prop):Prop :=
 match F,H with
 | [(1,.box (.agg [(.int .i64 i0),(.data l1),(.data l2)])),(3,.v (.int .i64 i3)),(4,.v (.int .i64 i4))],[]=>(A0 i0 l1 l2 i3 i4)
 | _,_=>False
def ymA (Q:Ex→Frm→Hp→Prop):Int→Ls→Ls→Int→Int→Bool→Prop:=(fun i0 l1 l2 i3 i4 b5=>Q (.exit 0) [(1,.box (.agg [(.int .i64 i0),(.data l1),(.data l2)])),(3,.v (.int .i64 i3)),(4,.v (.int .i64 i4)),(9,.v (.bool b5))] [])
def ylF (Q:Ex→Frm→Hp→Prop) (n:Nat) (F:Frm) (H:Hp):Prop:=yhe F H (fun i0 l1 l2 i3 i4=>ydM (ymA Q) n i0 l1 l2 i3 i4)
def ym6:LP:=fun id F H Q =>
 bif Nat.beq id 21661800 then yhe F H (fun i0 l1 l2 i3 i4=>∃ n:Nat,ydM (ymA Q) n i0 l1 l2 i3 i4) else
 False
def yq9 (e:Es):SE:=⟨(E e),lookS [],lookI [],ym6⟩
theorem yu5 (e:Es) (he:EG e):SEOk (yq9 e):=yao trivial trivial he.ok
theorem yv1 (e:Es) ( Q n i0 l1 l2 i3 i4):WC (E e) (callW (yq9 e) 5) (ym6) yn7 [(1,.box (.agg [(.int .i64 i0),(.data l1),(.data l2)])),(3,.v (.int .i64 i3)),(4,.v (.int .i64 i4))] [] (fun x F' H'=>match x with | .norm=>ylF Q n F' H' | .exit i=>Q (.exit i) F' H' | .ret=>Q .ret F' H')=ydM (ymA Q) (n+1) i0 l1 l2 i3 i4:=by kernel_rfl
theorem yAt (e:Es) (_:EG e):LpOk (E e) (ym6) yn7:=(yag (by kernel_rfl))
theorem yy3 (e:Es) (he:EG e):∀ F H Q,ym6 21661800 F H Q→LoopT (E e) yn7 F H Q:=by
 intro F H Q h
 have go:=LoopT.intro (yaF (yu5 e he) 5) (yAt e he) (ylF Q) (by
   intro F H h
   unfold ylF yhe at h
   split at h
   · exact h
   · exact h) (by
   intro n F H h
   unfold ylF yhe at h
   split at h
   · exact (yv1 ..).mpr h
   · exact h.elim)
 have h:yhe F H _:=h
 unfold yhe at h
 split at h
 · obtain ⟨n,h⟩:=h;exact go n _ _ h
 · exact h.elim
theorem yFT (e:Es) ( p0 p1 p2 K):WP (yq9 e) 6 yHk [(.agg [(.int .i64 p0),(.data p1),(.data p2)])] K=yq7 p0 p1 p2 (fun r0=>K (.int .i64 r0)):=by kernel_rfl
theorem yxz (e:Es) (he:EG e):OkF (E e) yxy ylT:=by
 intro as K h
 unfold yxy yq8 at h
 split at h
 · exact WP_ok (yu5 e he) (ybe (l:=[(21661800,yn7)]) ⟨yy3 e he,trivial⟩ (by kernel_rfl)) (by kernel_rfl) (by kernel_rfl) (fun _=>yaa (by kernel_rfl) _) (he.num _ (by kernel_rfl)) ((yFT ..).mpr h)
 · exact h.elim
end Go.Pf.Vc
namespace Go.Pf.Vc
open Go Go.Pf
set_option linter.unusedVariables false
theorem yDN (p0:Int) (p1:Ls) (p2:Ls) (r0:Int) (h:∀ K:Int→Prop,K r0→ycm p0 p1 p2 K) (K:Int→Prop):ycm p0 p1 p2 K=K r0 :=
 propext ⟨fun k=>detC (yxx [] ya6) (as:=[(.agg [(.int .i64 p0),(.data p1),(.data p2)])]) (x:=(.int .i64 r0)) (fun K' k'=>h (fun r0=>K' (.int .i64 r0)) k') (K:=fun x=>match x with | (.int .i64 r0)=>K r0 | _=>False) k,h K⟩
theorem yDO (p0:Int) (p1:Ls) (p2:Ls) (r0:Int) (h:∀ K:Int→Prop,K r0→yhP p0 p1 p2 K) (K:Int→Prop):yhP p0 p1 p2 K=K r0 :=
 propext ⟨fun k=>detC (yxz [] ya6) (as:=[(.agg [(.int .i64 p0),(.data p1),(.data p2)])]) (x:=(.int .i64 r0)) (fun K' k'=>h (fun r0=>K' (.int .i64 r0)) k') (K:=fun x=>match x with | (.int .i64 r0)=>K r0 | _=>False) k,h K⟩
end Go.Pf.Vc
namespace Go.Pf.Vc
open Go Go.Pf
set_option maxRecDepth 100000
abbrev yh9:Type:=Ls→(Bool→Prop)→Prop
def ybW (a0:yju) (x0:Bool→Prop) (x1:Ls→Int→Bool→Prop):Nat→Ls→Int→Prop
 | 0,_,_=>False
 | n+1,l0,i1 =>
 (cbr (decide (i1<(((List.length l0):Nat):Int)))
 (asr (decide ((0:Int)≤i1))
 (asr (decide (i1<(((List.length l0):Nat):Int)))
 (asr (conf (.agg [.i .i64,.d,.d]) (List.getD l0 (i1.toNat) .nils))
 (a0 (intOfV (cellAt (List.getD l0 (i1.toNat) .nils) 0)) (datOfV (cellAt (List.getD l0 (i1.toNat) .nils) 1)) (datOfV (cellAt (List.getD l0 (i1.toNat) .nils) 2)) (fun a =>
 (cbr a
 (x0 true)
 (ybW a0 x0 x1 n l0 (IntKind.i64.wrap (i1+(1:Int))))))))))
 (x1 l0 i1 false))
def yj6 (a0:yju) (p0:Ls) (K:Bool→Prop):Prop :=
 (∃ n:Nat,ybW a0
 (fun a=>(K a))
 (fun b _ _=>(K (decide ((((List.length b):Nat):Int)>(10:Int)))))
 n p0 (0:Int))
def yd0 (p0:Ls) (K:Bool→Prop):Prop:=yj6 yfD p0 K
def yj7 (w:yh9) (as:Ls) (K:PV→Prop):Prop :=
 match as with
 | [(.data p0)]=>w p0 (fun r0=>K (.bool r0))
 | _=>False
def yo7 (as:Ls) (K:PV→Prop):Prop:=yj7 yd0 as K
def yd1 (F:Frm) (H:Hp) (A0:Ls→Int→Prop):Prop :=
 match F,H with
 | [(0,.v (.data l0)),(3,.v (.int .i64 i1))],[]=>(A0 l0 i1)
 | _,_=>False
def yhQ (Q:Ex→Frm→Hp→Prop):Bool→Prop:=(fun b0=>Q .ret [(2,.v (.bool b0))] [])
def yhR (Q:Ex→Frm→Hp→Prop):Ls→Int→Bool→Prop:=(fun l0 i1 b2=>Q (.exit 0) [(0,.v (.data l0)),(3,.v (.int .i64 i1)),(7,.v (.bool b2))] [])
def ygL (a0:yju) (Q:Ex→Frm→Hp→Prop) (n:Nat) (F:Frm) (H:Hp):Prop:=yd1 F H (fun l0 i1=>ybW a0 (yhQ Q) (yhR Q) n l0 i1)
def yhv (a0:yju):LP:=fun id F H Q =>
 bif Nat.beq id 4277600 then yd1 F H (fun l0 i1=>∃ n:Nat,ybW a0 (yhQ Q) (yhR Q) n l0 i1) else
 False
def yj8 (e:Es) (a0:yju):SE:=⟨(E e),lookS [(ylN,yq3 a0)],lookI [],yhv a0⟩
theorem yos (e:Es) (he:EG e):SEOk (yj8 e yfD):=yao ⟨(yFR e he),trivial⟩ trivial he.ok
theorem yqi (e:Es) (a0 Q n l0 i1):WC (E e) (callW (yj8 e a0) 5) (yhv a0) yp6 [(0,.v (.data l0)),(3,.v (.int .i64 i1))] [] (fun x F' H'=>match x with | .norm=>ygL a0 Q n F' H' | .exit i=>Q (.exit i) F' H' | .ret=>Q .ret F' H')=ybW a0 (yhQ Q) (yhR Q) (n+1) l0 i1:=by kernel_rfl
theorem ysY (e:Es) (_:EG e):LpOk (E e) (yhv yfD) yp6:=(yag (by kernel_rfl))
theorem yrU (e:Es) (he:EG e):∀ F H Q,yhv yfD 4277600 F H Q→LoopT (E e) yp6 F H Q:=by
 intro F H Q h
 have go:=LoopT.intro (yaF (yos e he) 5) (ysY e he) (ygL yfD Q) (by
   intro F H h
   unfold ygL yd1 at h
   split at h
   · exact h
   · exact h) (by
   intro n F H h
   unfold ygL yd1 at h
   split at h
   · exact (yqi ..).mpr h
   · exact h.elim)
 have h:yd1 F H _:=h
 unfold yd1 at h
 split at h
 · obtain ⟨n,h⟩:=h;exact go n _ _ h
 · exact h.elim
theorem yxA (e:Es) (a0 p0 K):WP (yj8 e a0) 6 yyz [(.data p0)] K=yj6 a0 p0 (fun r0=>K (.bool r0)):=by kernel_rfl
theorem yo8 (e:Es) (he:EG e):OkF (E e) yo7 yf6:=by
 intro as K h
 unfold yo7 yj7 at h
 split at h
 · exact WP_ok (yos e he) (ybe (l:=[(4277600,yp6)]) ⟨yrU e he,trivial⟩ (by kernel_rfl)) (by kernel_rfl) (by kernel_rfl) (fun _=>yaa (by kernel_rfl) _) (he.num _ (by kernel_rfl)) ((yxA ..).mpr h)
 · exact h.elim
abbrev yo9:Type:=Ls→Ls→(Int→Prop)→Prop
def ydN (a0:ygu) (a:Int→Prop) (b:Ls→Ls→Int→Bool→Prop):Nat→Ls→Ls→Int→Prop
 | 0,_,_,_=>False
 | c+1,l0,l1,i2 =>
 (cbr (decide (i2<(((List.length l0):Nat):Int)))
 (asr (decide ((0:Int)≤i2))
 (asr (decide (i2<(((List.length l0):Nat):Int)))
 (asr (conf (.agg [.i .i64,.d,.d]) (List.getD l0 (i2.toNat) .nils))
 (a0 (intOfV (cellAt (List.getD l0 (i2.toNat) .nils) 0)) (datOfV (cellAt (List.getD l0 (i2.toNat) .nils) 1)) (datOfV (cellAt (List.getD l0 (i2.toNat) .nils) 2)) (fun e =>
 (cbr (e !=(0:Int))
 (asr (decide ((0:Int)≤i2))
 (asr (decide (i2<(((List.length l0):Nat):Int)))
 (asr (conf (.agg [.i .i64,.d,.d]) (List.getD l0 (i2.toNat) .nils))
 (a0 (intOfV (cellAt (List.getD l0 (i2.toNat) .nils) 0)) (datOfV (cellAt (List.getD l0 (i2.toNat) .nils) 1)) (datOfV (cellAt (List.getD l0 (i2.toNat) .nils) 2)) (fun f =>
 (a f))))))
 (ydN a0 a b c l0 l1 (IntKind.i64.wrap (i2+(1:Int))))))))))
 (b l0 l1 i2 false))
def yc5 (a0:ygu) (a:Int→Prop) (b:Ls→Ls→Int→Bool→Prop):Nat→Ls→Ls→Int→Prop
 | 0,_,_,_=>False
 | c+1,l0,l1,i2 =>
 (cbr (decide (i2<(((List.length l0):Nat):Int)))
 (asr (decide ((0:Int)≤i2))
 (asr (decide (i2<(((List.length l0):Nat):Int)))
 (asr (conf (.agg [.i .i64,.d,.d]) (List.getD l0 (i2.toNat) .nils))
 (asr (decide ((0:Int)<(((List.length l0):Nat):Int)))
 (asr (conf (.agg [.i .i64,.d,.d]) (List.getD l0 0 .nils))
 (cbr ((intOfV (cellAt (List.getD l0 (i2.toNat) .nils) 0)) !=(intOfV (cellAt (List.getD l0 0 .nils) 0)))
 (a (8:Int))
 (yc5 a0 a b c l0 l1 (IntKind.i64.wrap (i2+(1:Int))))))))))
 (b l0 l1 i2 false))
def yra (a0:ygu) (p0 p1:Ls) (K:Int→Prop):Prop :=
 (cbr (decide ((((List.length p0):Nat):Int)>(6:Int)))
 (K (4:Int))
 (cbr (decide ((((List.length p1):Nat):Int)>(2000:Int)))
 (K (4:Int))
 (cbr ((((List.length p0):Nat):Int) ==(0:Int))
 (K (8:Int))
 (∃ a:Nat,ydN a0
 (fun b=>(K b))
 (fun c d _ _=>(∃ e:Nat,yc5 a0
 (fun f=>(K f))
 (fun _ _ _ _=>(K (0:Int)))
 e c d (0:Int)))
 a p0 p1 (0:Int)))))
def yhS (p0 p1:Ls) (K:Int→Prop):Prop:=yra ycm p0 p1 K
def yrb (w:yo9) (as:Ls) (K:PV→Prop):Prop :=
 match as with
 | [(.agg [(.data p0),(.data p1)])]=>w p0 p1 (fun r0=>K (.int .i64 r0))
 | _=>False
def yxB (as:Ls) (K:PV→Prop):Prop:=yrb yhS as K
def yhf (F:Frm) (H:Hp) (A0:Ls→Ls→Int→Prop):Prop :=
 match F,H with
 | [(1,.box (.agg [(.data l0),(.data l1)])),(3,.v (.int .i64 i2))],[]=>(A0 l0 l1 i2)
 | _,_=>False
def yhg (F:Frm) (H:Hp) (A0:Ls→Ls→Int→Prop):Prop :=
 match F,H with
 | [(1,.box (.agg [(.data l0),(.data l1)])),(4,.v (.int .i64 i2))],[]=>(A0 l0 l1 i2)
 | _,_=>False
def ymB (Q:Ex→Frm→Hp→Prop):Int→Prop:=(fun i0=>Q .ret [(2,.v (.int .i64 i0))] [])
def ymC (Q:Ex→Frm→Hp→Prop):Ls→Ls→Int→Bool→Prop:=(fun l0 l1 i2 b3=>Q (.exit 0) [(1,.box (.agg [(.data l0),(.data l1)])),(3,.v (.int .i64 i2)),(23,.v (.bool b3))] [])
def ymD (Q:Ex→Frm→Hp→Prop):Int→Prop:=(fun i0=>Q .ret [(2,.v (.int .i64 i0))] [])
def ymE (Q:Ex→Frm→Hp→Prop):Ls→Ls→Int→Bool→Prop:=(fun l0 l1 i2 b3=>Q (.exit 2) [(1,.box (.agg [(.data l0),(.data l1)])),(4,.v (.int .i64 i2)),(43,.v (.bool b3))] [])
def ylG (a0:ygu) (Q:Ex→Frm→Hp→Prop) (n:Nat) (F:Frm) (H:Hp):Prop:=yhf F H (fun l0 l1 i2=>ydN a0 (ymB Q) (ymC Q) n l0 l1 i2)
def ylH (a0:ygu) (Q:Ex→Frm→Hp→Prop) (n:Nat) (F:Frm) (H:Hp):Prop:=yhg F H (fun l0 l1 i2=>yc5 a0 (ymD Q) (ymE Q) n l0 l1 i2)
def ygM (a0:ygu):LP:=fun id F H Q =>
 bif Nat.beq id 6981300 then yhf F H (fun l0 l1 i2=>∃ n:Nat,ydN a0 (ymB Q) (ymC Q) n l0 l1 i2) else
 bif Nat.beq id 6981301 then yhg F H (fun l0 l1 i2=>∃ n:Nat,yc5 a0 (ymD Q) (ymE Q) n l0 l1 i2) else
 False
def ym7 (e:Es) (a0:ygu):SE:=⟨(E e),lookS [(yjk,yq5 a0)],lookI [],ygM a0⟩
theorem ypJ (e:Es) (he:EG e):SEOk (ym7 e ycm):=yao ⟨(yxx e he),trivial⟩ trivial he.ok
theorem yv2 (e:Es) (a0 Q n l0 l1 i2):WC (E e) (callW (ym7 e a0) 5) (ygM a0) yp7 [(1,.box (.agg [(.data l0),(.data l1)])),(3,.v (.int .i64 i2))] [] (fun x F' H'=>match x with | .norm=>ylG a0 Q n F' H' | .exit i=>Q (.exit i) F' H' | .ret=>Q .ret F' H')=ydN a0 (ymB Q) (ymC Q) (n+1) l0 l1 i2:=by kernel_rfl
theorem yAu (e:Es) (_:EG e):LpOk (E e) (ygM ycm) yp7:=(yag (by kernel_rfl))
theorem yy4 (e:Es) (he:EG e):∀ F H Q,ygM ycm 6981300 F H Q→LoopT (E e) yp7 F H Q:=by
 intro F H Q h
 have go:=LoopT.intro (yaF (ypJ e he) 5) (yAu e he) (ylG ycm Q) (by
   intro F H h
   unfold ylG yhf at h
   split at h
   · exact h
   · exact h) (by
   intro n F H h
   unfold ylG yhf at h
   split at h
   · exact (yv2 ..).mpr h
   · exact h.elim)
 have h:yhf F H _:=h
 unfold yhf at h
 split at h
 · obtain ⟨n,h⟩:=h;exact go n _ _ h
 · exact h.elim
theorem yv3 (e:Es) (a0 Q n l0 l1 i2):WC (E e) (callW (ym7 e a0) 5) (ygM a0) yp8 [(1,.box (.agg [(.data l0),(.data l1)])),(4,.v (.int .i64 i2))] [] (fun x F' H'=>match x with | .norm=>ylH a0 Q n F' H' | .exit i=>Q (.exit i) F' H' | .ret=>Q .ret F' H')=yc5 a0 (ymD Q) (ymE Q) (n+1) l0 l1 i2:=by kernel_rfl
theorem yAv (e:Es) (_:EG e):LpOk (E e) (ygM ycm) yp8:=(yag (by kernel_rfl))
theorem yy5 (e:Es) (he:EG e):∀ F H Q,ygM ycm 6981301 F H Q→LoopT (E e) yp8 F H Q:=by
 intro F H Q h
 have go:=LoopT.intro (yaF (ypJ e he) 5) (yAv e he) (ylH ycm Q) (by
   intro F H h
   unfold ylH yhg at h
   split at h
   · exact h
   · exact h) (by
   intro n F H h
   unfold ylH yhg at h
   split at h
   · exact (yv3 ..).mpr h
   · exact h.elim)
 have h:yhg F H _:=h
 unfold yhg at h
 split at h
 · obtain ⟨n,h⟩:=h;exact go n _ _ h
 · exact h.elim
theorem yFU (e:Es) (a0 p0 p1 K):WP (ym7 e a0) 6 yG2 [(.agg [(.data p0),(.data p1)])] K=yra a0 p0 p1 (fun r0=>K (.int .i64 r0)):=by kernel_rfl
theorem yxC (e:Es) (he:EG e):OkF (E e) yxB ylO:=by
 intro as K h
 unfold yxB yrb at h
 split at h
 · exact WP_ok (ypJ e he) (ybe (l:=[(6981300,yp7),(6981301,yp8)]) ⟨yy4 e he,yy5 e he,trivial⟩ (by kernel_rfl)) (by kernel_rfl) (by kernel_rfl) (fun _=>yaa (by kernel_rfl) _) (he.num _ (by kernel_rfl)) ((yFU ..).mpr h)
 · exact h.elim
end Go.Pf.Vc
namespace Go.Pf.Vc
open Go Go.Pf
set_option linter.unusedVariables false
theorem yv4 (p0:Ls) (r0:Bool) (h:∀ K:Bool→Prop,K r0→yd0 p0 K) (K:Bool→Prop):yd0 p0 K=K r0 :=
 propext ⟨fun k=>detC (yo8 [] ya6) (as:=[(.data p0)]) (x:=(.bool r0)) (fun K' k'=>h (fun r0=>K' (.bool r0)) k') (K:=fun x=>match x with | (.bool r0)=>K r0 | _=>False) k,h K⟩
theorem yDP (p0:Ls) (p1:Ls) (r0:Int) (h:∀ K:Int→Prop,K r0→yhS p0 p1 K) (K:Int→Prop):yhS p0 p1 K=K r0 :=
 propext ⟨fun k=>detC (yxC [] ya6) (as:=[(.agg [(.data p0),(.data p1)])]) (x:=(.int .i64 r0)) (fun K' k'=>h (fun r0=>K' (.int .i64 r0)) k') (K:=fun x=>match x with | (.int .i64 r0)=>K r0 | _=>False) k,h K⟩
end Go.Pf.Vc
namespace Go.Pf.Vc
open Go Go.Pf
set_option maxRecDepth 100000
abbrev yk9:Type:=Ls→Ls→(Bool→Prop)→Prop
def yei (x0:Bool→Prop) (x1:Ls→Ls→Int→Bool→Prop):Nat→Ls→Ls→Int→Prop
 | 0,_,_,_=>False
 | n+1,l0,l1,i2 =>
 (cbr (decide (i2<(((List.length l0):Nat):Int)))
 (asr (decide ((0:Int)≤i2))
 (asr (decide (i2<(((List.length l0):Nat):Int)))
 (asr (conf (.agg [.i .i64,.i .i64,.i .i64,.i .i64]) (List.getD l0 (i2.toNat) .nils))
 (asr (decide ((0:Int)≤i2))
 (asr (decide (i2<(((List.length l1):Nat):Int)))
 (asr (conf (.agg [.i .i64,.i .i64,.i .i64,.i .i64]) (List.getD l1 (i2.toNat) .nils))
 (cbr (!(((intOfV (cellAt (List.getD l0 (i2.toNat) .nils) 0)) ==(intOfV (cellAt (List.getD l1 (i2.toNat) .nils) 0)))&&(((intOfV (cellAt (List.getD l0 (i2.toNat) .nils) 1)) ==(intOfV (cellAt (List.getD l1 (i2.toNat) .nils) 1)))&&(((intOfV (cellAt (List.getD l0 (i2.toNat) .nils) 2)) ==(intOfV (cellAt (List.getD l1 (i2.toNat) .nils) 2)))&&(((intOfV (cellAt (List.getD l0 (i2.toNat) .nils) 3)) ==(intOfV (cellAt (List.getD l1 (i2.toNat) .nils) 3)))&&true)))))
 (x0 false)
 (yei x0 x1 n l0 l1 (IntKind.i64.wrap (i2+(1:Int)))))))))))
 (x1 l0 l1 i2 false))
def ysZ (p0 p1:Ls) (K:Bool→Prop):Prop :=
 (cbr ((((List.length p0):Nat):Int) !=(((List.length p1):Nat):Int))
 (K false)
 (∃ n:Nat,yei
 (fun a=>(K a))
 (fun _ _ _ _=>(K true))
 n p0 p1 (0:Int)))
def yex (p0 p1:Ls) (K:Bool→Prop):Prop:=ysZ p0 p1 K
def ys0 (w:yk9) (as:Ls) (K:PV→Prop):Prop :=
 match as with
 | [(.data p0),(.data p1)]=>w p0 p1 (fun r0=>K (.bool r0))
 | _=>False
def yzT (as:Ls) (K:PV→Prop):Prop:=ys0 yex as K
def yia (F:Frm) (H:Hp) (A0:Ls→Ls→Int→Prop):Prop :=
 match F,H with
 | [(0,.v (.data l0)),(1,.v (.data l1)),(5,.v (.int .i64 i2))],[]=>(A0 l0 l1 i2)
 | _,_=>False
def yot (Q:Ex→Frm→Hp→Prop):Bool→Prop:=(fun b0=>Q .ret [(4,.v (.bool b0))] [])
def you (Q:Ex→Frm→Hp→Prop):Ls→Ls→Int→Bool→Prop:=(fun l0 l1 i2 b3=>Q (.exit 0) [(0,.v (.data l0)),(1,.v (.data l1)),(5,.v (.int .i64 i2)),(14,.v (.bool b3))] [])
def ym8 (Q:Ex→Frm→Hp→Prop) (n:Nat) (F:Frm) (H:Hp):Prop:=yia F H (fun l0 l1 i2=>yei (yot Q) (you Q) n l0 l1 i2)
def ypa:LP:=fun id F H Q =>
 bif Nat.beq id 27088800 then yia F H (fun l0 l1 i2=>∃ n:Nat,yei (yot Q) (you Q) n l0 l1 i2) else
 False
def ys1 (e:Es):SE:=⟨(E e),lookS [],lookI [],ypa⟩
theorem yxD (e:Es) (he:EG e):SEOk (ys1 e):=yao trivial trivial he.ok
theorem yxE (e:Es) ( Q n l0 l1 i2):WC (E e) (callW (ys1 e) 5) (ypa) ynV [(0,.v (.data l0)),(1,.v (.data l1)),(5,.v (.int .i64 i2))] [] (fun x F' H'=>match x with | .norm=>ym8 Q n F' H' | .exit i=>Q (.exit i) F' H' | .ret=>Q .ret F' H')=yei (yot Q) (you Q) (n+1) l0 l1 i2:=by kernel_rfl
theorem yB7 (e:Es) (_:EG e):LpOk (E e) (ypa) ynV:=(yag (by kernel_rfl))
theorem yAw (e:Es) (he:EG e):∀ F H Q,ypa 27088800 F H Q→LoopT (E e) ynV F H Q:=by
 intro F H Q h
 have go:=LoopT.intro (yaF (yxD e he) 5) (yB7 e he) (ym8 Q) (by
   intro F H h
   unfold ym8 yia at h
   split at h
   · exact h
   · exact h) (by
   intro n F H h
   unfold ym8 yia at h
   split at h
   · exact (yxE ..).mpr h
   · exact h.elim)
 have h:yia F H _:=h
 unfold yia at h
 split at h
 · obtain ⟨n,h⟩:=h;exact go n _ _ h
 · exact h.elim
theorem yHB (e:Es) ( p0 p1 K):WP (ys1 e) 6 yI7 [(.data p0),(.data p1)] K=ysZ p0 p1 (fun r0=>K (.bool r0)):=by kernel_rfl
theorem yzU (e:Es) (he:EG e):OkF (E e) yzT ynE:=by
 intro as K h
 unfold yzT ys0 at h
 split at h
 · exact WP_ok (yxD e he) (ybe (l:=[(27088800,ynV)]) ⟨yAw e he,trivial⟩ (by kernel_rfl)) (by kernel_rfl) (by kernel_rfl) (fun _=>yaa (by kernel_rfl) _) (he.num _ (by kernel_rfl)) ((yHB ..).mpr h)
 · exact h.elim
abbrev yrc:Type:=Ls→Ls→(Bool→Prop)→Prop
def yej (a0:yk9) (x0:Bool→Prop) (x1:Ls→Ls→Int→Bool→Prop):Nat→Ls→Ls→Int→Prop
 | 0,_,_,_=>False
 | n+1,l0,l1,i2 =>
 (cbr (decide (i2<(((List.length l0):Nat):Int)))
 (asr (decide ((0:Int)≤i2))
 (asr (decide (i2<(((List.length l0):Nat):Int)))
 (asr (conf (.one (.d)) (List.getD l0 (i2.toNat) .nils))
 (asr (decide ((0:Int)≤i2))
 (asr (decide (i2<(((List.length l1):Nat):Int)))
 (asr (conf (.one (.d)) (List.getD l1 (i2.toNat) .nils))
 (a0 (datOfV (List.getD l0 (i2.toNat) .nils)) (datOfV (List.getD l1 (i2.toNat) .nils)) (fun a =>
 (cbr (!a)
 (x0 false)
 (yej a0 x0 x1 n l0 l1 (IntKind.i64.wrap (i2+(1:Int)))))))))))))
 (x1 l0 l1 i2 false))
def ys2 (a0:yk9) (p0 p1:Ls) (K:Bool→Prop):Prop :=
 (cbr ((((List.length p0):Nat):Int) !=(((List.length p1):Nat):Int))
 (K false)
 (∃ n:Nat,yej a0
 (fun a=>(K a))
 (fun _ _ _ _=>(K true))
 n p0 p1 (0:Int)))
def yey (p0 p1:Ls) (K:Bool→Prop):Prop:=ys2 yex p0 p1 K
def ys3 (w:yrc) (as:Ls) (K:PV→Prop):Prop :=
 match as with
 | [(.agg [(.data p0)]),(.agg [(.data p1)])]=>w p0 p1 (fun r0=>K (.bool r0))
 | _=>False
def yzV (as:Ls) (K:PV→Prop):Prop:=ys3 yey as K
def yib (F:Frm) (H:Hp) (A0:Ls→Ls→Int→Prop):Prop :=
 match F,H with
 | [(2,.box (.agg [(.data l0)])),(3,.box (.agg [(.data l1)])),(5,.v (.int .i64 i2))],[]=>(A0 l0 l1 i2)
 | _,_=>False
def yov (Q:Ex→Frm→Hp→Prop):Bool→Prop:=(fun b0=>Q .ret [(4,.v (.bool b0))] [])
def yow (Q:Ex→Frm→Hp→Prop):Ls→Ls→Int→Bool→Prop:=(fun l0 l1 i2 b3=>Q (.exit 0) [(2,.box (.agg [(.data l0)])),(3,.box (.agg [(.data l1)])),(5,.v (.int .i64 i2)),(17,.v (.bool b3))] [])
def ym9 (a0:yk9) (Q:Ex→Frm→Hp→Prop) (n:Nat) (F:Frm) (H:Hp):Prop:=yib F H (fun l0 l1 i2=>yej a0 (yov Q) (yow Q) n l0 l1 i2)
def ypb (a0:yk9):LP:=fun id F H Q =>
 bif Nat.beq id 70742100 then yib F H (fun l0 l1 i2=>∃ n:Nat,yej a0 (yov Q) (yow Q) n l0 l1 i2) else
 False
def ys4 (e:Es) (a0:yk9):SE:=⟨(E e),lookS [(ynE,ys0 a0)],lookI [],ypb a0⟩
theorem yxF (e:Es) (he:EG e):SEOk (ys4 e yex):=yao ⟨(yzU e he),trivial⟩ trivial he.ok
theorem yxG (e:Es) (a0 Q n l0 l1 i2):WC (E e) (callW (ys4 e a0) 5) (ypb a0) ynW [(2,.box (.agg [(.data l0)])),(3,.box (.agg [(.data l1)])),(5,.v (.int .i64 i2))] [] (fun x F' H'=>match x with | .norm=>ym9 a0 Q n F' H' | .exit i=>Q (.exit i) F' H' | .ret=>Q .ret F' H')=yej a0 (yov Q) (yow Q) (n+1) l0 l1 i2:=by kernel_rfl
theorem yB8 (e:Es) (_:EG e):LpOk (E e) (ypb yex) ynW:=(yag (by kernel_rfl))
theorem yAx (e:Es) (he:EG e):∀ F H Q,ypb yex 70742100 F H Q→LoopT (E e) ynW F H Q:=by
 intro F H Q h
 have go:=LoopT.intro (yaF (yxF e he) 5) (yB8 e he) (ym9 yex Q) (by
   intro F H h
   unfold ym9 yib at h
   split at h
   · exact h
   · exact h) (by
   intro n F H h
   unfold ym9 yib at h
   split at h
   · exact (yxG ..).mpr h
   · exact h.elim)
 have h:yib F H _:=h
 unfold yib at h
 split at h
 · obtain ⟨n,h⟩:=h;exact go n _ _ h
 · exact h.elim
theorem yHC (e:Es) (a0 p0 p1 K):WP (ys4 e a0) 6 yI8 [(.agg [(.data p0)]),(.agg [(.data p1)])] K=ys2 a0 p0 p1 (fun r0=>K (.bool r0)):=by kernel_rfl
theorem yzW (e:Es) (he:EG e):OkF (E e) yzV ykE:=by
 intro as K h
 unfold yzV ys3 at h
 split at h
 · exact WP_ok (yxF e he) (ybe (l:=[(70742100,ynW)]) ⟨yAx e he,trivial⟩ (by kernel_rfl)) (by kernel_rfl) (by kernel_rfl) (fun _=>yaa (by kernel_rfl) _) (he.num _ (by kernel_rfl)) ((yHC ..).mpr h)
 · exact h.elim
end Go.Pf.Vc
namespace Go.Pf.Vc
open Go Go.Pf
set_option linter.unusedVariables false
theorem yFV (p0:Ls) (p1:Ls) (r0:Bool) (h:∀ K:Bool→Prop,K r0→yex p0 p1 K) (K:Bool→Prop):yex p0 p1 K=K r0 :=
 propext ⟨fun k=>detC (yzU [] ya6) (as:=[(.data p0),(.data p1)]) (x:=(.bool r0)) (fun K' k'=>h (fun r0=>K' (.bool r0)) k') (K:=fun x=>match x with | (.bool r0)=>K r0 | _=>False) k,h K⟩
theorem yFW (p0:Ls) (p1:Ls) (r0:Bool) (h:∀ K:Bool→Prop,K r0→yey p0 p1 K) (K:Bool→Prop):yey p0 p1 K=K r0 :=
 propext ⟨fun k=>detC (yzW [] ya6) (as:=[(.agg [(.data p0)]),(.agg [(.data p1)])]) (x:=(.bool r0)) (fun K' k'=>h (fun r0=>K' (.bool r0)) k') (K:=fun x=>match x with | (.bool r0)=>K r0 | _=>False) k,h K⟩
end Go.Pf.Vc
namespace Go.Pf.Vc
open Go Go.Pf
set_option maxRecDepth 100000
theorem yce {a b:Nat} {P Q:Prop} (h:bif Nat.beq a b then P else Q):(a=b∧P)∨Q:=by
 cases hb:Nat.beq a b with
 | true=>rw [hb] at h;exact .inl ⟨Nat.eq_of_beq_eq_true hb,h⟩
 | false=>rw [hb] at h;exact .inr h
abbrev yan:Type:=Int→(Int→Int→Prop)→Prop
def ys5 (p0:Int) (K:Int→Int→Prop):Prop :=
 (K p0 (1:Int))
def yak (p0:Int) (K:Int→Int→Prop):Prop:=ys5 p0 K
def ydA (w:yan) (as:Ls) (K:PV→Prop):Prop :=
 match as with
 | [(.int .i64 p0)]=>w p0 (fun r0 r1=>K (.agg [(.int .i64 r0),(.int .i64 r1)]))
 | _=>False
def ys6 (as:Ls) (K:PV→Prop):Prop:=ydA yak as K
def yB9:LP:=fun _ _ _ _ =>
 False
def ys7 (e:Es):SE:=⟨(E e),lookS [],lookI [],yB9⟩
theorem yAy (e:Es) (he:EG e):SEOk (ys7 e):=yao trivial trivial he.ok
theorem yCa (e:Es) ( p0 K):WP (ys7 e) 11 yC6 [(.int .i64 p0)] K=ys5 p0 (fun r0 r1=>K (.agg [(.int .i64 r0),(.int .i64 r1)])):=by kernel_rfl
theorem ye8 (e:Es) (he:EG e):OkF (E e) ys6 ybT:=by
 intro as K h
 unfold ys6 ydA at h
 split at h
 · exact WP_ok (yAy e he) (yag (by kernel_rfl)) (by kernel_rfl) (by kernel_rfl) (fun _=>yaa (by kernel_rfl) _) (he.num _ (by kernel_rfl)) ((yCa ..).mpr h)
 · exact h.elim
abbrev yas:Type:=Int→Int→Int→Int→(Bool→Prop)→Prop
def ypK (a0:ybD) (p0 p1 p2 p3:Int) (K:Bool→Prop):Prop :=
 (a0 p0 p1 p2 p3 (fun a _ =>
 (K (decide (a<(0:Int))))))
def yae (p0 p1 p2 p3:Int) (K:Bool→Prop):Prop:=ypK ybL p0 p1 p2 p3 K
def yeb (w:yas) (as:Ls) (K:PV→Prop):Prop :=
 match as with
 | [(.agg [(.int .i64 p0),(.int .i64 p1)]),(.agg [(.int .i64 p2),(.int .i64 p3)])]=>w p0 p1 p2 p3 (fun r0=>K (.bool r0))
 | _=>False
def yu6 (as:Ls) (K:PV→Prop):Prop:=yeb yae as K
def yDQ (_:ybD):LP:=fun _ _ _ _ =>
 False
def yu7 (e:Es) (a0:ybD):SE:=⟨(E e),lookS [(ycv,yfy a0)],lookI [],yDQ a0⟩
theorem yCb (e:Es) (he:EG e):SEOk (yu7 e ybL):=yao ⟨(ygC e he),trivial⟩ trivial he.ok
theorem yDR (e:Es) (a0 p0 p1 p2 p3 K):WP (yu7 e a0) 11 yFo [(.agg [(.int .i64 p0),(.int .i64 p1)]),(.agg [(.int .i64 p2),(.int .i64 p3)])] K=ypK a0 p0 p1 p2 p3 (fun r0=>K (.bool r0)):=by kernel_rfl
theorem yfK (e:Es) (he:EG e):OkF (E e) yu6 ybx:=by
 intro as K h
 unfold yu6 yeb at h
 split at h
 · exact WP_ok (yCb e he) (yag (by kernel_rfl)) (by kernel_rfl) (by kernel_rfl) (fun _=>yaa (by kernel_rfl) _) (he.num _ (by kernel_rfl)) ((yDR ..).mpr h)
 · exact h.elim
abbrev yDS:Type:=Ls→Ls→(Int→Prop)→Prop
def ycR (a0:yaY) (a1:ybU) (a2:yan) (a3:yas) (a:Ls→Ls→Ls→Int→Int→Bool→Prop) (b:Int→Prop):Nat→Ls→Ls→Ls→Int→Int→Prop
 | 0,_,_,_,_,_=>False
 | f+1,l0,l1,l2,i3,i4 =>
 (cbr (decide (i4<i3))
 (asr (decide ((0:Int)≤i4))
 (asr (decide (i4<(((List.length l2):Nat):Int)))
 (lt (List.getD l2 (i4.toNat) .nils) (fun c =>
 (asr (conf (.one (.d)) c)
 (a1 (datOfV c) (fun e =>
 (cbr (e !=(0:Int))
 (b e)
 (lt (IntKind.i64.wrap (i4+(1:Int))) (fun g =>
 (ycR a0 a1 a2 a3 a b f l0 l1 l2 i3 g)))))))))))
 (a l0 l1 l2 i3 i4 false))
def ycr (a0:yaY) (a1:ybU) (a2:yan) (a3:yas) (f:Ls→Ls→Int→Int→Bool→Prop) (g:Int→Prop):Nat→Ls→Ls→Int→Int→Prop
 | 0,_,_,_,_=>False
 | k+1,l0,l1,i2,i3 =>
 (cbr (decide (i3<i2))
 (asr (decide ((0:Int)≤i3))
 (asr (decide (i3<(((List.length l1):Nat):Int)))
 (lt (List.getD l1 (i3.toNat) .nils) (fun a =>
 (asr (conf (.one (.d)) a)
 (jn (fun (b:Bool→Prop) =>
 (cbr (decide ((((List.length (datOfV a)):Nat):Int)>(0:Int)))
 (asr (decide ((0:Int)<(((List.length (datOfV a)):Nat):Int)))
 (lt (List.getD (datOfV a) 0 .nils) (fun h =>
 (asr (conf (.agg [.i .i64,.i .i64,.i .i64,.i .i64]) h)
 (cbr (decide ((intOfV (cellAt h 0))<(0:Int)))
 (b true)
 (asr (decide ((0:Int)<(((List.length l0):Nat):Int)))
 (lt (List.getD l0 0 .nils) (fun j =>
 (asr (conf (.agg [.i .i64,.d,.d]) j)
 (a2 (intOfV (cellAt j 0)) (fun l m =>
 (lt (IntKind.i64.wrap ((((List.length (datOfV a)):Nat):Int)-(1:Int))) (fun c =>
 (asr (decide ((0:Int)≤c))
 (asr (decide (c<(((List.length (datOfV a)):Nat):Int)))
 (lt (List.getD (datOfV a) (c.toNat) .nils) (fun e =>
 (asr (conf (.agg [.i .i64,.i .i64,.i .i64,.i .i64]) e)
 (a3 l m (intOfV (cellAt e 2)) (intOfV (cellAt e 3)) (fun n =>
 (b n)))))))))))))))))))))
 (b false)))
 (fun o=>(cbr o
 (g (2:Int))
 (lt (IntKind.i64.wrap (i3+(1:Int))) (fun p =>
 (ycr a0 a1 a2 a3 f g k l0 l1 i2 p)))))))))))
 (f l0 l1 i2 i3 false))
def yox (a0:yaY) (a1:ybU) (a2:yan) (a3:yas) (p0 p1:Ls) (K:Int→Prop):Prop :=
 (a0 p0 ([]:Ls) (fun a =>
 (cbr (a !=(0:Int))
 (K a)
 (cbr ((((List.length p1):Nat):Int) !=(((List.length p0):Nat):Int))
 (K (2:Int))
 (∃ c:Nat,ycR a0 a1 a2 a3
 (fun d b _ _ _ _=>(∃ e:Nat,ycr a0 a1 a2 a3
 (fun _ _ _ _ _=>(K (0:Int)))
 (fun f=>(K f))
 e d b (((List.length b):Nat):Int) (0:Int)))
 (fun g=>(K g))
 c p0 p1 p1 (((List.length p1):Nat):Int) (0:Int))))))
def yfL (p0 p1:Ls) (K:Int→Prop):Prop:=yox yaK yaE yak yae p0 p1 K
def yoy (w:yDS) (as:Ls) (K:PV→Prop):Prop :=
 match as with
 | [(.data p0),(.agg [(.data p1)])]=>w p0 p1 (fun r0=>K (.int .i64 r0))
 | _=>False
def yj9 (as:Ls) (K:PV→Prop):Prop:=yoy yfL as K
def yfl (F:Frm) (H:Hp) (A0:Ls→Ls→Ls→Int→Int→Prop):Prop :=
 match F,H with
 | [(0,.v (.data l0)),(3,.box (.agg [(.data l1)])),(25,.v (.data l2)),(26,.v (.int .i64 i3)),(27,.v (.int .i64 i4))],[]=>(A0 l0 l1 l2 i3 i4)
 | _,_=>False
def yfm (F:Frm) (H:Hp) (A0:Ls→Ls→Int→Int→Prop):Prop :=
 match F,H with
 | [(0,.v (.data l0)),(38,.v (.data l1)),(39,.v (.int .i64 i2)),(40,.v (.int .i64 i3))],[]=>(A0 l0 l1 i2 i3)
 | _,_=>False
def yka (Q:Ex→Frm→Hp→Prop):Ls→Ls→Ls→Int→Int→Bool→Prop:=(fun l0 l1 l2 i3 i4 b5=>Q (.exit 0) [(0,.v (.data l0)),(3,.box (.agg [(.data l1)])),(25,.v (.data l2)),(26,.v (.int .i64 i3)),(27,.v (.int .i64 i4)),(28,.v (.bool b5))] [])
def ykb (Q:Ex→Frm→Hp→Prop):Int→Prop:=(fun i0=>Q .ret [(4,.v (.int .i64 i0))] [])
def ykc (Q:Ex→Frm→Hp→Prop):Ls→Ls→Int→Int→Bool→Prop:=(fun l0 l1 i2 i3 b4=>Q (.exit 2) [(0,.v (.data l0)),(38,.v (.data l1)),(39,.v (.int .i64 i2)),(40,.v (.int .i64 i3)),(41,.v (.bool b4))] [])
def ykd (Q:Ex→Frm→Hp→Prop):Int→Prop:=(fun i0=>Q .ret [(4,.v (.int .i64 i0))] [])
def yiL (a0:yaY) (a1:ybU) (a2:yan) (a3:yas) (Q:Ex→Frm→Hp→Prop) (n:Nat) (F:Frm) (H:Hp):Prop:=yfl F H (fun l0 l1 l2 i3 i4=>ycR a0 a1 a2 a3 (yka Q) (ykb Q) n l0 l1 l2 i3 i4)
def yiM (a0:yaY) (a1:ybU) (a2:yan) (a3:yas) (Q:Ex→Frm→Hp→Prop) (n:Nat) (F:Frm) (H:Hp):Prop:=yfm F H (fun l0 l1 i2 i3=>ycr a0 a1 a2 a3 (ykc Q) (ykd Q) n l0 l1 i2 i3)
def ye9 (a0:yaY) (a1:ybU) (a2:yan) (a3:yas):LP:=fun id F H Q =>
 bif Nat.beq id 8206000 then yfl F H (fun l0 l1 l2 i3 i4=>∃ n:Nat,ycR a0 a1 a2 a3 (yka Q) (ykb Q) n l0 l1 l2 i3 i4) else
 bif Nat.beq id 8206001 then yfm F H (fun l0 l1 i2 i3=>∃ n:Nat,ycr a0 a1 a2 a3 (ykc Q) (ykd Q) n l0 l1 i2 i3) else
 False
def yke (e:Es) (a0:yaY) (a1:ybU) (a2:yan) (a3:yas):SE:=⟨(E e),lookS [(ycP,yfB a0),(yeL,yhJ a1),(ybT,ydA a2),(ybx,yeb a3)],lookI [],ye9 a0 a1 a2 a3⟩
theorem ymF (e:Es) (he:EG e):SEOk (yke e yaK yaE yak yae):=yao ⟨(ygH e he),(yjY e he),(ye8 e he),(yfK e he),trivial⟩ trivial he.ok
theorem ys8 (e:Es) (a0 a1 a2 a3 Q n l0 l1 l2 i3 i4):WC (E e) (callW (yke e a0 a1 a2 a3) 10) (ye9 a0 a1 a2 a3) yqa [(0,.v (.data l0)),(3,.box (.agg [(.data l1)])),(25,.v (.data l2)),(26,.v (.int .i64 i3)),(27,.v (.int .i64 i4))] [] (fun x F' H'=>match x with | .norm=>yiL a0 a1 a2 a3 Q n F' H' | .exit i=>Q (.exit i) F' H' | .ret=>Q .ret F' H')=ycR a0 a1 a2 a3 (yka Q) (ykb Q) (n+1) l0 l1 l2 i3 i4:=by kernel_rfl
theorem yxH (e:Es) (_:EG e):LpOk (E e) (ye9 yaK yaE yak yae) yqa:=(yag (by kernel_rfl))
theorem yv5 (e:Es) (he:EG e):∀ F H Q,ye9 yaK yaE yak yae 8206000 F H Q→LoopT (E e) yqa F H Q:=by
 intro F H Q h
 have go:=LoopT.intro (yaF (ymF e he) 10) (yxH e he) (yiL yaK yaE yak yae Q) (by
   intro F H h
   unfold yiL yfl at h
   split at h
   · exact h
   · exact h) (by
   intro n F H h
   unfold yiL yfl at h
   split at h
   · exact (ys8 ..).mpr h
   · exact h.elim)
 have h:yfl F H _:=h
 unfold yfl at h
 split at h
 · obtain ⟨n,h⟩:=h;exact go n _ _ h
 · exact h.elim
theorem ys9 (e:Es) (a0 a1 a2 a3 Q n l0 l1 i2 i3):WC (E e) (callW (yke e a0 a1 a2 a3) 10) (ye9 a0 a1 a2 a3) yqb [(0,.v (.data l0)),(38,.v (.data l1)),(39,.v (.int .i64 i2)),(40,.v (.int .i64 i3))] [] (fun x F' H'=>match x with | .norm=>yiM a0 a1 a2 a3 Q n F' H' | .exit i=>Q (.exit i) F' H' | .ret=>Q .ret F' H')=ycr a0 a1 a2 a3 (ykc Q) (ykd Q) (n+1) l0 l1 i2 i3:=by kernel_rfl
theorem yxI (e:Es) (_:EG e):LpOk (E e) (ye9 yaK yaE yak yae) yqb:=(yag (by kernel_rfl))
theorem yv6 (e:Es) (he:EG e):∀ F H Q,ye9 yaK yaE yak yae 8206001 F H Q→LoopT (E e) yqb F H Q:=by
 intro F H Q h
 have go:=LoopT.intro (yaF (ymF e he) 10) (yxI e he) (yiM yaK yaE yak yae Q) (by
   intro F H h
   unfold yiM yfm at h
   split at h
   · exact h
   · exact h) (by
   intro n F H h
   unfold yiM yfm at h
   split at h
   · exact (ys9 ..).mpr h
   · exact h.elim)
 have h:yfm F H _:=h
 unfold yfm at h
 split at h
 · obtain ⟨n,h⟩:=h;exact go n _ _ h
 · exact h.elim
theorem yCc (e:Es) (a0 a1 a2 a3 p0 p1 K):WP (yke e a0 a1 a2 a3) 11 yC7 [(.data p0),(.agg [(.data p1)])] K=yox a0 a1 a2 a3 p0 p1 (fun r0=>K (.int .i64 r0)):=by kernel_rfl
theorem yta (e:Es) (he:EG e):OkF (E e) yj9 yeM:=by
 intro as K h
 unfold yj9 yoy at h
 split at h
 · exact WP_ok (ymF e he) (ybe (l:=[(8206000,yqa),(8206001,yqb)]) ⟨yv5 e he,yv6 e he,trivial⟩ (by kernel_rfl)) (by kernel_rfl) (by kernel_rfl) (fun _=>yaa (by kernel_rfl) _) (he.num _ (by kernel_rfl)) ((yCc ..).mpr h)
 · exact h.elim
abbrev yaN:Type:=Ls→Ls→(Ls→Int→Prop)→Prop
def yat (p0 p1:Ls) (K:Ls→Int→Prop):Prop :=
 ∃ r0 r1,K r0 r1∧∀ e:Es,EG e→Ans (E e) ybh [(.data p0),(.agg [(.data p1)])] (.tup [(.data r0),(.int .i64 r1)])
def ygi (w:yaN) (as:Ls) (K:PV→Prop):Prop :=
 match as with
 | [(.data p0),(.agg [(.data p1)])]=>w p0 p1 (fun r0 r1=>K (.tup [(.data r0),(.int .i64 r1)]))
 | _=>False
def ytb (as:Ls) (K:PV→Prop):Prop:=ygi yat as K
theorem yhT (e:Es) (he:EG e):OkF (E e) ytb ybh:=by
 intro as K h
 unfold ytb ygi at h
 split at h
 · obtain ⟨r0,r1,hk,ha⟩:=h
   exact ⟨_,hk,ha e he⟩
 · exact h.elim
abbrev yez:Type:=Int→Int→Int→Int→Ls→(Bool→Prop)→Prop
def ycn (a0:yas) (x0:Int→Int→Int→Int→Ls→Int→Int→Bool→Prop) (x1:Int→Int→Int→Int→Int→Prop):Nat→Int→Int→Int→Int→Ls→Int→Int→Prop
 | 0,_,_,_,_,_,_,_=>False
 | n+1,i0,i1,i2,i3,l4,i5,i6 =>
 (cbr (decide (i6<i5))
 (asr (decide ((0:Int)≤i6))
 (asr (decide (i6<(((List.length l4):Nat):Int)))
 (lt (List.getD l4 (i6.toNat) .nils) (fun a =>
 (asr (conf (.agg [.i .i64,.i .i64,.i .i64,.i .i64]) a)
 (jn (fun (b:Bool→Prop) =>
 (a0 i0 i1 (intOfV (cellAt a 2)) (intOfV (cellAt a 3)) (fun c =>
 (cbr c
 (a0 (intOfV (cellAt a 0)) (intOfV (cellAt a 1)) i2 i3 (fun d =>
 (b d)))
 (b false)))))
 (fun e=>(cbr e
 (x1 i0 i1 i2 i3 i6)
 (lt (IntKind.i64.wrap (i6+(1:Int))) (fun f =>
 (ycn a0 x0 x1 n i0 i1 i2 i3 l4 i5 f)))))))))))
 (x0 i0 i1 i2 i3 l4 i5 i6 false))
def yla (a0:yas) (p0 p1 p2 p3:Int) (p4:Ls) (K:Bool→Prop):Prop :=
 (jn (fun (a:Int→Int→Int→Int→Int→Prop) =>
 (∃ n:Nat,ycn a0
 (fun b c d e _ _ _ _=>(a b c d e (-1:Int)))
 (fun f g h i j=>(a f g h i j))
 n p0 p1 p2 p3 p4 (((List.length p4):Nat):Int) (0:Int)))
 (fun _ _ _ _ k=>(K (decide (k≥(0:Int))))))
def ybS (p0 p1 p2 p3:Int) (p4:Ls) (K:Bool→Prop):Prop:=yla yae p0 p1 p2 p3 p4 K
def yic (w:yez) (as:Ls) (K:PV→Prop):Prop :=
 match as with
 | [(.agg [(.int .i64 p0),(.int .i64 p1),(.int .i64 p2),(.int .i64 p3)]),(.eptr [(.data p4)] 0 0)]=>w p0 p1 p2 p3 p4 (fun r0=>K (.bool r0))
 | _=>False
def yqj (as:Ls) (K:PV→Prop):Prop:=yic ybS as K
def yer (F:Frm) (H:Hp) (A0:Int→Int→Int→Int→Ls→Int→Int→Prop):Prop :=
 match F,H with
 | [(0,.v (.data l4)),(1,.v (.fn (.func q0) [] [(.ptr 0 1 0 0)])),(7,.v (.int .i64 i5)),(8,.v (.int .i64 i6))],[⟨false,false,4,[(.agg [(.int .i64 i0),(.int .i64 i1),(.int .i64 i2),(.int .i64 i3)])]⟩]=>asr (Nat.beq q0 ydv) (A0 i0 i1 i2 i3 l4 i5 i6)
 | _,_=>False
def yis (Q:Ex→Frm→Hp→Prop):Int→Int→Int→Int→Ls→Int→Int→Bool→Prop:=(fun i0 i1 i2 i3 l4 i5 i6 b7=>Q (.exit 0) [(0,.v (.data l4)),(1,.v (.fn (.func ydv) [] [(.ptr 0 1 0 0)])),(7,.v (.int .i64 i5)),(8,.v (.int .i64 i6)),(9,.v (.bool b7))] [⟨false,false,4,([(.agg [(.int .i64 i0),(.int .i64 i1),(.int .i64 i2),(.int .i64 i3)])]:Ls)⟩])
def yit (Q:Ex→Frm→Hp→Prop):Int→Int→Int→Int→Int→Prop:=(fun i0 i1 i2 i3 i4=>Q .ret [(4,.v (.int .i64 i4))] [⟨false,false,4,([(.agg [(.int .i64 i0),(.int .i64 i1),(.int .i64 i2),(.int .i64 i3)])]:Ls)⟩])
def yhw (a0:yas) (Q:Ex→Frm→Hp→Prop) (n:Nat) (F:Frm) (H:Hp):Prop:=yer F H (fun i0 i1 i2 i3 l4 i5 i6=>ycn a0 (yis Q) (yit Q) n i0 i1 i2 i3 l4 i5 i6)
def ygj (a0:yas):LP:=fun id F H Q =>
 bif Nat.beq id 68674300 then yer F H (fun i0 i1 i2 i3 l4 i5 i6=>∃ n:Nat,ycn a0 (yis Q) (yit Q) n i0 i1 i2 i3 l4 i5 i6) else
 False
def yqk (e:Es) (a0:yas):SE:=⟨(E e),lookS [(ybx,yeb a0)],lookI [(yaZ,ybZ),(ydv,yoX)],ygj a0⟩
def yql (e:Es) (a0:yas):SE:=⟨(E e),lookS [(ybx,yeb a0)],lookI [(yaZ,ybZ),(ycs,yfW),(ydv,yoX)],ygj a0⟩
theorem yxJ (e:Es) (he:EG e):SEOk (yqk e yae):=yao ⟨(yfK e he),trivial⟩ ⟨⟨by kernel_rfl,by kernel_rfl,rfl,fun as=>yaa (by kernel_rfl) as,he.num _ (by kernel_rfl),(yag (by kernel_rfl))⟩,⟨by kernel_rfl,by kernel_rfl,rfl,fun as=>yaa (by kernel_rfl) as,he.num _ (by kernel_rfl),(yag (by kernel_rfl))⟩,trivial⟩ he.ok
theorem yrd (e:Es) (a0 Q n i0 i1 i2 i3 l4 i5 i6):WC (E e) (callW (yqk e a0) 10) (ygj a0) ygv [(0,.v (.data l4)),(1,.v (.fn (.func ydv) [] [(.ptr 0 1 0 0)])),(7,.v (.int .i64 i5)),(8,.v (.int .i64 i6))] [⟨false,false,4,([(.agg [(.int .i64 i0),(.int .i64 i1),(.int .i64 i2),(.int .i64 i3)])]:Ls)⟩] (fun x F' H'=>match x with | .norm=>yhw a0 Q n F' H' | .exit i=>Q (.exit i) F' H' | .ret=>Q .ret F' H')=ycn a0 (yis Q) (yit Q) (n+1) i0 i1 i2 i3 l4 i5 i6:=by kernel_rfl
theorem yuj (e:Es) (_:EG e):LpOk (E e) (ygj yae) ygv:=(yag (by kernel_rfl))
theorem ytc (e:Es) (he:EG e):∀ F H Q,ygj yae 68674300 F H Q→LoopT (E e) ygv F H Q:=by
 intro F H Q h
 have go:=LoopT.intro (yaF (yxJ e he) 10) (yuj e he) (yhw yae Q) (by
   intro F H h
   unfold yhw yer at h
   split at h
   · obtain ⟨hg,k⟩:=yaf.1 h
     clear h
     have h:=k
     clear k
     try simp only [Bool.and_eq_true,decide_eq_true_eq] at hg
     have g0:=hg;have g0:=Nat.eq_of_beq_eq_true g0;subst g0;exact h
   · exact h) (by
   intro n F H h
   unfold yhw yer at h
   split at h
   · obtain ⟨hg,k⟩:=yaf.1 h
     clear h
     have h:=k
     clear k
     try simp only [Bool.and_eq_true,decide_eq_true_eq] at hg
     have g0:=hg;have g0:=Nat.eq_of_beq_eq_true g0;subst g0;exact (yrd ..).mpr h
   · exact h.elim)
 have h:yer F H _:=h
 unfold yer at h
 split at h
 · obtain ⟨hg,n,h⟩:=yaf.1 h;exact go n _ _ (yaf.2 ⟨hg,h⟩)
 · exact h.elim
theorem yxK (e:Es) (he:EG e):SEOk (yql e yae):=yao ⟨(yfK e he),trivial⟩ ⟨⟨by kernel_rfl,by kernel_rfl,rfl,fun as=>yaa (by kernel_rfl) as,he.num _ (by kernel_rfl),(yag (by kernel_rfl))⟩,⟨by kernel_rfl,by kernel_rfl,rfl,fun as=>yaa (by kernel_rfl) as,he.num _ (by kernel_rfl),(ybe (l:=[(68674300,ygv)]) ⟨ytc e he,trivial⟩ (by kernel_rfl))⟩,⟨by kernel_rfl,by kernel_rfl,rfl,fun as=>yaa (by kernel_rfl) as,he.num _ (by kernel_rfl),(yag (by kernel_rfl))⟩,trivial⟩ he.ok
theorem yy6 (e:Es) (a0 p0 p1 p2 p3 p4 K):WP (yql e a0) 11 yz9 [(.agg [(.int .i64 p0),(.int .i64 p1),(.int .i64 p2),(.int .i64 p3)]),(.eptr [(.data p4)] 0 0)] K=yla a0 p0 p1 p2 p3 p4 (fun r0=>K (.bool r0)):=by kernel_rfl
theorem ylb (e:Es) (he:EG e):OkF (E e) yqj ycC:=by
 intro as K h
 unfold yqj yic at h
 split at h
 · exact WP_ok (yxK e he) (yag (by kernel_rfl)) (by kernel_rfl) (by kernel_rfl) (fun _=>yaa (by kernel_rfl) _) (he.num _ (by kernel_rfl)) ((yy6 ..).mpr h)
 · exact h.elim
abbrev ybs:Type:=Ls→Ls→(Bool→Prop)→Prop
def ycS (a0:yez) (x0:Ls→Ls→Int→Int→Bool→Prop) (x1:Ls→Int→Prop):Nat→Ls→Ls→Int→Int→Prop
 | 0,_,_,_,_=>False
 | n+1,l0,l1,i2,i3 =>
 (cbr (decide (i3<i2))
 (asr (decide ((0:Int)≤i3))
 (asr (decide (i3<(((List.length l1):Nat):Int)))
 (lt (List.getD l1 (i3.toNat) .nils) (fun a =>
 (asr (conf (.agg [.i .i64,.i .i64,.i .i64,.i .i64]) a)
 (a0 (intOfV (cellAt a 0)) (intOfV (cellAt a 1)) (intOfV (cellAt a 2)) (intOfV (cellAt a 3)) l0 (fun b =>
 (cbr b
 (x1 l0 i3)
 (lt (IntKind.i64.wrap (i3+(1:Int))) (fun c =>
 (ycS a0 x0 x1 n l0 l1 i2 c)))))))))))
 (x0 l0 l1 i2 i3 false))
def yoz (a0:yez) (p0 p1:Ls) (K:Bool→Prop):Prop :=
 (jn (fun (a:Ls→Int→Prop) =>
 (∃ n:Nat,ycS a0
 (fun b _ _ _ _=>(a b (-1:Int)))
 (fun c d=>(a c d))
 n p1 p0 (((List.length p0):Nat):Int) (0:Int)))
 (fun _ e=>(K (decide (e≥(0:Int))))))
def yaj (p0 p1:Ls) (K:Bool→Prop):Prop:=yoz ybS p0 p1 K
def ykf (w:ybs) (as:Ls) (K:PV→Prop):Prop :=
 match as with
 | [(.data p0),(.data p1)]=>w p0 p1 (fun r0=>K (.bool r0))
 | _=>False
def ytd (as:Ls) (K:PV→Prop):Prop:=ykf yaj as K
def yfn (F:Frm) (H:Hp) (A0:Ls→Ls→Int→Int→Prop):Prop :=
 match F,H with
 | [(0,.v (.data l1)),(1,.v (.fn (.func q0) [] [(.ptr 0 1 0 0)])),(7,.v (.int .i64 i2)),(8,.v (.int .i64 i3))],[⟨false,false,1,[(.data l0)]⟩]=>asr (Nat.beq q0 ycC) (A0 l0 l1 i2 i3)
 | _,_=>False
def ykg (Q:Ex→Frm→Hp→Prop):Ls→Ls→Int→Int→Bool→Prop:=(fun l0 l1 i2 i3 b4=>Q (.exit 0) [(0,.v (.data l1)),(1,.v (.fn (.func ycC) [] [(.ptr 0 1 0 0)])),(7,.v (.int .i64 i2)),(8,.v (.int .i64 i3)),(9,.v (.bool b4))] [⟨false,false,1,([(.data l0)]:Ls)⟩])
def ykh (Q:Ex→Frm→Hp→Prop):Ls→Int→Prop:=(fun l0 i1=>Q .ret [(4,.v (.int .i64 i1))] [⟨false,false,1,([(.data l0)]:Ls)⟩])
def yiN (a0:yez) (Q:Ex→Frm→Hp→Prop) (n:Nat) (F:Frm) (H:Hp):Prop:=yfn F H (fun l0 l1 i2 i3=>ycS a0 (ykg Q) (ykh Q) n l0 l1 i2 i3)
def yhU (a0:yez):LP:=fun id F H Q =>
 bif Nat.beq id 68674300 then yfn F H (fun l0 l1 i2 i3=>∃ n:Nat,ycS a0 (ykg Q) (ykh Q) n l0 l1 i2 i3) else
 False
def yte (e:Es) (a0:yez):SE:=⟨(E e),lookS [(ycC,yic a0)],lookI [(yaZ,ybZ)],yhU a0⟩
def ytf (e:Es) (a0:yez):SE:=⟨(E e),lookS [(ycC,yic a0)],lookI [(yaZ,ybZ),(ycs,yfW)],yhU a0⟩
theorem yAz (e:Es) (he:EG e):SEOk (yte e ybS):=yao ⟨(ylb e he),trivial⟩ ⟨⟨by kernel_rfl,by kernel_rfl,rfl,fun as=>yaa (by kernel_rfl) as,he.num _ (by kernel_rfl),(yag (by kernel_rfl))⟩,trivial⟩ he.ok
theorem ytg (e:Es) (a0 Q n l0 l1 i2 i3):WC (E e) (callW (yte e a0) 10) (yhU a0) ygv [(0,.v (.data l1)),(1,.v (.fn (.func ycC) [] [(.ptr 0 1 0 0)])),(7,.v (.int .i64 i2)),(8,.v (.int .i64 i3))] [⟨false,false,1,([(.data l0)]:Ls)⟩] (fun x F' H'=>match x with | .norm=>yiN a0 Q n F' H' | .exit i=>Q (.exit i) F' H' | .ret=>Q .ret F' H')=ycS a0 (ykg Q) (ykh Q) (n+1) l0 l1 i2 i3:=by kernel_rfl
theorem yxL (e:Es) (_:EG e):LpOk (E e) (yhU ybS) ygv:=(yag (by kernel_rfl))
theorem yv7 (e:Es) (he:EG e):∀ F H Q,yhU ybS 68674300 F H Q→LoopT (E e) ygv F H Q:=by
 intro F H Q h
 have go:=LoopT.intro (yaF (yAz e he) 10) (yxL e he) (yiN ybS Q) (by
   intro F H h
   unfold yiN yfn at h
   split at h
   · obtain ⟨hg,k⟩:=yaf.1 h
     clear h
     have h:=k
     clear k
     try simp only [Bool.and_eq_true,decide_eq_true_eq] at hg
     have g0:=hg;have g0:=Nat.eq_of_beq_eq_true g0;subst g0;exact h
   · exact h) (by
   intro n F H h
   unfold yiN yfn at h
   split at h
   · obtain ⟨hg,k⟩:=yaf.1 h
     clear h
     have h:=k
     clear k
     try simp only [Bool.and_eq_true,decide_eq_true_eq] at hg
     have g0:=hg;have g0:=Nat.eq_of_beq_eq_true g0;subst g0;exact (ytg ..).mpr h
   · exact h.elim)
 have h:yfn F H _:=h
 unfold yfn at h
 split at h
 · obtain ⟨hg,n,h⟩:=yaf.1 h;exact go n _ _ (yaf.2 ⟨hg,h⟩)
 · exact h.elim
theorem yAA (e:Es) (he:EG e):SEOk (ytf e ybS):=yao ⟨(ylb e he),trivial⟩ ⟨⟨by kernel_rfl,by kernel_rfl,rfl,fun as=>yaa (by kernel_rfl) as,he.num _ (by kernel_rfl),(yag (by kernel_rfl))⟩,⟨by kernel_rfl,by kernel_rfl,rfl,fun as=>yaa (by kernel_rfl) as,he.num _ (by kernel_rfl),(ybe (l:=[(68674300,ygv)]) ⟨yv7 e he,trivial⟩ (by kernel_rfl))⟩,trivial⟩ he.ok
theorem yCd (e:Es) (a0 p0 p1 K):WP (ytf e a0) 11 yC9 [(.data p0),(.data p1)] K=yoz a0 p0 p1 (fun r0=>K (.bool r0)):=by kernel_rfl
theorem yoA (e:Es) (he:EG e):OkF (E e) ytd ygX:=by
 intro as K h
 unfold ytd ykf at h
 split at h
 · exact WP_ok (yAA e he) (yag (by kernel_rfl)) (by kernel_rfl) (by kernel_rfl) (fun _=>yaa (by kernel_rfl) _) (he.num _ (by kernel_rfl)) ((yCd ..).mpr h)
 · exact h.elim
abbrev yuk:Type:=Int→Int→Int→Int→Int→Int→Int→Int→(Int→Prop)→Prop
def yhV (a0:ybD) (p0 p1 _ _ p4 p5 _ _:Int) (K:Int→Prop):Prop :=
 (a0 p0 p1 p4 p5 (fun a _ =>
 (K a)))
def yiu (p0 p1 p2 p3 p4 p5 p6 p7:Int) (K:Int→Prop):Prop:=yhV ybL p0 p1 p2 p3 p4 p5 p6 p7 K
def ymb (w:yuk) (as:Ls) (K:PV→Prop):Prop :=
 match as with
 | [(.agg [(.int .i64 p0),(.int .i64 p1),(.int .i64 p2),(.int .i64 p3)]),(.agg [(.int .i64 p4),(.int .i64 p5),(.int .i64 p6),(.int .i64 p7)])]=>w p0 p1 p2 p3 p4 p5 p6 p7 (fun r0=>K (.int .i64 r0))
 | _=>False
def ymc (as:Ls) (K:PV→Prop):Prop:=ymb yiu as K
def yth (_:ybD):LP:=fun _ _ _ _ =>
 False
def ymd (e:Es) (a0:ybD):SE:=⟨(E e),lookS [(ycv,yfy a0)],lookI [],yth a0⟩
theorem yrV (e:Es) (he:EG e):SEOk (ymd e ybL):=yao ⟨(ygC e he),trivial⟩ trivial he.ok
theorem yti (e:Es) (a0 p0 p1 p2 p3 p4 p5 p6 p7 K):WP (ymd e a0) 11 ytX [(.agg [(.int .i64 p0),(.int .i64 p1),(.int .i64 p2),(.int .i64 p3)]),(.agg [(.int .i64 p4),(.int .i64 p5),(.int .i64 p6),(.int .i64 p7)])] K=yhV a0 p0 p1 p2 p3 p4 p5 p6 p7 (fun r0=>K (.int .i64 r0)):=by kernel_rfl
theorem ytj (e:Es) (he:EG e):OkF (E e) ymc ycO:=by
 intro as K h
 unfold ymc ymb at h
 split at h
 · exact WP_ok (yrV e he) (yag (by kernel_rfl)) (by kernel_rfl) (by kernel_rfl) (fun _=>yaa (by kernel_rfl) _) (he.num _ (by kernel_rfl)) ((yti ..).mpr h)
 · exact h.elim
abbrev yaL:Type:=Ls→Ls→Ls→Ls→(Bool→Prop)→Prop
def ybN (a0:yan) (a1:yas) (a:Ls→Int→Ls→Int→Int→Bool→Prop):Nat→Ls→Int→Ls→Int→Int→Prop
 | 0,_,_,_,_,_=>False
 | e+1,l0,i1,l2,i3,i4 =>
 (cbr (decide (i4<i3))
 (asr (decide ((0:Int)≤i4))
 (asr (decide (i4<(((List.length l2):Nat):Int)))
 (lt (List.getD l2 (i4.toNat) .nils) (fun b =>
 (asr (conf (.one (.d)) b)
 (lt (IntKind.i64.wrap (i1+(((List.length (datOfV b)):Nat):Int))) (fun c =>
 (cbr (decide (c<(0:Int)))
 False
 (lt (IntKind.i64.wrap (i4+(1:Int))) (fun f =>
 (ybN a0 a1 a e l0 c l2 i3 f)))))))))))
 (a l0 i1 l2 i3 i4 false))
def ya3 (a0:yan) (a1:yas) (b:Ls→Nat→Ls→Int→Int→Bool→Prop):Nat→Ls→Nat→Ls→Int→Int→Prop
 | 0,_,_,_,_,_=>False
 | c+1,l0,n1,l3,i4,i5 =>
 (cbr (decide (i5<i4))
 (asr (decide ((0:Int)≤i5))
 (asr (decide (i5<(((List.length l3):Nat):Int)))
 (lt (List.getD l3 (i5.toNat) .nils) (fun a =>
 (asr (conf (.one (.d)) a)
 (asr (headOk 4 (datOfV a))
 (asr (decide ((List.length l0)=(List.length l0)))
 (asr (decide ((0+n1)≤(List.length l0)))
 (cbr (List.isEmpty (datOfV a))
 (lt (IntKind.i64.wrap (i5+(1:Int))) (fun e =>
 (asr (decide ((List.length l0)=List.length l0))
 (ya3 a0 a1 b c l0 n1 l3 i4 e))))
 (asr (decide (((0+n1)+(List.length (datOfV a)))≤(List.length l0)))
 (lt (IntKind.i64.wrap (i5+(1:Int))) (fun f =>
 (asr (decide ((List.length l0)=List.length ((List.take (0+n1) l0)++((datOfV a)++(List.drop ((0+n1)+(List.length (datOfV a))) l0)))))
 (ya3 a0 a1 b c ((List.take (0+n1) l0)++((datOfV a)++(List.drop ((0+n1)+(List.length (datOfV a))) l0))) (n1+(List.length (datOfV a))) l3 i4 f))))))))))))))
 (b l0 n1 l3 i4 i5 false))
def ybO (a0:yan) (a1:yas) (b:Ls→Int→Int→Bool→Prop) (c:Ls→Nat→Ls→Int→Int→Bool→Prop):Nat→Ls→Int→Int→Prop
 | 0,_,_,_=>False
 | e+1,l0,i1,i2 =>
 (cbr (decide (i2<i1))
 (asr (decide ((0:Int)≤i2))
 (asr (decide (i2<(((List.length l0):Nat):Int)))
 (lt (List.getD l0 (i2.toNat) .nils) (fun a =>
 (asr (conf (.one (.d)) a)
 (asr (headOk 4 (datOfV a))
 (cbr (List.isEmpty (datOfV a))
 (lt (IntKind.i64.wrap (i2+(1:Int))) (fun f =>
 (ybO a0 a1 b c e l0 i1 f)))
 (asr (decide (((List.length (datOfV a))+64)*(32+1)≤room))
 (lt (IntKind.i64.wrap (i2+(1:Int))) (fun g =>
 (asr (decide ((List.length (datOfV a))=List.length (datOfV a)))
 (ya3 a0 a1 c e (datOfV a) (List.length (datOfV a)) l0 i1 g))))))))))))
 (b l0 i1 i2 false))
def ybP (a0:yan) (a1:yas) (b:Ls→Ls→Ls→Ls→Ls→Int→Int→Nat→Int→Int→Bool→Prop) (c:Ls→Bool→Prop):Nat→Ls→Ls→Ls→Ls→Ls→Int→Int→Nat→Int→Int→Prop
 | 0,_,_,_,_,_,_,_,_,_,_=>False
 | e+1,l0,l1,l2,l3,l4,i5,i6,n7,i9,i10 =>
 (cbr (decide (i10<i9))
 (jn (fun (d:Int→Int→Prop) =>
 (asr (decide ((0:Int)≤i10))
 (asr (decide (i10<((n7:Nat):Int)))
 (asr (decide ((List.length l0)=(List.length l0)))
 (asr (decide ((0+(i10.toNat))<(List.length l0)))
 (lt (List.getD l0 (0+(i10.toNat)) .nils) (fun a =>
 (asr (conf (.agg [.i .i64,.i .i64,.i .i64,.i .i64]) a)
 (a1 i5 i6 (intOfV (cellAt a 0)) (intOfV (cellAt a 1)) (fun f =>
 (cbr f
 (c l0 true)
 (a1 i5 i6 (intOfV (cellAt a 2)) (intOfV (cellAt a 3)) (fun g =>
 (cbr g
 (d (intOfV (cellAt a 2)) (intOfV (cellAt a 3)))
 (d i5 i6)))))))))))))))
 (fun h j=>(lt (IntKind.i64.wrap (i10+(1:Int))) (fun k =>
 (asr (decide ((List.length l0)=List.length l0))
 (ybP a0 a1 b c e l0 l1 l2 l3 l4 h j n7 i9 k))))))
 (b l0 l1 l2 l3 l4 i5 i6 n7 i9 i10 false))
def ydP (_:yan) (_:yas) (a:Ls→Ls→Ls→Ls→Int→Int→Int→Int→Bool→Prop):Nat→Ls→Ls→Ls→Ls→Int→Int→Int→Int→Prop
 | 0,_,_,_,_,_,_,_,_=>False
 | _+1,l0,l1,l2,l3,i4,i5,i6,i7 =>
 (cbr (decide (i7<i6))
 False
 (a l0 l1 l2 l3 i4 i5 i6 i7 false))
end Go.Pf.Vc
