/- Part 4 of what the statement rests on: a verified evaluator over pure values, the conditions of the program's functions, and their plain laws. -/
import Derived.Test.YtegkpannhahmcaaGreatDoorCfW3
namespace Go.Pf.Vc
open Go Go.Pf
set_option maxRecDepth 100000
def yiW (a0:yan) (a1:yas) (p0 p1 p2 p3:Ls) (K:Bool→Prop):Prop :=
 (jn (fun (h:Ls→Nat→Prop) =>
 (∃ p:Nat,ybN a0 a1
 (fun e j _ _ _ _=>(cbr (decide (j<(0:Int)))
 False
 (jn (fun k =>
 (lt (IntKind.i64.wrap (j-(0:Int))) (fun a =>
 (cbr (decide (a>(0:Int)))
 (asr (decide ((0:Int)≤a))
 (cbr (decide ((a.toNat)=0))
 k
 (asr (decide (((List.length (List.replicate (a.toNat) ((.agg [(.int .i64 (0)),(.int .i64 (0)),(.int .i64 (0)),(.int .i64 (0))]):PV)))+64)*(32+1)≤room))
 (asr ((decide ((0:Int)≤(((List.length (List.replicate (a.toNat) ((.agg [(.int .i64 (0)),(.int .i64 (0)),(.int .i64 (0)),(.int .i64 (0))]):PV))):Nat):Int)))||(decide ((0:Int)≤(((List.length (List.replicate (a.toNat) ((.agg [(.int .i64 (0)),(.int .i64 (0)),(.int .i64 (0)),(.int .i64 (0))]):PV))):Nat):Int))))
 (asr (decide ((List.length (List.replicate (a.toNat) ((.agg [(.int .i64 (0)),(.int .i64 (0)),(.int .i64 (0)),(.int .i64 (0))]):PV)))=List.length (List.replicate (a.toNat) ((.agg [(.int .i64 (0)),(.int .i64 (0)),(.int .i64 (0)),(.int .i64 (0))]):PV))))
 (∃ f:Nat,ya3 a0 a1
 (fun q r _ _ _ _=>(h q r))
 f (List.replicate (a.toNat) ((.agg [(.int .i64 (0)),(.int .i64 (0)),(.int .i64 (0)),(.int .i64 (0))]):PV)) 0 e (((List.length e):Nat):Int) (0:Int)))))))
 k))))
 (∃ f:Nat,ybO a0 a1
 (fun _ _ _ _=>(a0 (0:Int) (fun t u =>
 (∃ g:Nat,ydP a0 a1
 (fun l _ _ _ v w _ _ _=>(asr (decide ((0:Int)<(((List.length l):Nat):Int)))
 (lt (List.getD l 0 .nils) (fun m =>
 (asr (conf (.agg [.i .i64,.d,.d]) m)
 (a0 (intOfV (cellAt m 0)) (fun x y =>
 (a1 v w x y (fun z =>
 (K z))))))))))
 g p0 p1 p2 p3 t u (0:Int) (0:Int)))))
 (fun A B _ _ _ _=>(h A B))
 f e (((List.length e):Nat):Int) (0:Int)))))
 p p1 (0:Int) p1 (((List.length p1):Nat):Int) (0:Int)))
 (fun b c=>(asr (Srt.cond yrP.s b 0 c (List.length b) 4 false)
 (a0 (0:Int) (fun C D =>
 (asr (decide ((List.length b)=List.length (List.take 0 b++(Srt.sorted yrP.s yrP.srt (List.take c (List.drop 0 b))++List.drop (0+c) b))))
 (∃ g:Nat,ybP a0 a1
 (fun _ n _ _ _ E F _ _ _ _=>(asr (decide ((0:Int)<(((List.length n):Nat):Int)))
 (lt (List.getD n 0 .nils) (fun o =>
 (asr (conf (.agg [.i .i64,.d,.d]) o)
 (a0 (intOfV (cellAt o 0)) (fun G H =>
 (a1 E F G H (fun I =>
 (K I))))))))))
 (fun _ J=>(K J))
 g (List.take 0 b++(Srt.sorted yrP.s yrP.srt (List.take c (List.drop 0 b))++List.drop (0+c) b)) p0 p1 p2 p3 C D c ((c:Nat):Int) (0:Int))))))))
def yac (p0 p1 p2 p3:Ls) (K:Bool→Prop):Prop:=yiW yak yae p0 p1 p2 p3 K
def ygN (w:yaL) (as:Ls) (K:PV→Prop):Prop :=
 match as with
 | [(.eptr [(.agg [(.data p0),(.data p1),(.data p2),(.data p3)])] 0 0)]=>w p0 p1 p2 p3 (fun r0=>K (.bool r0))
 | _=>False
def yoB (as:Ls) (K:PV→Prop):Prop:=ygN yac as K
def ydD (F:Frm) (H:Hp) (A0:Ls→Int→Ls→Int→Int→Prop):Prop :=
 match F,H with
 | [(0,.v (.data l0)),(3,.v (.int .i64 i1)),(9,.v (.data l2)),(10,.v (.int .i64 i3)),(11,.v (.int .i64 i4))],[]=>(A0 l0 i1 l2 i3 i4)
 | _,_=>False
def ydE (F:Frm) (H:Hp) (A0:Ls→Int→Int→Prop) (A1:Ls→Nat→Ls→Int→Int→Prop):Prop :=
 match F,H with
 | [(6,.v .nils),(25,.v (.data l0)),(26,.v (.int .i64 i1)),(27,.v (.int .i64 i2))],[]=>(A0 l0 i1 i2)
 | [(6,.v (.own 0 0 n1 t2 none)),(25,.v (.data l3)),(26,.v (.int .i64 i4)),(27,.v (.int .i64 i5))],[⟨false,true,4,l0⟩]=>asr (decide (t2=List.length l0)) (A1 l0 n1 l3 i4 i5)
 | _,_=>False
def ydF (F:Frm) (H:Hp) (A0:Ls→Ls→Ls→Ls→Ls→Int→Int→Nat→Int→Int→Prop) (A1:Ls→Ls→Ls→Ls→Int→Int→Int→Int→Prop):Prop :=
 match F,H with
 | [(0,.v (.eptr [(.agg [(.data l1),(.data l2),(.data l3),(.data l4)])] 0 0)),(4,.box (.agg [(.int .i64 i5),(.int .i64 i6)])),(15,.v (.own 0 0 n7 t8 none)),(16,.v (.int .i64 i9)),(17,.v (.int .i64 i10))],[⟨false,true,4,l0⟩]=>asr (decide (t8=List.length l0)) (A0 l0 l1 l2 l3 l4 i5 i6 n7 i9 i10)
 | [(0,.v (.eptr [(.agg [(.data l0),(.data l1),(.data l2),(.data l3)])] 0 0)),(4,.box (.agg [(.int .i64 i4),(.int .i64 i5)])),(15,.v .nils),(16,.v (.int .i64 i6)),(17,.v (.int .i64 i7))],[]=>(A1 l0 l1 l2 l3 i4 i5 i6 i7)
 | _,_=>False
def yhk (Q:Ex→Frm→Hp→Prop):Ls→Int→Ls→Int→Int→Bool→Prop:=(fun l0 i1 l2 i3 i4 b5=>Q (.exit 0) [(0,.v (.data l0)),(3,.v (.int .i64 i1)),(9,.v (.data l2)),(10,.v (.int .i64 i3)),(11,.v (.int .i64 i4)),(12,.v (.bool b5))] [])
def yhl (Q:Ex→Frm→Hp→Prop):Ls→Int→Int→Bool→Prop:=(fun l0 i1 i2 b3=>Q (.exit 2) [(6,.v .nils),(25,.v (.data l0)),(26,.v (.int .i64 i1)),(27,.v (.int .i64 i2)),(28,.v (.bool b3))] [])
def ycT (Q:Ex→Frm→Hp→Prop):Ls→Nat→Ls→Int→Int→Bool→Prop:=(fun l0 n1 l3 i4 i5 b6=>Q (.exit 2) [(6,.v (.own 0 0 n1 (List.length l0) none)),(25,.v (.data l3)),(26,.v (.int .i64 i4)),(27,.v (.int .i64 i5)),(28,.v (.bool b6))] [⟨false,true,4,l0⟩])
def yhm (Q:Ex→Frm→Hp→Prop):Ls→Ls→Ls→Ls→Ls→Int→Int→Nat→Int→Int→Bool→Prop:=(fun l0 l1 l2 l3 l4 i5 i6 n7 i9 i10 b11=>Q (.exit 0) [(0,.v (.eptr [(.agg [(.data l1),(.data l2),(.data l3),(.data l4)])] 0 0)),(4,.box (.agg [(.int .i64 i5),(.int .i64 i6)])),(15,.v (.own 0 0 n7 (List.length l0) none)),(16,.v (.int .i64 i9)),(17,.v (.int .i64 i10)),(18,.v (.bool b11))] [⟨false,true,4,l0⟩])
def yhn (Q:Ex→Frm→Hp→Prop):Ls→Bool→Prop:=(fun l0 b1=>Q .ret [(2,.v (.bool b1))] [⟨false,true,4,l0⟩])
def yho (Q:Ex→Frm→Hp→Prop):Ls→Ls→Ls→Ls→Int→Int→Int→Int→Bool→Prop:=(fun l0 l1 l2 l3 i4 i5 i6 i7 b8=>Q (.exit 0) [(0,.v (.eptr [(.agg [(.data l0),(.data l1),(.data l2),(.data l3)])] 0 0)),(4,.box (.agg [(.int .i64 i4),(.int .i64 i5)])),(15,.v .nils),(16,.v (.int .i64 i6)),(17,.v (.int .i64 i7)),(18,.v (.bool b8))] [])
def yf3 (a0:yan) (a1:yas) (Q:Ex→Frm→Hp→Prop) (n:Nat) (F:Frm) (H:Hp):Prop:=ydD F H (fun l0 i1 l2 i3 i4=>ybN a0 a1 (yhk Q) n l0 i1 l2 i3 i4)
def yeE (a0:yan) (a1:yas) (Q:Ex→Frm→Hp→Prop) (n:Nat) (F:Frm) (H:Hp):Prop:=ydE F H (fun l0 i1 i2=>ybO a0 a1 (yhl Q) (ycT Q) n l0 i1 i2) (fun l0 n1 l3 i4 i5=>ya3 a0 a1 (ycT Q) n l0 n1 l3 i4 i5)
def yeF (a0:yan) (a1:yas) (Q:Ex→Frm→Hp→Prop) (n:Nat) (F:Frm) (H:Hp):Prop:=ydF F H (fun l0 l1 l2 l3 l4 i5 i6 n7 i9 i10=>ybP a0 a1 (yhm Q) (yhn Q) n l0 l1 l2 l3 l4 i5 i6 n7 i9 i10) (fun l0 l1 l2 l3 i4 i5 i6 i7=>ydP a0 a1 (yho Q) n l0 l1 l2 l3 i4 i5 i6 i7)
def ya5 (a0:yan) (a1:yas):LP:=fun id F H Q =>
 bif Nat.beq id 14451100 then ydD F H (fun l0 i1 l2 i3 i4=>∃ n:Nat,ybN a0 a1 (yhk Q) n l0 i1 l2 i3 i4) else
 bif Nat.beq id 14451101 then ydE F H (fun l0 i1 i2=>∃ n:Nat,ybO a0 a1 (yhl Q) (ycT Q) n l0 i1 i2) (fun l0 n1 l3 i4 i5=>∃ n:Nat,ya3 a0 a1 (ycT Q) n l0 n1 l3 i4 i5) else
 bif Nat.beq id 93107500 then ydF F H (fun l0 l1 l2 l3 l4 i5 i6 n7 i9 i10=>∃ n:Nat,ybP a0 a1 (yhm Q) (yhn Q) n l0 l1 l2 l3 l4 i5 i6 n7 i9 i10) (fun l0 l1 l2 l3 i4 i5 i6 i7=>∃ n:Nat,ydP a0 a1 (yho Q) n l0 l1 l2 l3 i4 i5 i6 i7) else
 False
def yd2 (a0:yan) (a1:yas):SE:=⟨(E ef0),lookS [(ybT,ydA a0),(ybx,yeb a1)],lookI [(ydw,yhC)],ya5 a0 a1⟩
def yoC (a0:yan) (a1:yas):SE:=⟨(E ef0),lookS [(ybT,ydA a0),(ybx,yeb a1)],lookI [(yev,yml),(ydw,yhC)],ya5 a0 a1⟩
theorem yiv:SEOk (yd2 yak yae):=yao ⟨(ye8 ef0 effG0),(yfK ef0 effG0),trivial⟩ ⟨⟨by kernel_rfl,by kernel_rfl,rfl,fun as=>yaa (by kernel_rfl) as,effG0.num _ (by kernel_rfl),(yag (by kernel_rfl))⟩,trivial⟩ effG0.ok
theorem ypL (a0 a1 Q n l0 i1 l2 i3 i4):WC (E ef0) (callW (yd2 a0 a1) 10) (ya5 a0 a1) yn3 [(0,.v (.data l0)),(3,.v (.int .i64 i1)),(9,.v (.data l2)),(10,.v (.int .i64 i3)),(11,.v (.int .i64 i4))] [] (fun x F' H'=>match x with | .norm=>yf3 a0 a1 Q n F' H' | .exit i=>Q (.exit i) F' H' | .ret=>Q .ret F' H')=ybN a0 a1 (yhk Q) (n+1) l0 i1 l2 i3 i4:=by kernel_rfl
theorem yrW:LpOk (E ef0) (ya5 yak yae) yn3:=(yag (by kernel_rfl))
theorem yre:∀ F H Q,ya5 yak yae 14451100 F H Q→LoopT (E ef0) yn3 F H Q:=by
 intro F H Q h
 have go:=LoopT.intro (yaF (yiv) 10) (yrW) (yf3 yak yae Q) (by
   intro F H h
   unfold yf3 ydD at h
   split at h
   · exact h
   · exact h) (by
   intro n F H h
   unfold yf3 ydD at h
   split at h
   · exact (ypL ..).mpr h
   · exact h.elim)
 have h:ydD F H _:=h
 unfold ydD at h
 split at h
 · obtain ⟨n,h⟩:=h;exact go n _ _ h
 · exact h.elim
theorem ypM (a0 a1 Q n l0 i1 i2):WC (E ef0) (callW (yd2 a0 a1) 10) (ya5 a0 a1) ykL [(6,.v .nils),(25,.v (.data l0)),(26,.v (.int .i64 i1)),(27,.v (.int .i64 i2))] [] (fun x F' H'=>match x with | .norm=>yeE a0 a1 Q n F' H' | .exit i=>Q (.exit i) F' H' | .ret=>Q .ret F' H')=ybO a0 a1 (yhl Q) (ycT Q) (n+1) l0 i1 i2:=by kernel_rfl
theorem ypN (a0 a1 Q n l0 n1 l3 i4 i5):WC (E ef0) (callW (yd2 a0 a1) 10) (ya5 a0 a1) ykL [(6,.v (.own 0 0 n1 (List.length l0) none)),(25,.v (.data l3)),(26,.v (.int .i64 i4)),(27,.v (.int .i64 i5))] [⟨false,true,4,l0⟩] (fun x F' H'=>match x with | .norm=>yeE a0 a1 Q n F' H' | .exit i=>Q (.exit i) F' H' | .ret=>Q .ret F' H')=ya3 a0 a1 (ycT Q) (n+1) l0 n1 l3 i4 i5:=by kernel_rfl
theorem yrX:LpOk (E ef0) (ya5 yak yae) ykL:=(yag (by kernel_rfl))
theorem yrf:∀ F H Q,ya5 yak yae 14451101 F H Q→LoopT (E ef0) ykL F H Q:=by
 intro F H Q h
 have go:=LoopT.intro (yaF (yiv) 10) (yrX) (yeE yak yae Q) (by
   intro F H h
   unfold yeE ydE at h
   split at h
   · exact h
   · obtain ⟨hg,k⟩:=yaf.1 h
     clear h
     have h:=k
     clear k
     try simp only [decide_eq_true_eq] at hg
     have g0:=hg;subst g0;exact h
   · exact h) (by
   intro n F H h
   unfold yeE ydE at h
   split at h
   · exact (ypM ..).mpr h
   · obtain ⟨hg,k⟩:=yaf.1 h
     clear h
     have h:=k
     clear k
     try simp only [decide_eq_true_eq] at hg
     have g0:=hg;subst g0;exact (ypN ..).mpr h
   · exact h.elim)
 have h:ydE F H _ _:=h
 unfold ydE at h
 split at h
 · obtain ⟨n,h⟩:=h;exact go n _ _ h
 · obtain ⟨hg,n,h⟩:=yaf.1 h;exact go n _ _ (yaf.2 ⟨hg,h⟩)
 · exact h.elim
theorem ypO (a0 a1 Q n l0 l1 l2 l3 l4 i5 i6 n7 i9 i10):WC (E ef0) (callW (yd2 a0 a1) 10) (ya5 a0 a1) ykM [(0,.v (.eptr [(.agg [(.data l1),(.data l2),(.data l3),(.data l4)])] 0 0)),(4,.box (.agg [(.int .i64 i5),(.int .i64 i6)])),(15,.v (.own 0 0 n7 (List.length l0) none)),(16,.v (.int .i64 i9)),(17,.v (.int .i64 i10))] [⟨false,true,4,l0⟩] (fun x F' H'=>match x with | .norm=>yeF a0 a1 Q n F' H' | .exit i=>Q (.exit i) F' H' | .ret=>Q .ret F' H')=ybP a0 a1 (yhm Q) (yhn Q) (n+1) l0 l1 l2 l3 l4 i5 i6 n7 i9 i10:=by kernel_rfl
theorem ypP (a0 a1 Q n l0 l1 l2 l3 i4 i5 i6 i7):WC (E ef0) (callW (yd2 a0 a1) 10) (ya5 a0 a1) ykM [(0,.v (.eptr [(.agg [(.data l0),(.data l1),(.data l2),(.data l3)])] 0 0)),(4,.box (.agg [(.int .i64 i4),(.int .i64 i5)])),(15,.v .nils),(16,.v (.int .i64 i6)),(17,.v (.int .i64 i7))] [] (fun x F' H'=>match x with | .norm=>yeF a0 a1 Q n F' H' | .exit i=>Q (.exit i) F' H' | .ret=>Q .ret F' H')=ydP a0 a1 (yho Q) (n+1) l0 l1 l2 l3 i4 i5 i6 i7:=by kernel_rfl
theorem yrY:LpOk (E ef0) (ya5 yak yae) ykM:=(yag (by kernel_rfl))
theorem yrg:∀ F H Q,ya5 yak yae 93107500 F H Q→LoopT (E ef0) ykM F H Q:=by
 intro F H Q h
 have go:=LoopT.intro (yaF (yiv) 10) (yrY) (yeF yak yae Q) (by
   intro F H h
   unfold yeF ydF at h
   split at h
   · obtain ⟨hg,k⟩:=yaf.1 h
     clear h
     have h:=k
     clear k
     try simp only [decide_eq_true_eq] at hg
     have g0:=hg;subst g0;exact h
   · exact h
   · exact h) (by
   intro n F H h
   unfold yeF ydF at h
   split at h
   · obtain ⟨hg,k⟩:=yaf.1 h
     clear h
     have h:=k
     clear k
     try simp only [decide_eq_true_eq] at hg
     have g0:=hg;subst g0;exact (ypO ..).mpr h
   · exact (ypP ..).mpr h
   · exact h.elim)
 have h:ydF F H _ _:=h
 unfold ydF at h
 split at h
 · obtain ⟨hg,n,h⟩:=yaf.1 h;exact go n _ _ (yaf.2 ⟨hg,h⟩)
 · obtain ⟨n,h⟩:=h;exact go n _ _ h
 · exact h.elim
theorem yul:SEOk (yoC yak yae):=yao ⟨(ye8 ef0 effG0),(yfK ef0 effG0),trivial⟩ ⟨⟨by kernel_rfl,by kernel_rfl,rfl,fun as=>yaa (by kernel_rfl) as,effG0.num _ (by kernel_rfl),(ybe (l:=[(14451100,yn3),(14451101,ykL)]) ⟨yre,yrf,trivial⟩ (by kernel_rfl))⟩,⟨by kernel_rfl,by kernel_rfl,rfl,fun as=>yaa (by kernel_rfl) as,effG0.num _ (by kernel_rfl),(yag (by kernel_rfl))⟩,trivial⟩ effG0.ok
theorem yv8 (a0 a1 p0 p1 p2 p3 K):WP (yoC a0 a1) 11 ywS [(.eptr [(.agg [(.data p0),(.data p1),(.data p2),(.data p3)])] 0 0)] K=yiW a0 a1 p0 p1 p2 p3 (fun r0=>K (.bool r0)):=by kernel_rfl
theorem yiX:OkF (E ef0) yoB ydx:=by
 intro as K h
 unfold yoB ygN at h
 split at h
 · exact WP_ok (yul) (ybe (l:=[(93107500,ykM)]) ⟨yrg,trivial⟩ (by kernel_rfl)) (by kernel_rfl) (by kernel_rfl) (fun _=>yaa (by kernel_rfl) _) (effG0.num _ (by kernel_rfl)) ((yv8 ..).mpr h)
 · exact h.elim
abbrev yaq:Type:=Ls→Ls→Ls→Ls→Int→(Int→Int→Bool→Prop)→Prop
def yaO (a0:ybs) (a1:yaL) (a2:yar) (a3:ybf) (a4:yas) (a:Ls→Ls→Ls→Ls→Ls→Ls→Ls→Ls→Int→Int→Int→Int→Int→Bool→Prop) (b:Ls→Ls→Ls→Ls→Int→Int→Bool→Prop):Nat→Ls→Ls→Ls→Ls→Ls→Ls→Ls→Ls→Int→Int→Int→Int→Int→Prop
 | 0,_,_,_,_,_,_,_,_,_,_,_,_,_=>False
 | g+1,l0,l1,l2,l3,l4,l5,l6,l7,i8,i9,i10,i11,i12 =>
 (cbr (decide (i12<i11))
 (jn (fun (c:Bool→Prop) =>
 (cbr (decide (i8<i12))
 (asr (decide ((0:Int)≤i8))
 (asr (decide (i8<(((List.length l1):Nat):Int)))
 (lt (List.getD l1 (i8.toNat) .nils) (fun e =>
 (asr (conf (.one (.d)) e)
 (asr (decide ((0:Int)≤i12))
 (asr (decide (i12<(((List.length l1):Nat):Int)))
 (lt (List.getD l1 (i12.toNat) .nils) (fun f =>
 (asr (conf (.one (.d)) f)
 (a0 (datOfV e) (datOfV f) (fun h =>
 (c h)))))))))))))
 (c false)))
 (fun i=>(cbr i
 (b l0 l1 l2 l3 i8 i12 true)
 (lt (IntKind.i64.wrap (i12+(1:Int))) (fun j =>
 (yaO a0 a1 a2 a3 a4 a b g l0 l1 l2 l3 l4 l5 l6 l7 i8 i9 i10 i11 j))))))
 (a l0 l1 l2 l3 l4 l5 l6 l7 i8 i9 i10 i11 i12 false))
def yaP (a0:ybs) (a1:yaL) (a2:yar) (a3:ybf) (a4:yas) (e:Ls→Ls→Ls→Ls→Int→Int→Bool→Prop) (f:Ls→Ls→Ls→Ls→Ls→Ls→Ls→Ls→Int→Int→Int→Int→Int→Bool→Prop):Nat→Ls→Ls→Ls→Ls→Ls→Ls→Ls→Ls→Int→Int→Int→Int→Int→Prop
 | 0,_,_,_,_,_,_,_,_,_,_,_,_,_=>False
 | h+1,l0,l1,l2,l3,l4,l5,l6,l7,i8,i9,i10,i11,i12 =>
 (cbr (decide (i12<i11))
 (asr (decide ((0:Int)≤i8))
 (asr (decide (i8<(((List.length l0):Nat):Int)))
 (lt (List.getD l0 (i8.toNat) .nils) (fun a =>
 (asr (conf (.agg [.i .i64,.d,.d]) a)
 (a2 (intOfV (cellAt a 0)) (datOfV (cellAt a 1)) (datOfV (cellAt a 2)) (fun j _ =>
 (a3 j (((List.length l0):Nat):Int) (fun k l _ =>
 (jn (fun (g:Bool→Prop) =>
 (cbr (i8 == i12)
 (asr (decide ((0:Int)≤i8))
 (asr (decide (i8<(((List.length l2):Nat):Int)))
 (lt (List.getD l2 (i8.toNat) .nils) (fun b =>
 (asr (conf (.one (.d)) b)
 (asr (decide ((0:Int)≤i8))
 (asr (decide (i8<(((List.length (datOfV b)):Nat):Int)))
 (lt (List.getD (datOfV b) (i8.toNat) .nils) (fun c =>
 (asr (conf (.agg [.i .i64,.i .i64]) c)
 (a4 (intOfV (cellAt c 0)) (intOfV (cellAt c 1)) k l (fun m =>
 (g m)))))))))))))
 (g false)))
 (fun n=>(cbr n
 (e l0 l1 l2 l3 i8 i12 true)
 (lt (IntKind.i64.wrap (i12+(1:Int))) (fun o =>
 (yaP a0 a1 a2 a3 a4 e f h l0 l1 l2 l3 l4 l5 l6 l7 i8 i9 i10 i11 o)))))))))))))))
 (f l0 l1 l2 l3 l4 l5 l6 l7 i8 i9 i10 i11 i12 false))
def yaQ (a0:ybs) (a1:yaL) (a2:yar) (a3:ybf) (a4:yas) (f:Ls→Ls→Ls→Ls→Int→Int→Bool→Prop) (g:Ls→Ls→Ls→Ls→Ls→Ls→Ls→Ls→Int→Int→Int→Int→Int→Bool→Prop):Nat→Ls→Ls→Ls→Ls→Ls→Ls→Ls→Ls→Int→Int→Int→Int→Int→Prop
 | 0,_,_,_,_,_,_,_,_,_,_,_,_,_=>False
 | h+1,l0,l1,l2,l3,l4,l5,l6,l7,i8,i9,i10,i11,i12 =>
 (cbr (decide (i12<i11))
 (asr (decide ((0:Int)≤i8))
 (asr (decide (i8<(((List.length l2):Nat):Int)))
 (lt (List.getD l2 (i8.toNat) .nils) (fun a =>
 (asr (conf (.one (.d)) a)
 (asr (decide ((0:Int)≤i8))
 (asr (decide (i8<(((List.length (datOfV a)):Nat):Int)))
 (lt (List.getD (datOfV a) (i8.toNat) .nils) (fun b =>
 (asr (conf (.agg [.i .i64,.i .i64]) b)
 (asr (decide ((0:Int)≤i8))
 (asr (decide (i8<(((List.length l2):Nat):Int)))
 (lt (List.getD l2 (i8.toNat) .nils) (fun c =>
 (asr (conf (.one (.d)) c)
 (asr (decide ((0:Int)≤i12))
 (asr (decide (i12<(((List.length (datOfV c)):Nat):Int)))
 (lt (List.getD (datOfV c) (i12.toNat) .nils) (fun e =>
 (asr (conf (.agg [.i .i64,.i .i64]) e)
 (a4 (intOfV (cellAt b 0)) (intOfV (cellAt b 1)) (intOfV (cellAt e 0)) (intOfV (cellAt e 1)) (fun j =>
 (cbr j
 (f l0 l1 l2 l3 i8 i12 true)
 (lt (IntKind.i64.wrap (i12+(1:Int))) (fun k =>
 (yaQ a0 a1 a2 a3 a4 f g h l0 l1 l2 l3 l4 l5 l6 l7 i8 i9 i10 i11 k))))))))))))))))))))))))))
 (g l0 l1 l2 l3 l4 l5 l6 l7 i8 i9 i10 i11 i12 false))
def yaR (a0:ybs) (a1:yaL) (a2:yar) (a3:ybf) (a4:yas) (c:Ls→Ls→Ls→Ls→Int→Int→Bool→Prop) (d:Ls→Ls→Ls→Ls→Ls→Ls→Ls→Ls→Int→Int→Int→Int→Int→Bool→Prop):Nat→Ls→Ls→Ls→Ls→Ls→Ls→Ls→Ls→Int→Int→Int→Int→Int→Prop
 | 0,_,_,_,_,_,_,_,_,_,_,_,_,_=>False
 | f+1,l0,l1,l2,l3,l4,l5,l6,l7,i8,i9,i10,i11,i12 =>
 (cbr (decide (i12<i11))
 (jn (fun (e:Bool→Prop) =>
 (cbr (i12 ==(0:Int))
 (asr (decide ((0:Int)≤i8))
 (asr (decide (i8<(((List.length l3):Nat):Int)))
 (lt (List.getD l3 (i8.toNat) .nils) (fun a =>
 (asr (conf (.agg [.i .i64,.i .i64]) a)
 (asr (decide ((0:Int)<(((List.length l3):Nat):Int)))
 (lt (List.getD l3 0 .nils) (fun b =>
 (asr (conf (.agg [.i .i64,.i .i64]) b)
 (e (!(((intOfV (cellAt a 0)) ==(intOfV (cellAt b 0)))&&(((intOfV (cellAt a 1)) ==(intOfV (cellAt b 1)))&&true)))))))))))))
 (e false)))
 (fun g=>(cbr g
 (c l0 l1 l2 l3 i8 i12 true)
 (lt (IntKind.i64.wrap (i12+(1:Int))) (fun h =>
 (yaR a0 a1 a2 a3 a4 c d f l0 l1 l2 l3 l4 l5 l6 l7 i8 i9 i10 i11 h))))))
 (d l0 l1 l2 l3 l4 l5 l6 l7 i8 i9 i10 i11 i12 false))
def yaS (a0:ybs) (a1:yaL) (a2:yar) (a3:ybf) (a4:yas) (a:Ls→Ls→Ls→Ls→Int→Int→Bool→Prop) (b:Ls→Ls→Ls→Ls→Ls→Ls→Ls→Ls→Int→Int→Int→Int→Int→Bool→Prop):Nat→Ls→Ls→Ls→Ls→Ls→Ls→Ls→Ls→Int→Int→Int→Int→Int→Prop
 | 0,_,_,_,_,_,_,_,_,_,_,_,_,_=>False
 | f+1,l0,l1,l2,l3,l4,l5,l6,l7,i8,i9,i10,i11,i12 =>
 (cbr (decide (i12<i11))
 (jn (fun (c:Bool→Prop) =>
 (cbr (i8 == i12)
 (asr (decide ((0:Int)≤i8))
 (asr (decide (i8<(((List.length l1):Nat):Int)))
 (lt (List.getD l1 (i8.toNat) .nils) (fun e =>
 (asr (conf (.one (.d)) e)
 (c ((((List.length (datOfV e)):Nat):Int) !=(1:Int))))))))
 (c false)))
 (fun g=>(cbr g
 (a l0 l1 l2 l3 i8 i12 true)
 (lt (IntKind.i64.wrap (i12+(1:Int))) (fun h =>
 (yaS a0 a1 a2 a3 a4 a b f l0 l1 l2 l3 l4 l5 l6 l7 i8 i9 i10 i11 h))))))
 (b l0 l1 l2 l3 l4 l5 l6 l7 i8 i9 i10 i11 i12 false))
def yaT (a0:ybs) (a1:yaL) (a2:yar) (a3:ybf) (a4:yas) (a:Ls→Ls→Ls→Ls→Ls→Ls→Ls→Ls→Int→Int→Bool→Prop) (b:Ls→Ls→Ls→Ls→Int→Int→Bool→Prop):Nat→Ls→Ls→Ls→Ls→Ls→Ls→Ls→Ls→Int→Int→Prop
 | 0,_,_,_,_,_,_,_,_,_,_=>False
 | c+1,l0,l1,l2,l3,l4,l5,l6,l7,i8,i9 =>
 (cbr (decide (i9<i8))
 (∃ d:Nat,yaO a0 a1 a2 a3 a4
 (fun e f g h i j k l _ m n _ _ _=>(lt (IntKind.i64.wrap (n+(1:Int))) (fun o =>
 (yaT a0 a1 a2 a3 a4 a b c e f g h i j k l m o))))
 (fun p q r s t u v=>(b p q r s t u v))
 d l0 l1 l2 l3 l4 l5 l6 l7 i9 i8 i9 (((List.length l4):Nat):Int) (0:Int))
 (a l0 l1 l2 l3 l4 l5 l6 l7 i8 i9 false))
def yaU (a0:ybs) (a1:yaL) (a2:yar) (a3:ybf) (a4:yas) (a:Ls→Ls→Ls→Ls→Int→Int→Bool→Prop) (b:Ls→Ls→Ls→Ls→Ls→Ls→Ls→Ls→Int→Int→Bool→Prop):Nat→Ls→Ls→Ls→Ls→Ls→Ls→Ls→Ls→Int→Int→Prop
 | 0,_,_,_,_,_,_,_,_,_,_=>False
 | c+1,l0,l1,l2,l3,l4,l5,l6,l7,i8,i9 =>
 (cbr (decide (i9<i8))
 (∃ d:Nat,yaP a0 a1 a2 a3 a4
 (fun e f g h i j k=>(a e f g h i j k))
 (fun l m n o p q r s _ t u _ _ _=>(lt (IntKind.i64.wrap (u+(1:Int))) (fun v =>
 (yaU a0 a1 a2 a3 a4 a b c l m n o p q r s t v))))
 d l0 l1 l2 l3 l4 l5 l6 l7 i9 i8 i9 (((List.length l4):Nat):Int) (0:Int))
 (b l0 l1 l2 l3 l4 l5 l6 l7 i8 i9 false))
def yaV (a0:ybs) (a1:yaL) (a2:yar) (a3:ybf) (a4:yas) (a:Ls→Ls→Ls→Ls→Int→Int→Bool→Prop) (b:Ls→Ls→Ls→Ls→Ls→Ls→Ls→Ls→Int→Int→Bool→Prop):Nat→Ls→Ls→Ls→Ls→Ls→Ls→Ls→Ls→Int→Int→Prop
 | 0,_,_,_,_,_,_,_,_,_,_=>False
 | c+1,l0,l1,l2,l3,l4,l5,l6,l7,i8,i9 =>
 (cbr (decide (i9<i8))
 (∃ d:Nat,yaQ a0 a1 a2 a3 a4
 (fun e f g h i j k=>(a e f g h i j k))
 (fun l m n o p q r s _ t u _ _ _=>(lt (IntKind.i64.wrap (u+(1:Int))) (fun v =>
 (yaV a0 a1 a2 a3 a4 a b c l m n o p q r s t v))))
 d l0 l1 l2 l3 l4 l5 l6 l7 i9 i8 i9 (((List.length l4):Nat):Int) (0:Int))
 (b l0 l1 l2 l3 l4 l5 l6 l7 i8 i9 false))
def yaW (a0:ybs) (a1:yaL) (a2:yar) (a3:ybf) (a4:yas) (a:Ls→Ls→Ls→Ls→Int→Int→Bool→Prop) (b:Ls→Ls→Ls→Ls→Ls→Ls→Ls→Ls→Int→Int→Bool→Prop):Nat→Ls→Ls→Ls→Ls→Ls→Ls→Ls→Ls→Int→Int→Prop
 | 0,_,_,_,_,_,_,_,_,_,_=>False
 | c+1,l0,l1,l2,l3,l4,l5,l6,l7,i8,i9 =>
 (cbr (decide (i9<i8))
 (∃ d:Nat,yaR a0 a1 a2 a3 a4
 (fun e f g h i j k=>(a e f g h i j k))
 (fun l m n o p q r s _ t u _ _ _=>(lt (IntKind.i64.wrap (u+(1:Int))) (fun v =>
 (yaW a0 a1 a2 a3 a4 a b c l m n o p q r s t v))))
 d l0 l1 l2 l3 l4 l5 l6 l7 i9 i8 i9 (((List.length l4):Nat):Int) (0:Int))
 (b l0 l1 l2 l3 l4 l5 l6 l7 i8 i9 false))
def yaX (a0:ybs) (a1:yaL) (a2:yar) (a3:ybf) (a4:yas) (a:Ls→Ls→Ls→Ls→Int→Int→Bool→Prop) (b:Ls→Ls→Ls→Ls→Ls→Ls→Ls→Ls→Int→Int→Bool→Prop):Nat→Ls→Ls→Ls→Ls→Ls→Ls→Ls→Ls→Int→Int→Prop
 | 0,_,_,_,_,_,_,_,_,_,_=>False
 | c+1,l0,l1,l2,l3,l4,l5,l6,l7,i8,i9 =>
 (cbr (decide (i9<i8))
 (∃ d:Nat,yaS a0 a1 a2 a3 a4
 (fun e f g h i j k=>(a e f g h i j k))
 (fun l m n o p q r s _ t u _ _ _=>(lt (IntKind.i64.wrap (u+(1:Int))) (fun v =>
 (yaX a0 a1 a2 a3 a4 a b c l m n o p q r s t v))))
 d l0 l1 l2 l3 l4 l5 l6 l7 i9 i8 i9 (((List.length l4):Nat):Int) (0:Int))
 (b l0 l1 l2 l3 l4 l5 l6 l7 i8 i9 false))
def yhp (a0:ybs) (a1:yaL) (a2:yar) (a3:ybf) (a4:yas) (p0 p1 p2 p3:Ls) (p4:Int) (K:Int→Int→Bool→Prop):Prop :=
 (cbr (p4 ==(1:Int))
 (jn (fun (b:Ls→Ls→Ls→Ls→Int→Int→Bool→Prop) =>
 (∃ a:Nat,yaT a0 a1 a2 a3 a4
 (fun i j k l _ _ _ _ _ _ _=>(b i j k l (0:Int) (0:Int) false))
 (fun m n o p q r s=>(b m n o p q r s))
 a p0 p1 p2 p3 p0 p1 p2 p3 (((List.length p0):Nat):Int) (0:Int)))
 (fun t u v w x y c=>(jn (fun (d:Bool→Prop) =>
 (cbr (!c)
 (a1 t u v w (fun z =>
 (d z)))
 (d false)))
 (fun A=>(cbr A
 (K (-1:Int) (-1:Int) true)
 (K x y c))))))
 (cbr (p4 ==(2:Int))
 (jn (fun (e:Ls→Ls→Ls→Ls→Int→Int→Bool→Prop) =>
 (∃ a:Nat,yaU a0 a1 a2 a3 a4
 (fun B C D E F G H=>(e B C D E F G H))
 (fun I J L M _ _ _ _ _ _ _=>(e I J L M (0:Int) (0:Int) false))
 a p0 p1 p2 p3 p0 p1 p2 p3 (((List.length p0):Nat):Int) (0:Int)))
 (fun _ _ _ _ N O Q=>(K N O Q)))
 (cbr (p4 ==(4:Int))
 (jn (fun (f:Ls→Ls→Ls→Ls→Int→Int→Bool→Prop) =>
 (∃ a:Nat,yaV a0 a1 a2 a3 a4
 (fun R S T U V W X=>(f R S T U V W X))
 (fun Y Z va vb _ _ _ _ _ _ _=>(f Y Z va vb (0:Int) (0:Int) false))
 a p0 p1 p2 p3 p0 p1 p2 p3 (((List.length p0):Nat):Int) (0:Int)))
 (fun _ _ _ _ vc vd ve=>(K vc vd ve)))
 (cbr (p4 ==(8:Int))
 (jn (fun (g:Ls→Ls→Ls→Ls→Int→Int→Bool→Prop) =>
 (∃ a:Nat,yaW a0 a1 a2 a3 a4
 (fun vf vg vh vi vj vk vl=>(g vf vg vh vi vj vk vl))
 (fun vm vn vo vp _ _ _ _ _ _ _=>(g vm vn vo vp (0:Int) (0:Int) false))
 a p0 p1 p2 p3 p0 p1 p2 p3 (((List.length p0):Nat):Int) (0:Int)))
 (fun _ _ _ _ vq vr vs=>(K vq vr vs)))
 (jn (fun (h:Ls→Ls→Ls→Ls→Int→Int→Bool→Prop) =>
 (∃ a:Nat,yaX a0 a1 a2 a3 a4
 (fun vt vu vv vw vx vy vz=>(h vt vu vv vw vx vy vz))
 (fun vA vB vC vD _ _ _ _ _ _ _=>(h vA vB vC vD (0:Int) (0:Int) false))
 a p0 p1 p2 p3 p0 p1 p2 p3 (((List.length p0):Nat):Int) (0:Int)))
 (fun _ _ _ _ vE vF vG=>(K vE vF vG)))))))
def yai (p0 p1 p2 p3:Ls) (p4:Int) (K:Int→Int→Bool→Prop):Prop:=yhp yaj yac yad yal yae p0 p1 p2 p3 p4 K
def ycU (w:yaq) (as:Ls) (K:PV→Prop):Prop :=
 match as with
 | [(.eptr [(.agg [(.data p0),(.data p1),(.data p2),(.data p3)])] 0 0),(.int .u8 p4)]=>w p0 p1 p2 p3 p4 (fun r0 r1 r2=>K (.tup [(.int .i64 r0),(.int .i64 r1),(.bool r2)]))
 | _=>False
def ykw (as:Ls) (K:PV→Prop):Prop:=ycU yai as K
def ycK (F:Frm) (H:Hp) (A0:Ls→Ls→Ls→Ls→Ls→Ls→Ls→Ls→Int→Int→Int→Int→Int→Prop) (A1:Ls→Ls→Ls→Ls→Ls→Ls→Ls→Ls→Int→Int→Int→Int→Int→Prop) (A2:Ls→Ls→Ls→Ls→Ls→Ls→Ls→Ls→Int→Int→Int→Int→Int→Prop) (A3:Ls→Ls→Ls→Ls→Ls→Ls→Ls→Ls→Int→Int→Int→Int→Int→Prop) (A4:Ls→Ls→Ls→Ls→Ls→Ls→Ls→Ls→Int→Int→Int→Int→Int→Prop):Prop :=
 match F,H with
 | [(0,.v (.eptr [(.agg [(.data l4),(.data l5),(.data l6),(.data l7)])] 0 0)),(1,.v (.fn (.func q0) [] [(.ptr 0 1 0 0)])),(7,.v (.int .i64 i8)),(13,.v (.int .i64 i9)),(14,.v (.int .i64 i10)),(21,.v (.int .i64 i11)),(22,.v (.int .i64 i12))],[⟨false,false,1,[(.eptr [(.agg [(.data l0),(.data l1),(.data l2),(.data l3)])] 0 0)]⟩]=>bif Nat.beq q0 ya7 then (A0 l0 l1 l2 l3 l4 l5 l6 l7 i8 i9 i10 i11 i12) else bif Nat.beq q0 ya8 then (A1 l0 l1 l2 l3 l4 l5 l6 l7 i8 i9 i10 i11 i12) else bif Nat.beq q0 ya9 then (A2 l0 l1 l2 l3 l4 l5 l6 l7 i8 i9 i10 i11 i12) else bif Nat.beq q0 yba then (A3 l0 l1 l2 l3 l4 l5 l6 l7 i8 i9 i10 i11 i12) else bif Nat.beq q0 ybb then (A4 l0 l1 l2 l3 l4 l5 l6 l7 i8 i9 i10 i11 i12) else False
 | _,_=>False
def ycL (F:Frm) (H:Hp) (A0:Ls→Ls→Ls→Ls→Ls→Ls→Ls→Ls→Int→Int→Prop) (A1:Ls→Ls→Ls→Ls→Ls→Ls→Ls→Ls→Int→Int→Prop) (A2:Ls→Ls→Ls→Ls→Ls→Ls→Ls→Ls→Int→Int→Prop) (A3:Ls→Ls→Ls→Ls→Ls→Ls→Ls→Ls→Int→Int→Prop) (A4:Ls→Ls→Ls→Ls→Ls→Ls→Ls→Ls→Int→Int→Prop):Prop :=
 match F,H with
 | [(0,.v (.eptr [(.agg [(.data l4),(.data l5),(.data l6),(.data l7)])] 0 0)),(1,.v (.fn (.func q0) [] [(.ptr 0 1 0 0)])),(13,.v (.int .i64 i8)),(14,.v (.int .i64 i9))],[⟨false,false,1,[(.eptr [(.agg [(.data l0),(.data l1),(.data l2),(.data l3)])] 0 0)]⟩]=>bif Nat.beq q0 ya7 then (A0 l0 l1 l2 l3 l4 l5 l6 l7 i8 i9) else bif Nat.beq q0 ya8 then (A1 l0 l1 l2 l3 l4 l5 l6 l7 i8 i9) else bif Nat.beq q0 ya9 then (A2 l0 l1 l2 l3 l4 l5 l6 l7 i8 i9) else bif Nat.beq q0 yba then (A3 l0 l1 l2 l3 l4 l5 l6 l7 i8 i9) else bif Nat.beq q0 ybb then (A4 l0 l1 l2 l3 l4 l5 l6 l7 i8 i9) else False
 | _,_=>False
def yfM (Q:Ex→Frm→Hp→Prop):Ls→Ls→Ls→Ls→Ls→Ls→Ls→Ls→Int→Int→Int→Int→Int→Bool→Prop:=(fun l0 l1 l2 l3 l4 l5 l6 l7 i8 i9 i10 i11 i12 b13=>Q (.exit 2) [(0,.v (.eptr [(.agg [(.data l4),(.data l5),(.data l6),(.data l7)])] 0 0)),(1,.v (.fn (.func ya7) [] [(.ptr 0 1 0 0)])),(7,.v (.int .i64 i8)),(13,.v (.int .i64 i9)),(14,.v (.int .i64 i10)),(21,.v (.int .i64 i11)),(22,.v (.int .i64 i12)),(23,.v (.bool b13))] [⟨false,false,1,([(.eptr [(.agg [(.data l0),(.data l1),(.data l2),(.data l3)])] 0 0)]:Ls)⟩])
def yaw (Q:Ex→Frm→Hp→Prop):Ls→Ls→Ls→Ls→Int→Int→Bool→Prop:=(fun l0 l1 l2 l3 i4 i5 b6=>Q .ret [(4,.v (.int .i64 i4)),(5,.v (.int .i64 i5)),(6,.v (.bool b6))] [⟨false,false,1,([(.eptr [(.agg [(.data l0),(.data l1),(.data l2),(.data l3)])] 0 0)]:Ls)⟩])
def yfN (Q:Ex→Frm→Hp→Prop):Ls→Ls→Ls→Ls→Ls→Ls→Ls→Ls→Int→Int→Int→Int→Int→Bool→Prop:=(fun l0 l1 l2 l3 l4 l5 l6 l7 i8 i9 i10 i11 i12 b13=>Q (.exit 2) [(0,.v (.eptr [(.agg [(.data l4),(.data l5),(.data l6),(.data l7)])] 0 0)),(1,.v (.fn (.func ya8) [] [(.ptr 0 1 0 0)])),(7,.v (.int .i64 i8)),(13,.v (.int .i64 i9)),(14,.v (.int .i64 i10)),(21,.v (.int .i64 i11)),(22,.v (.int .i64 i12)),(23,.v (.bool b13))] [⟨false,false,1,([(.eptr [(.agg [(.data l0),(.data l1),(.data l2),(.data l3)])] 0 0)]:Ls)⟩])
def yfO (Q:Ex→Frm→Hp→Prop):Ls→Ls→Ls→Ls→Ls→Ls→Ls→Ls→Int→Int→Int→Int→Int→Bool→Prop:=(fun l0 l1 l2 l3 l4 l5 l6 l7 i8 i9 i10 i11 i12 b13=>Q (.exit 2) [(0,.v (.eptr [(.agg [(.data l4),(.data l5),(.data l6),(.data l7)])] 0 0)),(1,.v (.fn (.func ya9) [] [(.ptr 0 1 0 0)])),(7,.v (.int .i64 i8)),(13,.v (.int .i64 i9)),(14,.v (.int .i64 i10)),(21,.v (.int .i64 i11)),(22,.v (.int .i64 i12)),(23,.v (.bool b13))] [⟨false,false,1,([(.eptr [(.agg [(.data l0),(.data l1),(.data l2),(.data l3)])] 0 0)]:Ls)⟩])
def yfP (Q:Ex→Frm→Hp→Prop):Ls→Ls→Ls→Ls→Ls→Ls→Ls→Ls→Int→Int→Int→Int→Int→Bool→Prop:=(fun l0 l1 l2 l3 l4 l5 l6 l7 i8 i9 i10 i11 i12 b13=>Q (.exit 2) [(0,.v (.eptr [(.agg [(.data l4),(.data l5),(.data l6),(.data l7)])] 0 0)),(1,.v (.fn (.func yba) [] [(.ptr 0 1 0 0)])),(7,.v (.int .i64 i8)),(13,.v (.int .i64 i9)),(14,.v (.int .i64 i10)),(21,.v (.int .i64 i11)),(22,.v (.int .i64 i12)),(23,.v (.bool b13))] [⟨false,false,1,([(.eptr [(.agg [(.data l0),(.data l1),(.data l2),(.data l3)])] 0 0)]:Ls)⟩])
def yfQ (Q:Ex→Frm→Hp→Prop):Ls→Ls→Ls→Ls→Ls→Ls→Ls→Ls→Int→Int→Int→Int→Int→Bool→Prop:=(fun l0 l1 l2 l3 l4 l5 l6 l7 i8 i9 i10 i11 i12 b13=>Q (.exit 2) [(0,.v (.eptr [(.agg [(.data l4),(.data l5),(.data l6),(.data l7)])] 0 0)),(1,.v (.fn (.func ybb) [] [(.ptr 0 1 0 0)])),(7,.v (.int .i64 i8)),(13,.v (.int .i64 i9)),(14,.v (.int .i64 i10)),(21,.v (.int .i64 i11)),(22,.v (.int .i64 i12)),(23,.v (.bool b13))] [⟨false,false,1,([(.eptr [(.agg [(.data l0),(.data l1),(.data l2),(.data l3)])] 0 0)]:Ls)⟩])
def yfR (Q:Ex→Frm→Hp→Prop):Ls→Ls→Ls→Ls→Ls→Ls→Ls→Ls→Int→Int→Bool→Prop:=(fun l0 l1 l2 l3 l4 l5 l6 l7 i8 i9 b10=>Q (.exit 0) [(0,.v (.eptr [(.agg [(.data l4),(.data l5),(.data l6),(.data l7)])] 0 0)),(1,.v (.fn (.func ya7) [] [(.ptr 0 1 0 0)])),(13,.v (.int .i64 i8)),(14,.v (.int .i64 i9)),(15,.v (.bool b10))] [⟨false,false,1,([(.eptr [(.agg [(.data l0),(.data l1),(.data l2),(.data l3)])] 0 0)]:Ls)⟩])
def yax (Q:Ex→Frm→Hp→Prop):Ls→Ls→Ls→Ls→Int→Int→Bool→Prop:=(fun l0 l1 l2 l3 i4 i5 b6=>Q .ret [(4,.v (.int .i64 i4)),(5,.v (.int .i64 i5)),(6,.v (.bool b6))] [⟨false,false,1,([(.eptr [(.agg [(.data l0),(.data l1),(.data l2),(.data l3)])] 0 0)]:Ls)⟩])
def yfS (Q:Ex→Frm→Hp→Prop):Ls→Ls→Ls→Ls→Ls→Ls→Ls→Ls→Int→Int→Bool→Prop:=(fun l0 l1 l2 l3 l4 l5 l6 l7 i8 i9 b10=>Q (.exit 0) [(0,.v (.eptr [(.agg [(.data l4),(.data l5),(.data l6),(.data l7)])] 0 0)),(1,.v (.fn (.func ya8) [] [(.ptr 0 1 0 0)])),(13,.v (.int .i64 i8)),(14,.v (.int .i64 i9)),(15,.v (.bool b10))] [⟨false,false,1,([(.eptr [(.agg [(.data l0),(.data l1),(.data l2),(.data l3)])] 0 0)]:Ls)⟩])
def yfT (Q:Ex→Frm→Hp→Prop):Ls→Ls→Ls→Ls→Ls→Ls→Ls→Ls→Int→Int→Bool→Prop:=(fun l0 l1 l2 l3 l4 l5 l6 l7 i8 i9 b10=>Q (.exit 0) [(0,.v (.eptr [(.agg [(.data l4),(.data l5),(.data l6),(.data l7)])] 0 0)),(1,.v (.fn (.func ya9) [] [(.ptr 0 1 0 0)])),(13,.v (.int .i64 i8)),(14,.v (.int .i64 i9)),(15,.v (.bool b10))] [⟨false,false,1,([(.eptr [(.agg [(.data l0),(.data l1),(.data l2),(.data l3)])] 0 0)]:Ls)⟩])
def yfU (Q:Ex→Frm→Hp→Prop):Ls→Ls→Ls→Ls→Ls→Ls→Ls→Ls→Int→Int→Bool→Prop:=(fun l0 l1 l2 l3 l4 l5 l6 l7 i8 i9 b10=>Q (.exit 0) [(0,.v (.eptr [(.agg [(.data l4),(.data l5),(.data l6),(.data l7)])] 0 0)),(1,.v (.fn (.func yba) [] [(.ptr 0 1 0 0)])),(13,.v (.int .i64 i8)),(14,.v (.int .i64 i9)),(15,.v (.bool b10))] [⟨false,false,1,([(.eptr [(.agg [(.data l0),(.data l1),(.data l2),(.data l3)])] 0 0)]:Ls)⟩])
def yfV (Q:Ex→Frm→Hp→Prop):Ls→Ls→Ls→Ls→Ls→Ls→Ls→Ls→Int→Int→Bool→Prop:=(fun l0 l1 l2 l3 l4 l5 l6 l7 i8 i9 b10=>Q (.exit 0) [(0,.v (.eptr [(.agg [(.data l4),(.data l5),(.data l6),(.data l7)])] 0 0)),(1,.v (.fn (.func ybb) [] [(.ptr 0 1 0 0)])),(13,.v (.int .i64 i8)),(14,.v (.int .i64 i9)),(15,.v (.bool b10))] [⟨false,false,1,([(.eptr [(.agg [(.data l0),(.data l1),(.data l2),(.data l3)])] 0 0)]:Ls)⟩])
def ybH (a0:ybs) (a1:yaL) (a2:yar) (a3:ybf) (a4:yas) (Q:Ex→Frm→Hp→Prop) (n:Nat) (F:Frm) (H:Hp):Prop:=ycK F H (fun l0 l1 l2 l3 l4 l5 l6 l7 i8 i9 i10 i11 i12=>yaO a0 a1 a2 a3 a4 (yfM Q) (yaw Q) n l0 l1 l2 l3 l4 l5 l6 l7 i8 i9 i10 i11 i12) (fun l0 l1 l2 l3 l4 l5 l6 l7 i8 i9 i10 i11 i12=>yaP a0 a1 a2 a3 a4 (yaw Q) (yfN Q) n l0 l1 l2 l3 l4 l5 l6 l7 i8 i9 i10 i11 i12) (fun l0 l1 l2 l3 l4 l5 l6 l7 i8 i9 i10 i11 i12=>yaQ a0 a1 a2 a3 a4 (yaw Q) (yfO Q) n l0 l1 l2 l3 l4 l5 l6 l7 i8 i9 i10 i11 i12) (fun l0 l1 l2 l3 l4 l5 l6 l7 i8 i9 i10 i11 i12=>yaR a0 a1 a2 a3 a4 (yaw Q) (yfP Q) n l0 l1 l2 l3 l4 l5 l6 l7 i8 i9 i10 i11 i12) (fun l0 l1 l2 l3 l4 l5 l6 l7 i8 i9 i10 i11 i12=>yaS a0 a1 a2 a3 a4 (yaw Q) (yfQ Q) n l0 l1 l2 l3 l4 l5 l6 l7 i8 i9 i10 i11 i12)
def ybI (a0:ybs) (a1:yaL) (a2:yar) (a3:ybf) (a4:yas) (Q:Ex→Frm→Hp→Prop) (n:Nat) (F:Frm) (H:Hp):Prop:=ycL F H (fun l0 l1 l2 l3 l4 l5 l6 l7 i8 i9=>yaT a0 a1 a2 a3 a4 (yfR Q) (yax Q) n l0 l1 l2 l3 l4 l5 l6 l7 i8 i9) (fun l0 l1 l2 l3 l4 l5 l6 l7 i8 i9=>yaU a0 a1 a2 a3 a4 (yax Q) (yfS Q) n l0 l1 l2 l3 l4 l5 l6 l7 i8 i9) (fun l0 l1 l2 l3 l4 l5 l6 l7 i8 i9=>yaV a0 a1 a2 a3 a4 (yax Q) (yfT Q) n l0 l1 l2 l3 l4 l5 l6 l7 i8 i9) (fun l0 l1 l2 l3 l4 l5 l6 l7 i8 i9=>yaW a0 a1 a2 a3 a4 (yax Q) (yfU Q) n l0 l1 l2 l3 l4 l5 l6 l7 i8 i9) (fun l0 l1 l2 l3 l4 l5 l6 l7 i8 i9=>yaX a0 a1 a2 a3 a4 (yax Q) (yfV Q) n l0 l1 l2 l3 l4 l5 l6 l7 i8 i9)
def yaz (a0:ybs) (a1:yaL) (a2:yar) (a3:ybf) (a4:yas):LP:=fun id F H Q =>
 bif Nat.beq id 97930200 then ycK F H (fun l0 l1 l2 l3 l4 l5 l6 l7 i8 i9 i10 i11 i12=>∃ n:Nat,yaO a0 a1 a2 a3 a4 (yfM Q) (yaw Q) n l0 l1 l2 l3 l4 l5 l6 l7 i8 i9 i10 i11 i12) (fun l0 l1 l2 l3 l4 l5 l6 l7 i8 i9 i10 i11 i12=>∃ n:Nat,yaP a0 a1 a2 a3 a4 (yaw Q) (yfN Q) n l0 l1 l2 l3 l4 l5 l6 l7 i8 i9 i10 i11 i12) (fun l0 l1 l2 l3 l4 l5 l6 l7 i8 i9 i10 i11 i12=>∃ n:Nat,yaQ a0 a1 a2 a3 a4 (yaw Q) (yfO Q) n l0 l1 l2 l3 l4 l5 l6 l7 i8 i9 i10 i11 i12) (fun l0 l1 l2 l3 l4 l5 l6 l7 i8 i9 i10 i11 i12=>∃ n:Nat,yaR a0 a1 a2 a3 a4 (yaw Q) (yfP Q) n l0 l1 l2 l3 l4 l5 l6 l7 i8 i9 i10 i11 i12) (fun l0 l1 l2 l3 l4 l5 l6 l7 i8 i9 i10 i11 i12=>∃ n:Nat,yaS a0 a1 a2 a3 a4 (yaw Q) (yfQ Q) n l0 l1 l2 l3 l4 l5 l6 l7 i8 i9 i10 i11 i12) else
 bif Nat.beq id 97930201 then ycL F H (fun l0 l1 l2 l3 l4 l5 l6 l7 i8 i9=>∃ n:Nat,yaT a0 a1 a2 a3 a4 (yfR Q) (yax Q) n l0 l1 l2 l3 l4 l5 l6 l7 i8 i9) (fun l0 l1 l2 l3 l4 l5 l6 l7 i8 i9=>∃ n:Nat,yaU a0 a1 a2 a3 a4 (yax Q) (yfS Q) n l0 l1 l2 l3 l4 l5 l6 l7 i8 i9) (fun l0 l1 l2 l3 l4 l5 l6 l7 i8 i9=>∃ n:Nat,yaV a0 a1 a2 a3 a4 (yax Q) (yfT Q) n l0 l1 l2 l3 l4 l5 l6 l7 i8 i9) (fun l0 l1 l2 l3 l4 l5 l6 l7 i8 i9=>∃ n:Nat,yaW a0 a1 a2 a3 a4 (yax Q) (yfU Q) n l0 l1 l2 l3 l4 l5 l6 l7 i8 i9) (fun l0 l1 l2 l3 l4 l5 l6 l7 i8 i9=>∃ n:Nat,yaX a0 a1 a2 a3 a4 (yax Q) (yfV Q) n l0 l1 l2 l3 l4 l5 l6 l7 i8 i9) else
 False
def ya4 (a0:ybs) (a1:yaL) (a2:yar) (a3:ybf) (a4:yas):SE:=⟨(E ef0),lookS [(ygX,ykf a0),(ydx,ygN a1),(ycF,yd8 a2),(yfr,yiy a3),(ybx,yeb a4)],lookI [(ya7,yjI),(ya8,yjJ),(ya9,yjK),(yba,yjL),(ybb,yjM)],yaz a0 a1 a2 a3 a4⟩
def ykx (a0:ybs) (a1:yaL) (a2:yar) (a3:ybf) (a4:yas):SE:=⟨(E ef0),lookS [(ygX,ykf a0),(ydx,ygN a1),(ycF,yd8 a2),(yfr,yiy a3),(ybx,yeb a4)],lookI [(ycN,ytW),(ya7,yjI),(ya8,yjJ),(ya9,yjK),(yba,yjL),(ybb,yjM)],yaz a0 a1 a2 a3 a4⟩
theorem yki:SEOk (ya4 yaj yac yad yal yae):=yao ⟨(yoA ef0 effG0),yiX,(yeP ef0 effG0),(ylo ef0 effG0),(yfK ef0 effG0),trivial⟩ ⟨⟨by kernel_rfl,by kernel_rfl,rfl,fun as=>yaa (by kernel_rfl) as,effG0.num _ (by kernel_rfl),(yag (by kernel_rfl))⟩,⟨by kernel_rfl,by kernel_rfl,rfl,fun as=>yaa (by kernel_rfl) as,effG0.num _ (by kernel_rfl),(yag (by kernel_rfl))⟩,⟨by kernel_rfl,by kernel_rfl,rfl,fun as=>yaa (by kernel_rfl) as,effG0.num _ (by kernel_rfl),(yag (by kernel_rfl))⟩,⟨by kernel_rfl,by kernel_rfl,rfl,fun as=>yaa (by kernel_rfl) as,effG0.num _ (by kernel_rfl),(yag (by kernel_rfl))⟩,⟨by kernel_rfl,by kernel_rfl,rfl,fun as=>yaa (by kernel_rfl) as,effG0.num _ (by kernel_rfl),(yag (by kernel_rfl))⟩,trivial⟩ effG0.ok
theorem yna (a0 a1 a2 a3 a4 Q n l0 l1 l2 l3 l4 l5 l6 l7 i8 i9 i10 i11 i12):WC (E ef0) (callW (ya4 a0 a1 a2 a3 a4) 10) (yaz a0 a1 a2 a3 a4) yfH [(0,.v (.eptr [(.agg [(.data l4),(.data l5),(.data l6),(.data l7)])] 0 0)),(1,.v (.fn (.func ya7) [] [(.ptr 0 1 0 0)])),(7,.v (.int .i64 i8)),(13,.v (.int .i64 i9)),(14,.v (.int .i64 i10)),(21,.v (.int .i64 i11)),(22,.v (.int .i64 i12))] [⟨false,false,1,([(.eptr [(.agg [(.data l0),(.data l1),(.data l2),(.data l3)])] 0 0)]:Ls)⟩] (fun x F' H'=>match x with | .norm=>ybH a0 a1 a2 a3 a4 Q n F' H' | .exit i=>Q (.exit i) F' H' | .ret=>Q .ret F' H')=yaO a0 a1 a2 a3 a4 (yfM Q) (yaw Q) (n+1) l0 l1 l2 l3 l4 l5 l6 l7 i8 i9 i10 i11 i12:=by kernel_rfl
theorem ynb (a0 a1 a2 a3 a4 Q n l0 l1 l2 l3 l4 l5 l6 l7 i8 i9 i10 i11 i12):WC (E ef0) (callW (ya4 a0 a1 a2 a3 a4) 10) (yaz a0 a1 a2 a3 a4) yfH [(0,.v (.eptr [(.agg [(.data l4),(.data l5),(.data l6),(.data l7)])] 0 0)),(1,.v (.fn (.func ya8) [] [(.ptr 0 1 0 0)])),(7,.v (.int .i64 i8)),(13,.v (.int .i64 i9)),(14,.v (.int .i64 i10)),(21,.v (.int .i64 i11)),(22,.v (.int .i64 i12))] [⟨false,false,1,([(.eptr [(.agg [(.data l0),(.data l1),(.data l2),(.data l3)])] 0 0)]:Ls)⟩] (fun x F' H'=>match x with | .norm=>ybH a0 a1 a2 a3 a4 Q n F' H' | .exit i=>Q (.exit i) F' H' | .ret=>Q .ret F' H')=yaP a0 a1 a2 a3 a4 (yaw Q) (yfN Q) (n+1) l0 l1 l2 l3 l4 l5 l6 l7 i8 i9 i10 i11 i12:=by kernel_rfl
theorem ync (a0 a1 a2 a3 a4 Q n l0 l1 l2 l3 l4 l5 l6 l7 i8 i9 i10 i11 i12):WC (E ef0) (callW (ya4 a0 a1 a2 a3 a4) 10) (yaz a0 a1 a2 a3 a4) yfH [(0,.v (.eptr [(.agg [(.data l4),(.data l5),(.data l6),(.data l7)])] 0 0)),(1,.v (.fn (.func ya9) [] [(.ptr 0 1 0 0)])),(7,.v (.int .i64 i8)),(13,.v (.int .i64 i9)),(14,.v (.int .i64 i10)),(21,.v (.int .i64 i11)),(22,.v (.int .i64 i12))] [⟨false,false,1,([(.eptr [(.agg [(.data l0),(.data l1),(.data l2),(.data l3)])] 0 0)]:Ls)⟩] (fun x F' H'=>match x with | .norm=>ybH a0 a1 a2 a3 a4 Q n F' H' | .exit i=>Q (.exit i) F' H' | .ret=>Q .ret F' H')=yaQ a0 a1 a2 a3 a4 (yaw Q) (yfO Q) (n+1) l0 l1 l2 l3 l4 l5 l6 l7 i8 i9 i10 i11 i12:=by kernel_rfl
theorem ynd (a0 a1 a2 a3 a4 Q n l0 l1 l2 l3 l4 l5 l6 l7 i8 i9 i10 i11 i12):WC (E ef0) (callW (ya4 a0 a1 a2 a3 a4) 10) (yaz a0 a1 a2 a3 a4) yfH [(0,.v (.eptr [(.agg [(.data l4),(.data l5),(.data l6),(.data l7)])] 0 0)),(1,.v (.fn (.func yba) [] [(.ptr 0 1 0 0)])),(7,.v (.int .i64 i8)),(13,.v (.int .i64 i9)),(14,.v (.int .i64 i10)),(21,.v (.int .i64 i11)),(22,.v (.int .i64 i12))] [⟨false,false,1,([(.eptr [(.agg [(.data l0),(.data l1),(.data l2),(.data l3)])] 0 0)]:Ls)⟩] (fun x F' H'=>match x with | .norm=>ybH a0 a1 a2 a3 a4 Q n F' H' | .exit i=>Q (.exit i) F' H' | .ret=>Q .ret F' H')=yaR a0 a1 a2 a3 a4 (yaw Q) (yfP Q) (n+1) l0 l1 l2 l3 l4 l5 l6 l7 i8 i9 i10 i11 i12:=by kernel_rfl
theorem yne (a0 a1 a2 a3 a4 Q n l0 l1 l2 l3 l4 l5 l6 l7 i8 i9 i10 i11 i12):WC (E ef0) (callW (ya4 a0 a1 a2 a3 a4) 10) (yaz a0 a1 a2 a3 a4) yfH [(0,.v (.eptr [(.agg [(.data l4),(.data l5),(.data l6),(.data l7)])] 0 0)),(1,.v (.fn (.func ybb) [] [(.ptr 0 1 0 0)])),(7,.v (.int .i64 i8)),(13,.v (.int .i64 i9)),(14,.v (.int .i64 i10)),(21,.v (.int .i64 i11)),(22,.v (.int .i64 i12))] [⟨false,false,1,([(.eptr [(.agg [(.data l0),(.data l1),(.data l2),(.data l3)])] 0 0)]:Ls)⟩] (fun x F' H'=>match x with | .norm=>ybH a0 a1 a2 a3 a4 Q n F' H' | .exit i=>Q (.exit i) F' H' | .ret=>Q .ret F' H')=yaS a0 a1 a2 a3 a4 (yaw Q) (yfQ Q) (n+1) l0 l1 l2 l3 l4 l5 l6 l7 i8 i9 i10 i11 i12:=by kernel_rfl
theorem ypQ:LpOk (E ef0) (yaz yaj yac yad yal yae) yfH:=(yag (by kernel_rfl))
theorem yig:∀ F H Q,yaz yaj yac yad yal yae 97930200 F H Q→LoopT (E ef0) yfH F H Q:=by
 intro F H Q h
 have go:=LoopT.intro (yaF (yki) 10) (ypQ) (ybH yaj yac yad yal yae Q) (by
   intro F H h
   unfold ybH ycK at h
   split at h
   · rcases yce h with ⟨rfl,h⟩ | h
     · exact h
     rcases yce h with ⟨rfl,h⟩ | h
     · exact h
     rcases yce h with ⟨rfl,h⟩ | h
     · exact h
     rcases yce h with ⟨rfl,h⟩ | h
     · exact h
     rcases yce h with ⟨rfl,h⟩ | h
     · exact h
     exact h.elim
   · exact h) (by
   intro n F H h
   unfold ybH ycK at h
   split at h
   · rcases yce h with ⟨rfl,h⟩ | h
     · exact (yna ..).mpr h
     rcases yce h with ⟨rfl,h⟩ | h
     · exact (ynb ..).mpr h
     rcases yce h with ⟨rfl,h⟩ | h
     · exact (ync ..).mpr h
     rcases yce h with ⟨rfl,h⟩ | h
     · exact (ynd ..).mpr h
     rcases yce h with ⟨rfl,h⟩ | h
     · exact (yne ..).mpr h
     exact h.elim
   · exact h.elim)
 have h:ycK F H _ _ _ _ _:=h
 unfold ycK at h
 split at h
 · rcases yce h with ⟨rfl,h⟩ | h
   · obtain ⟨n,h⟩:=h;exact go n _ _ h
   rcases yce h with ⟨rfl,h⟩ | h
   · obtain ⟨n,h⟩:=h;exact go n _ _ h
   rcases yce h with ⟨rfl,h⟩ | h
   · obtain ⟨n,h⟩:=h;exact go n _ _ h
   rcases yce h with ⟨rfl,h⟩ | h
   · obtain ⟨n,h⟩:=h;exact go n _ _ h
   rcases yce h with ⟨rfl,h⟩ | h
   · obtain ⟨n,h⟩:=h;exact go n _ _ h
   exact h.elim
 · exact h.elim
theorem ynf (a0 a1 a2 a3 a4 Q n l0 l1 l2 l3 l4 l5 l6 l7 i8 i9):WC (E ef0) (callW (ya4 a0 a1 a2 a3 a4) 10) (yaz a0 a1 a2 a3 a4) ygw [(0,.v (.eptr [(.agg [(.data l4),(.data l5),(.data l6),(.data l7)])] 0 0)),(1,.v (.fn (.func ya7) [] [(.ptr 0 1 0 0)])),(13,.v (.int .i64 i8)),(14,.v (.int .i64 i9))] [⟨false,false,1,([(.eptr [(.agg [(.data l0),(.data l1),(.data l2),(.data l3)])] 0 0)]:Ls)⟩] (fun x F' H'=>match x with | .norm=>ybI a0 a1 a2 a3 a4 Q n F' H' | .exit i=>Q (.exit i) F' H' | .ret=>Q .ret F' H')=yaT a0 a1 a2 a3 a4 (yfR Q) (yax Q) (n+1) l0 l1 l2 l3 l4 l5 l6 l7 i8 i9:=by kernel_rfl
theorem yng (a0 a1 a2 a3 a4 Q n l0 l1 l2 l3 l4 l5 l6 l7 i8 i9):WC (E ef0) (callW (ya4 a0 a1 a2 a3 a4) 10) (yaz a0 a1 a2 a3 a4) ygw [(0,.v (.eptr [(.agg [(.data l4),(.data l5),(.data l6),(.data l7)])] 0 0)),(1,.v (.fn (.func ya8) [] [(.ptr 0 1 0 0)])),(13,.v (.int .i64 i8)),(14,.v (.int .i64 i9))] [⟨false,false,1,([(.eptr [(.agg [(.data l0),(.data l1),(.data l2),(.data l3)])] 0 0)]:Ls)⟩] (fun x F' H'=>match x with | .norm=>ybI a0 a1 a2 a3 a4 Q n F' H' | .exit i=>Q (.exit i) F' H' | .ret=>Q .ret F' H')=yaU a0 a1 a2 a3 a4 (yax Q) (yfS Q) (n+1) l0 l1 l2 l3 l4 l5 l6 l7 i8 i9:=by kernel_rfl
theorem ynh (a0 a1 a2 a3 a4 Q n l0 l1 l2 l3 l4 l5 l6 l7 i8 i9):WC (E ef0) (callW (ya4 a0 a1 a2 a3 a4) 10) (yaz a0 a1 a2 a3 a4) ygw [(0,.v (.eptr [(.agg [(.data l4),(.data l5),(.data l6),(.data l7)])] 0 0)),(1,.v (.fn (.func ya9) [] [(.ptr 0 1 0 0)])),(13,.v (.int .i64 i8)),(14,.v (.int .i64 i9))] [⟨false,false,1,([(.eptr [(.agg [(.data l0),(.data l1),(.data l2),(.data l3)])] 0 0)]:Ls)⟩] (fun x F' H'=>match x with | .norm=>ybI a0 a1 a2 a3 a4 Q n F' H' | .exit i=>Q (.exit i) F' H' | .ret=>Q .ret F' H')=yaV a0 a1 a2 a3 a4 (yax Q) (yfT Q) (n+1) l0 l1 l2 l3 l4 l5 l6 l7 i8 i9:=by kernel_rfl
theorem yni (a0 a1 a2 a3 a4 Q n l0 l1 l2 l3 l4 l5 l6 l7 i8 i9):WC (E ef0) (callW (ya4 a0 a1 a2 a3 a4) 10) (yaz a0 a1 a2 a3 a4) ygw [(0,.v (.eptr [(.agg [(.data l4),(.data l5),(.data l6),(.data l7)])] 0 0)),(1,.v (.fn (.func yba) [] [(.ptr 0 1 0 0)])),(13,.v (.int .i64 i8)),(14,.v (.int .i64 i9))] [⟨false,false,1,([(.eptr [(.agg [(.data l0),(.data l1),(.data l2),(.data l3)])] 0 0)]:Ls)⟩] (fun x F' H'=>match x with | .norm=>ybI a0 a1 a2 a3 a4 Q n F' H' | .exit i=>Q (.exit i) F' H' | .ret=>Q .ret F' H')=yaW a0 a1 a2 a3 a4 (yax Q) (yfU Q) (n+1) l0 l1 l2 l3 l4 l5 l6 l7 i8 i9:=by kernel_rfl
theorem ynj (a0 a1 a2 a3 a4 Q n l0 l1 l2 l3 l4 l5 l6 l7 i8 i9):WC (E ef0) (callW (ya4 a0 a1 a2 a3 a4) 10) (yaz a0 a1 a2 a3 a4) ygw [(0,.v (.eptr [(.agg [(.data l4),(.data l5),(.data l6),(.data l7)])] 0 0)),(1,.v (.fn (.func ybb) [] [(.ptr 0 1 0 0)])),(13,.v (.int .i64 i8)),(14,.v (.int .i64 i9))] [⟨false,false,1,([(.eptr [(.agg [(.data l0),(.data l1),(.data l2),(.data l3)])] 0 0)]:Ls)⟩] (fun x F' H'=>match x with | .norm=>ybI a0 a1 a2 a3 a4 Q n F' H' | .exit i=>Q (.exit i) F' H' | .ret=>Q .ret F' H')=yaX a0 a1 a2 a3 a4 (yax Q) (yfV Q) (n+1) l0 l1 l2 l3 l4 l5 l6 l7 i8 i9:=by kernel_rfl
theorem ypR:LpOk (E ef0) (yaz yaj yac yad yal yae) ygw:=(ybe (l:=[(97930200,yfH)]) ⟨yig,trivial⟩ (by kernel_rfl))
theorem yoQ:∀ F H Q,yaz yaj yac yad yal yae 97930201 F H Q→LoopT (E ef0) ygw F H Q:=by
 intro F H Q h
 have go:=LoopT.intro (yaF (yki) 10) (ypR) (ybI yaj yac yad yal yae Q) (by
   intro F H h
   unfold ybI ycL at h
   split at h
   · rcases yce h with ⟨rfl,h⟩ | h
     · exact h
     rcases yce h with ⟨rfl,h⟩ | h
     · exact h
     rcases yce h with ⟨rfl,h⟩ | h
     · exact h
     rcases yce h with ⟨rfl,h⟩ | h
     · exact h
     rcases yce h with ⟨rfl,h⟩ | h
     · exact h
     exact h.elim
   · exact h) (by
   intro n F H h
   unfold ybI ycL at h
   split at h
   · rcases yce h with ⟨rfl,h⟩ | h
     · exact (ynf ..).mpr h
     rcases yce h with ⟨rfl,h⟩ | h
     · exact (yng ..).mpr h
     rcases yce h with ⟨rfl,h⟩ | h
     · exact (ynh ..).mpr h
     rcases yce h with ⟨rfl,h⟩ | h
     · exact (yni ..).mpr h
     rcases yce h with ⟨rfl,h⟩ | h
     · exact (ynj ..).mpr h
     exact h.elim
   · exact h.elim)
 have h:ycL F H _ _ _ _ _:=h
 unfold ycL at h
 split at h
 · rcases yce h with ⟨rfl,h⟩ | h
   · obtain ⟨n,h⟩:=h;exact go n _ _ h
   rcases yce h with ⟨rfl,h⟩ | h
   · obtain ⟨n,h⟩:=h;exact go n _ _ h
   rcases yce h with ⟨rfl,h⟩ | h
   · obtain ⟨n,h⟩:=h;exact go n _ _ h
   rcases yce h with ⟨rfl,h⟩ | h
   · obtain ⟨n,h⟩:=h;exact go n _ _ h
   rcases yce h with ⟨rfl,h⟩ | h
   · obtain ⟨n,h⟩:=h;exact go n _ _ h
   exact h.elim
 · exact h.elim
theorem yrh:SEOk (ykx yaj yac yad yal yae):=yao ⟨(yoA ef0 effG0),yiX,(yeP ef0 effG0),(ylo ef0 effG0),(yfK ef0 effG0),trivial⟩ ⟨⟨by kernel_rfl,by kernel_rfl,rfl,fun as=>yaa (by kernel_rfl) as,effG0.num _ (by kernel_rfl),(ybe (l:=[(97930200,yfH),(97930201,ygw)]) ⟨yig,yoQ,trivial⟩ (by kernel_rfl))⟩,⟨by kernel_rfl,by kernel_rfl,rfl,fun as=>yaa (by kernel_rfl) as,effG0.num _ (by kernel_rfl),(yag (by kernel_rfl))⟩,⟨by kernel_rfl,by kernel_rfl,rfl,fun as=>yaa (by kernel_rfl) as,effG0.num _ (by kernel_rfl),(yag (by kernel_rfl))⟩,⟨by kernel_rfl,by kernel_rfl,rfl,fun as=>yaa (by kernel_rfl) as,effG0.num _ (by kernel_rfl),(yag (by kernel_rfl))⟩,⟨by kernel_rfl,by kernel_rfl,rfl,fun as=>yaa (by kernel_rfl) as,effG0.num _ (by kernel_rfl),(yag (by kernel_rfl))⟩,⟨by kernel_rfl,by kernel_rfl,rfl,fun as=>yaa (by kernel_rfl) as,effG0.num _ (by kernel_rfl),(yag (by kernel_rfl))⟩,trivial⟩ effG0.ok
theorem yrZ (a0 a1 a2 a3 a4 p0 p1 p2 p3 p4 K):WP (ykx a0 a1 a2 a3 a4) 11 ysl [(.eptr [(.agg [(.data p0),(.data p1),(.data p2),(.data p3)])] 0 0),(.int .u8 p4)] K=yhp a0 a1 a2 a3 a4 p0 p1 p2 p3 p4 (fun r0 r1 r2=>K (.tup [(.int .i64 r0),(.int .i64 r1),(.bool r2)])):=by kernel_rfl
theorem ydQ:OkF (E ef0) ykw ybo:=by
 intro as K h
 unfold ykw ycU at h
 split at h
 · exact WP_ok (yrh) (yag (by kernel_rfl)) (by kernel_rfl) (by kernel_rfl) (fun _=>yaa (by kernel_rfl) _) (effG0.num _ (by kernel_rfl)) ((yrZ ..).mpr h)
 · exact h.elim
abbrev ynk:Type:=Ls→Ls→(Int→Ls→Int→Prop)→Prop
def ydj (a0:yaN) (a1:yar) (a2:yan) (a3:yaJ) (a4:yaq) (g:Ls→Ls→Ls→Ls→Int→Int→Bool→Prop) (h:Ls→Ls→Ls→Ls→Int→Prop):Nat→Ls→Ls→Ls→Ls→Int→Int→Prop
 | 0,_,_,_,_,_,_=>False
 | k+1,l0,l1,l2,l3,i6,i7 =>
 (cbr (decide (i7<i6))
 (asr (decide ((0:Int)≤i7))
 (asr (decide (i7<(((List.length l1):Nat):Int)))
 (lt (List.getD l1 (i7.toNat) .nils) (fun c =>
 (asr (conf (.agg [.i .i64,.d,.d]) c)
 (a1 (intOfV (cellAt c 0)) (datOfV (cellAt c 1)) (datOfV (cellAt c 2)) (fun l _ =>
 (asr (decide ((0:Int)≤i7))
 (asr (decide (i7<(((List.length l3):Nat):Int)))
 (lt (List.getD l3 (i7.toNat) .nils) (fun e =>
 (asr (conf (.one (.d)) e)
 (asr (decide ((0:Int)≤i7))
 (asr (decide (i7<(((List.length (datOfV e)):Nat):Int)))
 (lt (List.getD (datOfV e) (i7.toNat) .nils) (fun f =>
 (asr (conf (.agg [.i .i64,.i .i64]) f)
 (a2 l (fun m n =>
 (a3 (intOfV (cellAt f 0)) (intOfV (cellAt f 1)) m n (fun a b j =>
 (cbr (j !=(0:Int))
 (h l0 l1 l2 l3 j)
 (asr (decide ((List.length l0)=(List.length l0)))
 (asr (decide ((0+(List.length l0))≤(List.length l0)))
 (asr (!(decide (((0+(List.length l0))+1)≤(List.length l0))))
 (asr (decide ((List.length l0)=(List.length l0)))
 (asr (decide ((((List.length l0)+1)+64)*(16+1)≤room))
 (lt (IntKind.i64.wrap (i7+(1:Int))) (fun o =>
 (asr (decide ((List.length (l0++([(.agg [(.int .i64 a),(.int .i64 b)])]:Ls)))=List.length (l0++([(.agg [(.int .i64 a),(.int .i64 b)])]:Ls)))&&decide ((List.length (l0++([(.agg [(.int .i64 a),(.int .i64 b)])]:Ls)))=List.length (l0++([(.agg [(.int .i64 a),(.int .i64 b)])]:Ls))))
 (ydj a0 a1 a2 a3 a4 g h k (l0++([(.agg [(.int .i64 a),(.int .i64 b)])]:Ls)) l1 l2 l3 i6 o)))))))))))))))))))))))))))))))
 (g l0 l1 l2 l3 i6 i7 false))
def yeU (a0:yaN) (a1:yar) (a2:yan) (a3:yaJ) (a4:yaq) (h:Ls→Ls→Ls→Int→Int→Bool→Prop) (j:Ls→Ls→Ls→Int→Prop) (k:Ls→Ls→Ls→Ls→Int→Int→Bool→Prop) (l:Ls→Ls→Ls→Ls→Int→Prop):Nat→Ls→Ls→Ls→Int→Int→Prop
 | 0,_,_,_,_,_=>False
 | m+1,l0,l1,l2,i3,i4 =>
 (cbr (decide (i4<i3))
 (asr (decide ((0:Int)≤i4))
 (asr (decide (i4<(((List.length l0):Nat):Int)))
 (lt (List.getD l0 (i4.toNat) .nils) (fun a =>
 (asr (conf (.agg [.i .i64,.d,.d]) a)
 (a1 (intOfV (cellAt a 0)) (datOfV (cellAt a 1)) (datOfV (cellAt a 2)) (fun n _ =>
 (asr (decide ((0:Int)≤i4))
 (asr (decide (i4<(((List.length l2):Nat):Int)))
 (lt (List.getD l2 (i4.toNat) .nils) (fun b =>
 (asr (conf (.one (.d)) b)
 (asr (decide ((0:Int)≤i4))
 (asr (decide (i4<(((List.length (datOfV b)):Nat):Int)))
 (lt (List.getD (datOfV b) (i4.toNat) .nils) (fun c =>
 (asr (conf (.agg [.i .i64,.i .i64]) c)
 (a2 n (fun o p =>
 (a3 (intOfV (cellAt c 0)) (intOfV (cellAt c 1)) o p (fun e f g =>
 (cbr (g !=(0:Int))
 (j l0 l1 l2 g)
 (lt (IntKind.i64.wrap (i4+(1:Int))) (fun q =>
 (asr (decide (1=List.length ([(.agg [(.int .i64 e),(.int .i64 f)])]:Ls))&&decide (1=List.length ([(.agg [(.int .i64 e),(.int .i64 f)])]:Ls)))
 (ydj a0 a1 a2 a3 a4 k l m ([(.agg [(.int .i64 e),(.int .i64 f)])]:Ls) l0 l1 l2 i3 q))))))))))))))))))))))))))
 (h l0 l1 l2 i3 i4 false))
def ygk (a0:yaN) (a1:yar) (a2:yan) (a3:yaJ) (a4:yaq) (a:Ls→Ls→Ls→Int→Int→Ls→Int→Bool→Prop):Nat→Ls→Ls→Ls→Int→Int→Ls→Int→Prop
 | 0,_,_,_,_,_,_,_=>False
 | c+1,l0,l1,l2,i3,i4,l5,i6 =>
 (cbr (decide (i6<(5:Int)))
 (jn (fun (b:Int→Prop) =>
 (asr (!(decide (i6<(0:Int))))
 (lt (IntKind.u8.wrap ((1:Int)*2 ^ (min i6.toNat IntKind.u8.bits))) (fun d =>
 (a4 l0 l1 l2 ([]:Ls) d (fun _ _ e =>
 (cbr (!e)
 (asr (!(decide (i6<(0:Int))))
 (lt (IntKind.u8.wrap ((1:Int)*2 ^ (min i6.toNat IntKind.u8.bits))) (fun f =>
 (lt (IntKind.u8.wrap (BitVec.ofInt IntKind.u8.bits i4|||BitVec.ofInt IntKind.u8.bits f).toNat) (fun g =>
 (b g))))))
 (b i4))))))))
 (fun h=>(lt (IntKind.i64.wrap (i6+(1:Int))) (fun i =>
 (ygk a0 a1 a2 a3 a4 a c l0 l1 l2 i3 h l5 i)))))
 (a l0 l1 l2 i3 i4 l5 i6 false))
def ycM (a0:yaN) (a1:yar) (a2:yan) (a3:yaJ) (a4:yaq) (a:Ls→Ls→Ls→Ls→Int→Int→Ls→Int→Bool→Prop):Nat→Ls→Ls→Ls→Ls→Int→Int→Ls→Int→Prop
 | 0,_,_,_,_,_,_,_,_=>False
 | c+1,l0,l1,l2,l3,i6,i7,l8,i9 =>
 (cbr (decide (i9<(5:Int)))
 (jn (fun (b:Int→Prop) =>
 (asr (!(decide (i9<(0:Int))))
 (lt (IntKind.u8.wrap ((1:Int)*2 ^ (min i9.toNat IntKind.u8.bits))) (fun d =>
 (asr (decide ((List.length l0)=(List.length l0)))
 (asr (decide ((0+(List.length l0))≤(List.length l0)))
 (a4 l1 l2 l3 (List.take (List.length l0) l0) d (fun _ _ e =>
 (cbr (!e)
 (asr (!(decide (i9<(0:Int))))
 (lt (IntKind.u8.wrap ((1:Int)*2 ^ (min i9.toNat IntKind.u8.bits))) (fun f =>
 (lt (IntKind.u8.wrap (BitVec.ofInt IntKind.u8.bits i7|||BitVec.ofInt IntKind.u8.bits f).toNat) (fun g =>
 (b g))))))
 (b i7))))))))))
 (fun h=>(lt (IntKind.i64.wrap (i9+(1:Int))) (fun i =>
 (asr (decide ((List.length l0)=List.length l0)&&decide ((List.length l0)=List.length l0))
 (ycM a0 a1 a2 a3 a4 a c l0 l1 l2 l3 i6 h l8 i))))))
 (a l0 l1 l2 l3 i6 i7 l8 i9 false))
def ypS (a0:yaN) (a1:yar) (a2:yan) (a3:yaJ) (a4:yaq) (p0 p1:Ls) (K:Int→Ls→Int→Prop):Prop :=
 (a0 p0 p1 (fun j b =>
 (cbr (b !=(0:Int))
 (cbr (b ==(0:Int))
 False
 (cbr (b !=(0:Int))
 (K (0:Int) ([]:Ls) b)
 False))
 (jn (fun (d:Ls→Ls→Ls→Int→Prop) =>
 (jn (fun (e:Ls→Ls→Ls→Ls→Int→Prop) =>
 (∃ k:Nat,yeU a0 a1 a2 a3 a4
 (fun l m n _ _ _=>(d l m n (0:Int)))
 (fun o p q r=>(d o p q r))
 (fun s t u v _ _ _=>(e s t u v (0:Int)))
 (fun w x y z A=>(e w x y z A))
 k p0 p1 j (((List.length p0):Nat):Int) (0:Int)))
 (fun a B C f g=>(cbr (g !=(0:Int))
 (K (0:Int) ([]:Ls) g)
 (asr (decide ((List.length a)=List.length a)&&decide ((List.length a)=List.length a))
 (∃ c:Nat,ycM a0 a1 a2 a3 a4
 (fun _ _ _ _ _ D E _ _=>(K D E (0:Int)))
 c a B C f (0:Int) (0:Int) f (0:Int)))))))
 (fun F G h i=>(cbr (i !=(0:Int))
 (K (0:Int) ([]:Ls) i)
 (∃ c:Nat,ygk a0 a1 a2 a3 a4
 (fun _ _ _ _ H I _ _=>(K H I (0:Int)))
 c F G h (0:Int) (0:Int) h (0:Int))))))))
def yfE (p0 p1:Ls) (K:Int→Ls→Int→Prop):Prop:=ypS yat yad yak yav yai p0 p1 K
def ypT (w:ynk) (as:Ls) (K:PV→Prop):Prop :=
 match as with
 | [(.data p0),(.agg [(.data p1)])]=>w p0 p1 (fun r0 r1 r2=>K (.tup [(.agg [(.int .u8 r0),(.data r1)]),(.int .i64 r2)]))
 | _=>False
def yu8 (as:Ls) (K:PV→Prop):Prop:=ypT yfE as K
def ygl (F:Frm) (H:Hp) (A0:Ls→Ls→Ls→Int→Int→Prop) (A1:Ls→Ls→Ls→Ls→Int→Int→Prop):Prop :=
 match F,H with
 | [(0,.v (.ptr 0 1 0 0)),(12,.v (.int .i64 i3)),(13,.v (.int .i64 i4))],[⟨false,false,4,[(.agg [(.data l0),(.data l1),(.data l2),.nils])]⟩]=>(A0 l0 l1 l2 i3 i4)
 | [(0,.v (.ptr 0 1 0 0)),(12,.v (.int .i64 i6)),(13,.v (.int .i64 i7))],[⟨false,false,4,[(.agg [(.data l1),(.data l2),(.data l3),(.own 1 0 t4 t5 none)])]⟩,⟨false,true,2,l0⟩]=>asr (decide (t4=List.length l0)&&decide (t5=List.length l0)) (A1 l0 l1 l2 l3 i6 i7)
 | _,_=>False
def ygm (F:Frm) (H:Hp) (A0:Ls→Ls→Ls→Int→Int→Ls→Int→Prop) (A1:Ls→Ls→Ls→Ls→Int→Int→Ls→Int→Prop):Prop :=
 match F,H with
 | [(4,.box (.agg [(.int .u8 i3),.nils])),(6,.v (.ptr 0 1 0 0)),(8,.box (.agg [(.int .u8 i4),(.data l5)])),(32,.v (.int .i64 i6))],[⟨false,false,4,[(.agg [(.data l0),(.data l1),(.data l2),.nils])]⟩]=>(A0 l0 l1 l2 i3 i4 l5 i6)
 | [(4,.box (.agg [(.int .u8 i6),.nils])),(6,.v (.ptr 0 1 0 0)),(8,.box (.agg [(.int .u8 i7),(.data l8)])),(32,.v (.int .i64 i9))],[⟨false,false,4,[(.agg [(.data l1),(.data l2),(.data l3),(.own 1 0 t4 t5 none)])]⟩,⟨false,true,2,l0⟩]=>asr (decide (t4=List.length l0)&&decide (t5=List.length l0)) (A1 l0 l1 l2 l3 i6 i7 l8 i9)
 | _,_=>False
def ylc (Q:Ex→Frm→Hp→Prop):Ls→Ls→Ls→Int→Int→Bool→Prop:=(fun l0 l1 l2 i3 i4 b5=>Q (.exit 0) [(0,.v (.ptr 0 1 0 0)),(12,.v (.int .i64 i3)),(13,.v (.int .i64 i4)),(14,.v (.bool b5))] [⟨false,false,4,([(.agg [(.data l0),(.data l1),(.data l2),.nils])]:Ls)⟩])
def yld (Q:Ex→Frm→Hp→Prop):Ls→Ls→Ls→Int→Prop:=(fun l0 l1 l2 i3=>Q .ret [(2,.v (.int .i64 i3))] [⟨false,false,4,([(.agg [(.data l0),(.data l1),(.data l2),.nils])]:Ls)⟩])
def yeV (Q:Ex→Frm→Hp→Prop):Ls→Ls→Ls→Ls→Int→Int→Bool→Prop:=(fun l0 l1 l2 l3 i6 i7 b8=>Q (.exit 0) [(0,.v (.ptr 0 1 0 0)),(12,.v (.int .i64 i6)),(13,.v (.int .i64 i7)),(14,.v (.bool b8))] [⟨false,false,4,([(.agg [(.data l1),(.data l2),(.data l3),(.own 1 0 (List.length l0) (List.length l0) none)])]:Ls)⟩,⟨false,true,2,l0⟩])
def yeW (Q:Ex→Frm→Hp→Prop):Ls→Ls→Ls→Ls→Int→Prop:=(fun l0 l1 l2 l3 i6=>Q .ret [(2,.v (.int .i64 i6))] [⟨false,false,4,([(.agg [(.data l1),(.data l2),(.data l3),(.own 1 0 (List.length l0) (List.length l0) none)])]:Ls)⟩,⟨false,true,2,l0⟩])
def yle (Q:Ex→Frm→Hp→Prop):Ls→Ls→Ls→Int→Int→Ls→Int→Bool→Prop:=(fun l0 l1 l2 i3 i4 l5 i6 b7=>Q (.exit 0) [(4,.box (.agg [(.int .u8 i3),.nils])),(6,.v (.ptr 0 1 0 0)),(8,.box (.agg [(.int .u8 i4),(.data l5)])),(32,.v (.int .i64 i6)),(33,.v (.bool b7))] [⟨false,false,4,([(.agg [(.data l0),(.data l1),(.data l2),.nils])]:Ls)⟩])
def ylf (Q:Ex→Frm→Hp→Prop):Ls→Ls→Ls→Ls→Int→Int→Ls→Int→Bool→Prop:=(fun l0 l1 l2 l3 i6 i7 l8 i9 b10=>Q (.exit 0) [(4,.box (.agg [(.int .u8 i6),.nils])),(6,.v (.ptr 0 1 0 0)),(8,.box (.agg [(.int .u8 i7),(.data l8)])),(32,.v (.int .i64 i9)),(33,.v (.bool b10))] [⟨false,false,4,([(.agg [(.data l1),(.data l2),(.data l3),(.own 1 0 (List.length l0) (List.length l0) none)])]:Ls)⟩,⟨false,true,2,l0⟩])
def yhW (a0:yaN) (a1:yar) (a2:yan) (a3:yaJ) (a4:yaq) (Q:Ex→Frm→Hp→Prop) (n:Nat) (F:Frm) (H:Hp):Prop:=ygl F H (fun l0 l1 l2 i3 i4=>yeU a0 a1 a2 a3 a4 (ylc Q) (yld Q) (yeV Q) (yeW Q) n l0 l1 l2 i3 i4) (fun l0 l1 l2 l3 i6 i7=>ydj a0 a1 a2 a3 a4 (yeV Q) (yeW Q) n l0 l1 l2 l3 i6 i7)
def yhX (a0:yaN) (a1:yar) (a2:yan) (a3:yaJ) (a4:yaq) (Q:Ex→Frm→Hp→Prop) (n:Nat) (F:Frm) (H:Hp):Prop:=ygm F H (fun l0 l1 l2 i3 i4 l5 i6=>ygk a0 a1 a2 a3 a4 (yle Q) n l0 l1 l2 i3 i4 l5 i6) (fun l0 l1 l2 l3 i6 i7 l8 i9=>ycM a0 a1 a2 a3 a4 (ylf Q) n l0 l1 l2 l3 i6 i7 l8 i9)
def ydq (a0:yaN) (a1:yar) (a2:yan) (a3:yaJ) (a4:yaq):LP:=fun id F H Q =>
 bif Nat.beq id 20643600 then ygl F H (fun l0 l1 l2 i3 i4=>∃ n:Nat,yeU a0 a1 a2 a3 a4 (ylc Q) (yld Q) (yeV Q) (yeW Q) n l0 l1 l2 i3 i4) (fun l0 l1 l2 l3 i6 i7=>∃ n:Nat,ydj a0 a1 a2 a3 a4 (yeV Q) (yeW Q) n l0 l1 l2 l3 i6 i7) else
 bif Nat.beq id 65264200 then ygm F H (fun l0 l1 l2 i3 i4 l5 i6=>∃ n:Nat,ygk a0 a1 a2 a3 a4 (yle Q) n l0 l1 l2 i3 i4 l5 i6) (fun l0 l1 l2 l3 i6 i7 l8 i9=>∃ n:Nat,ycM a0 a1 a2 a3 a4 (ylf Q) n l0 l1 l2 l3 i6 i7 l8 i9) else
 False
def yiD (a0:yaN) (a1:yar) (a2:yan) (a3:yaJ) (a4:yaq):SE:=⟨(E ef0),lookS [(ybh,ygi a0),(ycF,yd8 a1),(ybT,ydA a2),(yee,yfA a3),(ybo,ycU a4)],lookI [(ydT,yh3)],ydq a0 a1 a2 a3 a4⟩
def yu9 (a0:yaN) (a1:yar) (a2:yan) (a3:yaJ) (a4:yaq):SE:=⟨(E ef0),lookS [(ybh,ygi a0),(ycF,yd8 a1),(ybT,ydA a2),(yee,yfA a3),(ybo,ycU a4)],lookI [(ydT,yh3),(ye4,yn2)],ydq a0 a1 a2 a3 a4⟩
theorem ytk:SEOk (yiD yat yad yak yav yai):=yao ⟨(yhT ef0 effG0),(yeP ef0 effG0),(ye8 ef0 effG0),(ygF ef0 effG0),ydQ,trivial⟩ ⟨⟨by kernel_rfl,by kernel_rfl,rfl,fun as=>yaa (by kernel_rfl) as,effG0.num _ (by kernel_rfl),(yag (by kernel_rfl))⟩,trivial⟩ effG0.ok
theorem yum (a0 a1 a2 a3 a4 Q n l0 l1 l2 i3 i4):WC (E ef0) (callW (yiD a0 a1 a2 a3 a4) 10) (ydq a0 a1 a2 a3 a4) ye5 [(0,.v (.ptr 0 1 0 0)),(12,.v (.int .i64 i3)),(13,.v (.int .i64 i4))] [⟨false,false,4,([(.agg [(.data l0),(.data l1),(.data l2),.nils])]:Ls)⟩] (fun x F' H'=>match x with | .norm=>yhW a0 a1 a2 a3 a4 Q n F' H' | .exit i=>Q (.exit i) F' H' | .ret=>Q .ret F' H')=yeU a0 a1 a2 a3 a4 (ylc Q) (yld Q) (yeV Q) (yeW Q) (n+1) l0 l1 l2 i3 i4:=by kernel_rfl
theorem yun (a0 a1 a2 a3 a4 Q n l0 l1 l2 l3 i6 i7):WC (E ef0) (callW (yiD a0 a1 a2 a3 a4) 10) (ydq a0 a1 a2 a3 a4) ye5 [(0,.v (.ptr 0 1 0 0)),(12,.v (.int .i64 i6)),(13,.v (.int .i64 i7))] [⟨false,false,4,([(.agg [(.data l1),(.data l2),(.data l3),(.own 1 0 (List.length l0) (List.length l0) none)])]:Ls)⟩,⟨false,true,2,l0⟩] (fun x F' H'=>match x with | .norm=>yhW a0 a1 a2 a3 a4 Q n F' H' | .exit i=>Q (.exit i) F' H' | .ret=>Q .ret F' H')=ydj a0 a1 a2 a3 a4 (yeV Q) (yeW Q) (n+1) l0 l1 l2 l3 i6 i7:=by kernel_rfl
theorem yy7:LpOk (E ef0) (ydq yat yad yak yav yai) ye5:=(yag (by kernel_rfl))
theorem yxM:∀ F H Q,ydq yat yad yak yav yai 20643600 F H Q→LoopT (E ef0) ye5 F H Q:=by
 intro F H Q h
 have go:=LoopT.intro (yaF (ytk) 10) (yy7) (yhW yat yad yak yav yai Q) (by
   intro F H h
   unfold yhW ygl at h
   split at h
   · exact h
   · obtain ⟨hg,k⟩:=yaf.1 h
     clear h
     have h:=k
     clear k
     try simp only [Bool.and_eq_true,decide_eq_true_eq] at hg
     obtain ⟨g0,g1⟩:=hg;subst g0;subst g1;exact h
   · exact h) (by
   intro n F H h
   unfold yhW ygl at h
   split at h
   · exact (yum ..).mpr h
   · obtain ⟨hg,k⟩:=yaf.1 h
     clear h
     have h:=k
     clear k
     try simp only [Bool.and_eq_true,decide_eq_true_eq] at hg
     obtain ⟨g0,g1⟩:=hg;subst g0;subst g1;exact (yun ..).mpr h
   · exact h.elim)
 have h:ygl F H _ _:=h
 unfold ygl at h
 split at h
 · obtain ⟨n,h⟩:=h;exact go n _ _ h
 · obtain ⟨hg,n,h⟩:=yaf.1 h;exact go n _ _ (yaf.2 ⟨hg,h⟩)
 · exact h.elim
theorem yuo (a0 a1 a2 a3 a4 Q n l0 l1 l2 i3 i4 l5 i6):WC (E ef0) (callW (yiD a0 a1 a2 a3 a4) 10) (ydq a0 a1 a2 a3 a4) ykN [(4,.box (.agg [(.int .u8 i3),.nils])),(6,.v (.ptr 0 1 0 0)),(8,.box (.agg [(.int .u8 i4),(.data l5)])),(32,.v (.int .i64 i6))] [⟨false,false,4,([(.agg [(.data l0),(.data l1),(.data l2),.nils])]:Ls)⟩] (fun x F' H'=>match x with | .norm=>yhX a0 a1 a2 a3 a4 Q n F' H' | .exit i=>Q (.exit i) F' H' | .ret=>Q .ret F' H')=ygk a0 a1 a2 a3 a4 (yle Q) (n+1) l0 l1 l2 i3 i4 l5 i6:=by kernel_rfl
theorem yup (a0 a1 a2 a3 a4 Q n l0 l1 l2 l3 i6 i7 l8 i9):WC (E ef0) (callW (yiD a0 a1 a2 a3 a4) 10) (ydq a0 a1 a2 a3 a4) ykN [(4,.box (.agg [(.int .u8 i6),.nils])),(6,.v (.ptr 0 1 0 0)),(8,.box (.agg [(.int .u8 i7),(.data l8)])),(32,.v (.int .i64 i9))] [⟨false,false,4,([(.agg [(.data l1),(.data l2),(.data l3),(.own 1 0 (List.length l0) (List.length l0) none)])]:Ls)⟩,⟨false,true,2,l0⟩] (fun x F' H'=>match x with | .norm=>yhX a0 a1 a2 a3 a4 Q n F' H' | .exit i=>Q (.exit i) F' H' | .ret=>Q .ret F' H')=ycM a0 a1 a2 a3 a4 (ylf Q) (n+1) l0 l1 l2 l3 i6 i7 l8 i9:=by kernel_rfl
theorem yy8:LpOk (E ef0) (ydq yat yad yak yav yai) ykN:=(yag (by kernel_rfl))
theorem yxN:∀ F H Q,ydq yat yad yak yav yai 65264200 F H Q→LoopT (E ef0) ykN F H Q:=by
 intro F H Q h
 have go:=LoopT.intro (yaF (ytk) 10) (yy8) (yhX yat yad yak yav yai Q) (by
   intro F H h
   unfold yhX ygm at h
   split at h
   · exact h
   · obtain ⟨hg,k⟩:=yaf.1 h
     clear h
     have h:=k
     clear k
     try simp only [Bool.and_eq_true,decide_eq_true_eq] at hg
     obtain ⟨g0,g1⟩:=hg;subst g0;subst g1;exact h
   · exact h) (by
   intro n F H h
   unfold yhX ygm at h
   split at h
   · exact (yuo ..).mpr h
   · obtain ⟨hg,k⟩:=yaf.1 h
     clear h
     have h:=k
     clear k
     try simp only [Bool.and_eq_true,decide_eq_true_eq] at hg
     obtain ⟨g0,g1⟩:=hg;subst g0;subst g1;exact (yup ..).mpr h
   · exact h.elim)
 have h:ygm F H _ _:=h
 unfold ygm at h
 split at h
 · obtain ⟨n,h⟩:=h;exact go n _ _ h
 · obtain ⟨hg,n,h⟩:=yaf.1 h;exact go n _ _ (yaf.2 ⟨hg,h⟩)
 · exact h.elim
theorem yCe:SEOk (yu9 yat yad yak yav yai):=yao ⟨(yhT ef0 effG0),(yeP ef0 effG0),(ye8 ef0 effG0),(ygF ef0 effG0),ydQ,trivial⟩ ⟨⟨by kernel_rfl,by kernel_rfl,rfl,fun as=>yaa (by kernel_rfl) as,effG0.num _ (by kernel_rfl),(yag (by kernel_rfl))⟩,⟨by kernel_rfl,by kernel_rfl,rfl,fun as=>yaa (by kernel_rfl) as,effG0.num _ (by kernel_rfl),(ybe (l:=[(20643600,ye5)]) ⟨yxM,trivial⟩ (by kernel_rfl))⟩,trivial⟩ effG0.ok
theorem yDT (a0 a1 a2 a3 a4 p0 p1 K):WP (yu9 a0 a1 a2 a3 a4) 11 yFp [(.data p0),(.agg [(.data p1)])] K=ypS a0 a1 a2 a3 a4 p0 p1 (fun r0 r1 r2=>K (.tup [(.agg [(.int .u8 r0),(.data r1)]),(.int .i64 r2)])):=by kernel_rfl
theorem yva:OkF (E ef0) yu8 yjG:=by
 intro as K h
 unfold yu8 ypT at h
 split at h
 · exact WP_ok (yCe) (ybe (l:=[(65264200,ykN)]) ⟨yxN,trivial⟩ (by kernel_rfl)) (by kernel_rfl) (by kernel_rfl) (fun _=>yaa (by kernel_rfl) _) (effG0.num _ (by kernel_rfl)) ((yDT ..).mpr h)
 · exact h.elim
abbrev ykj:Type:=Ls→Ls→Int→Ls→(Bool→Int→Prop)→Prop
def ycy (a0:yaN) (a1:yau) (a2:yar) (a3:yan) (a4:yaJ) (a5:yaq) (a:Ls→Ls→Ls→Ls→Ls→Int→Int→Bool→Prop) (b:Ls→Ls→Ls→Bool→Prop):Nat→Ls→Ls→Ls→Ls→Ls→Int→Int→Prop
 | 0,_,_,_,_,_,_,_=>False
 | f+1,l0,l1,l2,l3,l4,i5,i6 =>
 (cbr (decide (i6<i5))
 (asr (decide ((0:Int)≤i6))
 (asr (decide (i6<(((List.length l4):Nat):Int)))
 (lt (List.getD l4 (i6.toNat) .nils) (fun c =>
 (asr (conf (.one (.d)) c)
 (asr (decide ((0:Int)≤i6))
 (asr (decide (i6<(((List.length l3):Nat):Int)))
 (lt (List.getD l3 (i6.toNat) .nils) (fun e =>
 (asr (conf (.one (.d)) e)
 (a1 (datOfV c) (datOfV e) (fun g =>
 (cbr (!g)
 (b l0 l1 l2 false)
 (lt (IntKind.i64.wrap (i6+(1:Int))) (fun h =>
 (ycy a0 a1 a2 a3 a4 a5 a b f l0 l1 l2 l3 l4 i5 h))))))))))))))))
 (a l0 l1 l2 l3 l4 i5 i6 false))
def yfa (a0:yaN) (a1:yau) (a2:yar) (a3:yan) (a4:yaJ) (a5:yaq) (g:Ls→Ls→Ls→Ls→Int→Int→Bool→Prop) (h:Ls→Ls→Ls→Ls→Int→Prop):Nat→Ls→Ls→Ls→Ls→Int→Int→Prop
 | 0,_,_,_,_,_,_=>False
 | k+1,l0,l1,l2,l3,i6,i7 =>
 (cbr (decide (i7<i6))
 (asr (decide ((0:Int)≤i7))
 (asr (decide (i7<(((List.length l1):Nat):Int)))
 (lt (List.getD l1 (i7.toNat) .nils) (fun c =>
 (asr (conf (.agg [.i .i64,.d,.d]) c)
 (a2 (intOfV (cellAt c 0)) (datOfV (cellAt c 1)) (datOfV (cellAt c 2)) (fun l _ =>
 (asr (decide ((0:Int)≤i7))
 (asr (decide (i7<(((List.length l3):Nat):Int)))
 (lt (List.getD l3 (i7.toNat) .nils) (fun e =>
 (asr (conf (.one (.d)) e)
 (asr (decide ((0:Int)≤i7))
 (asr (decide (i7<(((List.length (datOfV e)):Nat):Int)))
 (lt (List.getD (datOfV e) (i7.toNat) .nils) (fun f =>
 (asr (conf (.agg [.i .i64,.i .i64]) f)
 (a3 l (fun m n =>
 (a4 (intOfV (cellAt f 0)) (intOfV (cellAt f 1)) m n (fun a b j =>
 (cbr (j !=(0:Int))
 (h l0 l1 l2 l3 j)
 (asr (decide ((List.length l0)=(List.length l0)))
 (asr (decide ((0+(List.length l0))≤(List.length l0)))
 (asr (!(decide (((0+(List.length l0))+1)≤(List.length l0))))
 (asr (decide ((List.length l0)=(List.length l0)))
 (asr (decide ((((List.length l0)+1)+64)*(16+1)≤room))
 (lt (IntKind.i64.wrap (i7+(1:Int))) (fun o =>
 (asr (decide ((List.length (l0++([(.agg [(.int .i64 a),(.int .i64 b)])]:Ls)))=List.length (l0++([(.agg [(.int .i64 a),(.int .i64 b)])]:Ls)))&&decide ((List.length (l0++([(.agg [(.int .i64 a),(.int .i64 b)])]:Ls)))=List.length (l0++([(.agg [(.int .i64 a),(.int .i64 b)])]:Ls))))
 (yfa a0 a1 a2 a3 a4 a5 g h k (l0++([(.agg [(.int .i64 a),(.int .i64 b)])]:Ls)) l1 l2 l3 i6 o)))))))))))))))))))))))))))))))
 (g l0 l1 l2 l3 i6 i7 false))
def ygO (a0:yaN) (a1:yau) (a2:yar) (a3:yan) (a4:yaJ) (a5:yaq) (h:Ls→Ls→Ls→Int→Int→Bool→Prop) (j:Ls→Ls→Ls→Int→Prop) (k:Ls→Ls→Ls→Ls→Int→Int→Bool→Prop) (l:Ls→Ls→Ls→Ls→Int→Prop):Nat→Ls→Ls→Ls→Int→Int→Prop
 | 0,_,_,_,_,_=>False
 | m+1,l0,l1,l2,i3,i4 =>
 (cbr (decide (i4<i3))
 (asr (decide ((0:Int)≤i4))
 (asr (decide (i4<(((List.length l0):Nat):Int)))
 (lt (List.getD l0 (i4.toNat) .nils) (fun a =>
 (asr (conf (.agg [.i .i64,.d,.d]) a)
 (a2 (intOfV (cellAt a 0)) (datOfV (cellAt a 1)) (datOfV (cellAt a 2)) (fun n _ =>
 (asr (decide ((0:Int)≤i4))
 (asr (decide (i4<(((List.length l2):Nat):Int)))
 (lt (List.getD l2 (i4.toNat) .nils) (fun b =>
 (asr (conf (.one (.d)) b)
 (asr (decide ((0:Int)≤i4))
 (asr (decide (i4<(((List.length (datOfV b)):Nat):Int)))
 (lt (List.getD (datOfV b) (i4.toNat) .nils) (fun c =>
 (asr (conf (.agg [.i .i64,.i .i64]) c)
 (a3 n (fun o p =>
 (a4 (intOfV (cellAt c 0)) (intOfV (cellAt c 1)) o p (fun e f g =>
 (cbr (g !=(0:Int))
 (j l0 l1 l2 g)
 (lt (IntKind.i64.wrap (i4+(1:Int))) (fun q =>
 (asr (decide (1=List.length ([(.agg [(.int .i64 e),(.int .i64 f)])]:Ls))&&decide (1=List.length ([(.agg [(.int .i64 e),(.int .i64 f)])]:Ls)))
 (yfa a0 a1 a2 a3 a4 a5 k l m ([(.agg [(.int .i64 e),(.int .i64 f)])]:Ls) l0 l1 l2 i3 q))))))))))))))))))))))))))
 (h l0 l1 l2 i3 i4 false))
def ycc (a0:yaN) (a1:yau) (a2:yar) (a3:yan) (a4:yaJ) (a5:yaq) (a:Ls→Ls→Ls→Int→Ls→Int→Bool→Prop) (b:Ls→Ls→Ls→Bool→Int→Prop):Nat→Ls→Ls→Ls→Int→Ls→Int→Prop
 | 0,_,_,_,_,_,_=>False
 | d+1,l0,l1,l2,i3,l4,i5 =>
 (cbr (decide (i5<(5:Int)))
 (jn (fun c =>
 (asr (!(decide (i5<(0:Int))))
 (lt (Int.fdiv i3 (2 ^ (min i5.toNat IntKind.u8.bits))) (fun e =>
 (lt (IntKind.u8.wrap (BitVec.ofInt IntKind.u8.bits e&&&BitVec.ofInt IntKind.u8.bits (1:Int)).toNat) (fun f =>
 (cbr (f ==(0:Int))
 c
 (asr (!(decide (i5<(0:Int))))
 (lt (IntKind.u8.wrap ((1:Int)*2 ^ (min i5.toNat IntKind.u8.bits))) (fun g =>
 (a5 l0 l1 l2 ([]:Ls) g (fun _ _ h =>
 (cbr h
 (b l0 l1 l2 false (0:Int))
 c)))))))))))))
 (lt (IntKind.i64.wrap (i5+(1:Int))) (fun i =>
 (ycc a0 a1 a2 a3 a4 a5 a b d l0 l1 l2 i3 l4 i))))
 (a l0 l1 l2 i3 l4 i5 false))
def yfb (a0:yaN) (a1:yau) (a2:yar) (a3:yan) (a4:yaJ) (a5:yaq) (a:Ls→Ls→Ls→Ls→Int→Ls→Int→Bool→Prop) (b:Ls→Ls→Ls→Ls→Bool→Int→Prop):Nat→Ls→Ls→Ls→Ls→Int→Ls→Int→Prop
 | 0,_,_,_,_,_,_,_=>False
 | d+1,l0,l1,l2,l3,i6,l7,i8 =>
 (cbr (decide (i8<(5:Int)))
 (jn (fun c =>
 (asr (!(decide (i8<(0:Int))))
 (lt (Int.fdiv i6 (2 ^ (min i8.toNat IntKind.u8.bits))) (fun e =>
 (lt (IntKind.u8.wrap (BitVec.ofInt IntKind.u8.bits e&&&BitVec.ofInt IntKind.u8.bits (1:Int)).toNat) (fun f =>
 (cbr (f ==(0:Int))
 c
 (asr (!(decide (i8<(0:Int))))
 (lt (IntKind.u8.wrap ((1:Int)*2 ^ (min i8.toNat IntKind.u8.bits))) (fun g =>
 (asr (decide ((List.length l0)=(List.length l0)))
 (asr (decide ((0+(List.length l0))≤(List.length l0)))
 (a5 l1 l2 l3 (List.take (List.length l0) l0) g (fun _ _ h =>
 (cbr h
 (b l0 l1 l2 l3 false (0:Int))
 c)))))))))))))))
 (lt (IntKind.i64.wrap (i8+(1:Int))) (fun i =>
 (asr (decide ((List.length l0)=List.length l0)&&decide ((List.length l0)=List.length l0))
 (yfb a0 a1 a2 a3 a4 a5 a b d l0 l1 l2 l3 i6 l7 i)))))
 (a l0 l1 l2 l3 i6 l7 i8 false))
def ymG (a0:yaN) (a1:yau) (a2:yar) (a3:yan) (a4:yaJ) (a5:yaq) (p0 p1:Ls) (p2:Int) (p3:Ls) (K:Bool→Int→Prop):Prop :=
 (a0 p0 p1 (fun a c =>
 (cbr (c !=(0:Int))
 (cbr (c !=(0:Int))
 (K false c)
 (cbr (decide (p2≥(32:Int)))
 (K false (0:Int))
 False))
 (jn (fun (g:Ls→Ls→Ls→Bool→Prop) =>
 (cbr (decide (p2≥(32:Int)))
 (g p0 p1 a true)
 (jn (fun (d:Ls→Ls→Ls→Bool→Prop) =>
 (cbr ((((List.length a):Nat):Int) !=(((List.length p3):Nat):Int))
 (d p0 p1 a false)
 (∃ o:Nat,ycy a0 a1 a2 a3 a4 a5
 (fun p q r _ _ _ _ _=>(d p q r true))
 (fun s t u v=>(d s t u v))
 o p0 p1 a p3 a (((List.length a):Nat):Int) (0:Int))))
 (fun w x y z=>(g w x y (!z))))))
 (fun e h i A=>(cbr A
 (K false (0:Int))
 (jn (fun (j:Ls→Ls→Ls→Prop) =>
 (lt (IntKind.u8.wrap (BitVec.ofInt IntKind.u8.bits p2&&&BitVec.ofInt IntKind.u8.bits (8:Int)).toNat) (fun B =>
 (cbr (B !=(0:Int))
 (jn (fun (k:Ls→Ls→Ls→Int→Prop) =>
 (jn (fun (l:Ls→Ls→Ls→Ls→Int→Prop) =>
 (∃ C:Nat,ygO a0 a1 a2 a3 a4 a5
 (fun D E F _ _ _=>(k D E F (0:Int)))
 (fun G H I J=>(k G H I J))
 (fun L M N O _ _ _=>(l L M N O (0:Int)))
 (fun Q R S T U=>(l Q R S T U))
 C e h i (((List.length e):Nat):Int) (0:Int)))
 (fun b V W X m=>(cbr (m !=(0:Int))
 (K false m)
 (asr (decide ((List.length b)=List.length b)&&decide ((List.length b)=List.length b))
 (∃ f:Nat,yfb a0 a1 a2 a3 a4 a5
 (fun _ _ _ _ _ _ _ _=>(K true (0:Int)))
 (fun _ _ _ _ Y Z=>(K Y Z))
 f b V W X p2 p3 (0:Int)))))))
 (fun va vb vc n=>(cbr (n !=(0:Int))
 (K false n)
 (j va vb vc))))
 (j e h i)))))
 (fun vd ve vf=>(∃ f:Nat,ycc a0 a1 a2 a3 a4 a5
 (fun _ _ _ _ _ _ _=>(K true (0:Int)))
 (fun _ _ _ vg vh=>(K vg vh))
 f vd ve vf p2 p3 (0:Int))))))))))
def yek (p0 p1:Ls) (p2:Int) (p3:Ls) (K:Bool→Int→Prop):Prop:=ymG yat yam yad yak yav yai p0 p1 p2 p3 K
def ymH (w:ykj) (as:Ls) (K:PV→Prop):Prop :=
 match as with
 | [(.data p0),(.agg [(.data p1)]),(.agg [(.int .u8 p2),(.data p3)])]=>w p0 p1 p2 p3 (fun r0 r1=>K (.tup [(.bool r0),(.int .i64 r1)]))
 | _=>False
def yrE (as:Ls) (K:PV→Prop):Prop:=ymH yek as K
def yeX (F:Frm) (H:Hp) (A0:Ls→Ls→Ls→Ls→Ls→Int→Int→Prop):Prop :=
 match F,H with
 | [(1,.v (.data l3)),(2,.v (.fn (.func q0) [] [])),(15,.v (.data l4)),(16,.v (.int .i64 i5)),(17,.v (.int .i64 i6))],[⟨false,false,4,[(.agg [(.data l0),(.data l1),(.data l2),.nils])]⟩]=>asr (Nat.beq q0 yaI) (A0 l0 l1 l2 l3 l4 i5 i6)
 | _,_=>False
def yeY (F:Frm) (H:Hp) (A0:Ls→Ls→Ls→Int→Int→Prop) (A1:Ls→Ls→Ls→Ls→Int→Int→Prop):Prop :=
 match F,H with
 | [(0,.v (.ptr 0 1 0 0)),(12,.v (.int .i64 i3)),(13,.v (.int .i64 i4))],[⟨false,false,4,[(.agg [(.data l0),(.data l1),(.data l2),.nils])]⟩]=>(A0 l0 l1 l2 i3 i4)
 | [(0,.v (.ptr 0 1 0 0)),(12,.v (.int .i64 i6)),(13,.v (.int .i64 i7))],[⟨false,false,4,[(.agg [(.data l1),(.data l2),(.data l3),(.own 1 0 t4 t5 none)])]⟩,⟨false,true,2,l0⟩]=>asr (decide (t4=List.length l0)&&decide (t5=List.length l0)) (A1 l0 l1 l2 l3 i6 i7)
 | _,_=>False
def yeZ (F:Frm) (H:Hp) (A0:Ls→Ls→Ls→Int→Ls→Int→Prop) (A1:Ls→Ls→Ls→Ls→Int→Ls→Int→Prop):Prop :=
 match F,H with
 | [(5,.box (.agg [(.int .u8 i3),(.data l4)])),(8,.v (.ptr 0 1 0 0)),(46,.v (.int .i64 i5))],[⟨false,false,4,[(.agg [(.data l0),(.data l1),(.data l2),.nils])]⟩]=>(A0 l0 l1 l2 i3 l4 i5)
 | [(5,.box (.agg [(.int .u8 i6),(.data l7)])),(8,.v (.ptr 0 1 0 0)),(46,.v (.int .i64 i8))],[⟨false,false,4,[(.agg [(.data l1),(.data l2),(.data l3),(.own 1 0 t4 t5 none)])]⟩,⟨false,true,2,l0⟩]=>asr (decide (t4=List.length l0)&&decide (t5=List.length l0)) (A1 l0 l1 l2 l3 i6 l7 i8)
 | _,_=>False
def yiY (Q:Ex→Frm→Hp→Prop):Ls→Ls→Ls→Ls→Ls→Int→Int→Bool→Prop:=(fun l0 l1 l2 l3 l4 i5 i6 b7=>Q (.exit 0) [(1,.v (.data l3)),(2,.v (.fn (.func yaI) [] [])),(15,.v (.data l4)),(16,.v (.int .i64 i5)),(17,.v (.int .i64 i6)),(18,.v (.bool b7))] [⟨false,false,4,([(.agg [(.data l0),(.data l1),(.data l2),.nils])]:Ls)⟩])
def yiZ (Q:Ex→Frm→Hp→Prop):Ls→Ls→Ls→Bool→Prop:=(fun l0 l1 l2 b3=>Q .ret [(6,.v (.bool b3))] [⟨false,false,4,([(.agg [(.data l0),(.data l1),(.data l2),.nils])]:Ls)⟩])
def yja (Q:Ex→Frm→Hp→Prop):Ls→Ls→Ls→Int→Int→Bool→Prop:=(fun l0 l1 l2 i3 i4 b5=>Q (.exit 0) [(0,.v (.ptr 0 1 0 0)),(12,.v (.int .i64 i3)),(13,.v (.int .i64 i4)),(14,.v (.bool b5))] [⟨false,false,4,([(.agg [(.data l0),(.data l1),(.data l2),.nils])]:Ls)⟩])
def yjb (Q:Ex→Frm→Hp→Prop):Ls→Ls→Ls→Int→Prop:=(fun l0 l1 l2 i3=>Q .ret [(2,.v (.int .i64 i3))] [⟨false,false,4,([(.agg [(.data l0),(.data l1),(.data l2),.nils])]:Ls)⟩])
def yd3 (Q:Ex→Frm→Hp→Prop):Ls→Ls→Ls→Ls→Int→Int→Bool→Prop:=(fun l0 l1 l2 l3 i6 i7 b8=>Q (.exit 0) [(0,.v (.ptr 0 1 0 0)),(12,.v (.int .i64 i6)),(13,.v (.int .i64 i7)),(14,.v (.bool b8))] [⟨false,false,4,([(.agg [(.data l1),(.data l2),(.data l3),(.own 1 0 (List.length l0) (List.length l0) none)])]:Ls)⟩,⟨false,true,2,l0⟩])
def yd4 (Q:Ex→Frm→Hp→Prop):Ls→Ls→Ls→Ls→Int→Prop:=(fun l0 l1 l2 l3 i6=>Q .ret [(2,.v (.int .i64 i6))] [⟨false,false,4,([(.agg [(.data l1),(.data l2),(.data l3),(.own 1 0 (List.length l0) (List.length l0) none)])]:Ls)⟩,⟨false,true,2,l0⟩])
def yjc (Q:Ex→Frm→Hp→Prop):Ls→Ls→Ls→Int→Ls→Int→Bool→Prop:=(fun l0 l1 l2 i3 l4 i5 b6=>Q (.exit 0) [(5,.box (.agg [(.int .u8 i3),(.data l4)])),(8,.v (.ptr 0 1 0 0)),(46,.v (.int .i64 i5)),(47,.v (.bool b6))] [⟨false,false,4,([(.agg [(.data l0),(.data l1),(.data l2),.nils])]:Ls)⟩])
def yjd (Q:Ex→Frm→Hp→Prop):Ls→Ls→Ls→Bool→Int→Prop:=(fun l0 l1 l2 b3 i4=>Q .ret [(6,.v (.bool b3)),(7,.v (.int .i64 i4))] [⟨false,false,4,([(.agg [(.data l0),(.data l1),(.data l2),.nils])]:Ls)⟩])
def yje (Q:Ex→Frm→Hp→Prop):Ls→Ls→Ls→Ls→Int→Ls→Int→Bool→Prop:=(fun l0 l1 l2 l3 i6 l7 i8 b9=>Q (.exit 0) [(5,.box (.agg [(.int .u8 i6),(.data l7)])),(8,.v (.ptr 0 1 0 0)),(46,.v (.int .i64 i8)),(47,.v (.bool b9))] [⟨false,false,4,([(.agg [(.data l1),(.data l2),(.data l3),(.own 1 0 (List.length l0) (List.length l0) none)])]:Ls)⟩,⟨false,true,2,l0⟩])
def yjf (Q:Ex→Frm→Hp→Prop):Ls→Ls→Ls→Ls→Bool→Int→Prop:=(fun l0 l1 l2 l3 b6 i7=>Q .ret [(6,.v (.bool b6)),(7,.v (.int .i64 i7))] [⟨false,false,4,([(.agg [(.data l1),(.data l2),(.data l3),(.own 1 0 (List.length l0) (List.length l0) none)])]:Ls)⟩,⟨false,true,2,l0⟩])
def yid (a0:yaN) (a1:yau) (a2:yar) (a3:yan) (a4:yaJ) (a5:yaq) (Q:Ex→Frm→Hp→Prop) (n:Nat) (F:Frm) (H:Hp):Prop:=yeX F H (fun l0 l1 l2 l3 l4 i5 i6=>ycy a0 a1 a2 a3 a4 a5 (yiY Q) (yiZ Q) n l0 l1 l2 l3 l4 i5 i6)
def ygn (a0:yaN) (a1:yau) (a2:yar) (a3:yan) (a4:yaJ) (a5:yaq) (Q:Ex→Frm→Hp→Prop) (n:Nat) (F:Frm) (H:Hp):Prop:=yeY F H (fun l0 l1 l2 i3 i4=>ygO a0 a1 a2 a3 a4 a5 (yja Q) (yjb Q) (yd3 Q) (yd4 Q) n l0 l1 l2 i3 i4) (fun l0 l1 l2 l3 i6 i7=>yfa a0 a1 a2 a3 a4 a5 (yd3 Q) (yd4 Q) n l0 l1 l2 l3 i6 i7)
def ygo (a0:yaN) (a1:yau) (a2:yar) (a3:yan) (a4:yaJ) (a5:yaq) (Q:Ex→Frm→Hp→Prop) (n:Nat) (F:Frm) (H:Hp):Prop:=yeZ F H (fun l0 l1 l2 i3 l4 i5=>ycc a0 a1 a2 a3 a4 a5 (yjc Q) (yjd Q) n l0 l1 l2 i3 l4 i5) (fun l0 l1 l2 l3 i6 l7 i8=>yfb a0 a1 a2 a3 a4 a5 (yje Q) (yjf Q) n l0 l1 l2 l3 i6 l7 i8)
def ybB (a0:yaN) (a1:yau) (a2:yar) (a3:yan) (a4:yaJ) (a5:yaq):LP:=fun id F H Q =>
 bif Nat.beq id 8009400 then yeX F H (fun l0 l1 l2 l3 l4 i5 i6=>∃ n:Nat,ycy a0 a1 a2 a3 a4 a5 (yiY Q) (yiZ Q) n l0 l1 l2 l3 l4 i5 i6) else
 bif Nat.beq id 20643600 then yeY F H (fun l0 l1 l2 i3 i4=>∃ n:Nat,ygO a0 a1 a2 a3 a4 a5 (yja Q) (yjb Q) (yd3 Q) (yd4 Q) n l0 l1 l2 i3 i4) (fun l0 l1 l2 l3 i6 i7=>∃ n:Nat,yfa a0 a1 a2 a3 a4 a5 (yd3 Q) (yd4 Q) n l0 l1 l2 l3 i6 i7) else
 bif Nat.beq id 47320500 then yeZ F H (fun l0 l1 l2 i3 l4 i5=>∃ n:Nat,ycc a0 a1 a2 a3 a4 a5 (yjc Q) (yjd Q) n l0 l1 l2 i3 l4 i5) (fun l0 l1 l2 l3 i6 l7 i8=>∃ n:Nat,yfb a0 a1 a2 a3 a4 a5 (yje Q) (yjf Q) n l0 l1 l2 l3 i6 l7 i8) else
 False
def yfo (a0:yaN) (a1:yau) (a2:yar) (a3:yan) (a4:yaJ) (a5:yaq):SE:=⟨(E ef0),lookS [(ybh,ygi a0),(yaI,ycI a1),(ycF,yd8 a2),(ybT,ydA a3),(yee,yfA a4),(ybo,ycU a5)],lookI [(ydT,yh3)],ybB a0 a1 a2 a3 a4 a5⟩
def yrF (a0:yaN) (a1:yau) (a2:yar) (a3:yan) (a4:yaJ) (a5:yaq):SE:=⟨(E ef0),lookS [(ybh,ygi a0),(yaI,ycI a1),(ycF,yd8 a2),(ybT,ydA a3),(yee,yfA a4),(ybo,ycU a5)],lookI [(ydT,yh3),(ybk,yeC),(ye4,yn2)],ybB a0 a1 a2 a3 a4 a5⟩
theorem ylg:SEOk (yfo yat yam yad yak yav yai):=yao ⟨(yhT ef0 effG0),(ydZ ef0 effG0),(yeP ef0 effG0),(ye8 ef0 effG0),(ygF ef0 effG0),ydQ,trivial⟩ ⟨⟨by kernel_rfl,by kernel_rfl,rfl,fun as=>yaa (by kernel_rfl) as,effG0.num _ (by kernel_rfl),(yag (by kernel_rfl))⟩,trivial⟩ effG0.ok
theorem yr0 (a0 a1 a2 a3 a4 a5 Q n l0 l1 l2 l3 l4 i5 i6):WC (E ef0) (callW (yfo a0 a1 a2 a3 a4 a5) 10) (ybB a0 a1 a2 a3 a4 a5) yqc [(1,.v (.data l3)),(2,.v (.fn (.func yaI) [] [])),(15,.v (.data l4)),(16,.v (.int .i64 i5)),(17,.v (.int .i64 i6))] [⟨false,false,4,([(.agg [(.data l0),(.data l1),(.data l2),.nils])]:Ls)⟩] (fun x F' H'=>match x with | .norm=>yid a0 a1 a2 a3 a4 a5 Q n F' H' | .exit i=>Q (.exit i) F' H' | .ret=>Q .ret F' H')=ycy a0 a1 a2 a3 a4 a5 (yiY Q) (yiZ Q) (n+1) l0 l1 l2 l3 l4 i5 i6:=by kernel_rfl
theorem yv9:LpOk (E ef0) (ybB yat yam yad yak yav yai) yqc:=(yag (by kernel_rfl))
theorem yuq:∀ F H Q,ybB yat yam yad yak yav yai 8009400 F H Q→LoopT (E ef0) yqc F H Q:=by
 intro F H Q h
 have go:=LoopT.intro (yaF (ylg) 10) (yv9) (yid yat yam yad yak yav yai Q) (by
   intro F H h
   unfold yid yeX at h
   split at h
   · obtain ⟨hg,k⟩:=yaf.1 h
     clear h
     have h:=k
     clear k
     try simp only [Bool.and_eq_true,decide_eq_true_eq] at hg
     have g0:=hg;have g0:=Nat.eq_of_beq_eq_true g0;subst g0;exact h
   · exact h) (by
   intro n F H h
   unfold yid yeX at h
   split at h
   · obtain ⟨hg,k⟩:=yaf.1 h
     clear h
     have h:=k
     clear k
     try simp only [Bool.and_eq_true,decide_eq_true_eq] at hg
     have g0:=hg;have g0:=Nat.eq_of_beq_eq_true g0;subst g0;exact (yr0 ..).mpr h
   · exact h.elim)
 have h:yeX F H _:=h
 unfold yeX at h
 split at h
 · obtain ⟨hg,n,h⟩:=yaf.1 h;exact go n _ _ (yaf.2 ⟨hg,h⟩)
 · exact h.elim
theorem yr1 (a0 a1 a2 a3 a4 a5 Q n l0 l1 l2 i3 i4):WC (E ef0) (callW (yfo a0 a1 a2 a3 a4 a5) 10) (ybB a0 a1 a2 a3 a4 a5) ye5 [(0,.v (.ptr 0 1 0 0)),(12,.v (.int .i64 i3)),(13,.v (.int .i64 i4))] [⟨false,false,4,([(.agg [(.data l0),(.data l1),(.data l2),.nils])]:Ls)⟩] (fun x F' H'=>match x with | .norm=>ygn a0 a1 a2 a3 a4 a5 Q n F' H' | .exit i=>Q (.exit i) F' H' | .ret=>Q .ret F' H')=ygO a0 a1 a2 a3 a4 a5 (yja Q) (yjb Q) (yd3 Q) (yd4 Q) (n+1) l0 l1 l2 i3 i4:=by kernel_rfl
theorem yr2 (a0 a1 a2 a3 a4 a5 Q n l0 l1 l2 l3 i6 i7):WC (E ef0) (callW (yfo a0 a1 a2 a3 a4 a5) 10) (ybB a0 a1 a2 a3 a4 a5) ye5 [(0,.v (.ptr 0 1 0 0)),(12,.v (.int .i64 i6)),(13,.v (.int .i64 i7))] [⟨false,false,4,([(.agg [(.data l1),(.data l2),(.data l3),(.own 1 0 (List.length l0) (List.length l0) none)])]:Ls)⟩,⟨false,true,2,l0⟩] (fun x F' H'=>match x with | .norm=>ygn a0 a1 a2 a3 a4 a5 Q n F' H' | .exit i=>Q (.exit i) F' H' | .ret=>Q .ret F' H')=yfa a0 a1 a2 a3 a4 a5 (yd3 Q) (yd4 Q) (n+1) l0 l1 l2 l3 i6 i7:=by kernel_rfl
theorem ywa:LpOk (E ef0) (ybB yat yam yad yak yav yai) ye5:=(yag (by kernel_rfl))
theorem yur:∀ F H Q,ybB yat yam yad yak yav yai 20643600 F H Q→LoopT (E ef0) ye5 F H Q:=by
 intro F H Q h
 have go:=LoopT.intro (yaF (ylg) 10) (ywa) (ygn yat yam yad yak yav yai Q) (by
   intro F H h
   unfold ygn yeY at h
   split at h
   · exact h
   · obtain ⟨hg,k⟩:=yaf.1 h
     clear h
     have h:=k
     clear k
     try simp only [Bool.and_eq_true,decide_eq_true_eq] at hg
     obtain ⟨g0,g1⟩:=hg;subst g0;subst g1;exact h
   · exact h) (by
   intro n F H h
   unfold ygn yeY at h
   split at h
   · exact (yr1 ..).mpr h
   · obtain ⟨hg,k⟩:=yaf.1 h
     clear h
     have h:=k
     clear k
     try simp only [Bool.and_eq_true,decide_eq_true_eq] at hg
     obtain ⟨g0,g1⟩:=hg;subst g0;subst g1;exact (yr2 ..).mpr h
   · exact h.elim)
 have h:yeY F H _ _:=h
 unfold yeY at h
 split at h
 · obtain ⟨n,h⟩:=h;exact go n _ _ h
 · obtain ⟨hg,n,h⟩:=yaf.1 h;exact go n _ _ (yaf.2 ⟨hg,h⟩)
 · exact h.elim
theorem yr3 (a0 a1 a2 a3 a4 a5 Q n l0 l1 l2 i3 l4 i5):WC (E ef0) (callW (yfo a0 a1 a2 a3 a4 a5) 10) (ybB a0 a1 a2 a3 a4 a5) ykO [(5,.box (.agg [(.int .u8 i3),(.data l4)])),(8,.v (.ptr 0 1 0 0)),(46,.v (.int .i64 i5))] [⟨false,false,4,([(.agg [(.data l0),(.data l1),(.data l2),.nils])]:Ls)⟩] (fun x F' H'=>match x with | .norm=>ygo a0 a1 a2 a3 a4 a5 Q n F' H' | .exit i=>Q (.exit i) F' H' | .ret=>Q .ret F' H')=ycc a0 a1 a2 a3 a4 a5 (yjc Q) (yjd Q) (n+1) l0 l1 l2 i3 l4 i5:=by kernel_rfl
theorem yr4 (a0 a1 a2 a3 a4 a5 Q n l0 l1 l2 l3 i6 l7 i8):WC (E ef0) (callW (yfo a0 a1 a2 a3 a4 a5) 10) (ybB a0 a1 a2 a3 a4 a5) ykO [(5,.box (.agg [(.int .u8 i6),(.data l7)])),(8,.v (.ptr 0 1 0 0)),(46,.v (.int .i64 i8))] [⟨false,false,4,([(.agg [(.data l1),(.data l2),(.data l3),(.own 1 0 (List.length l0) (List.length l0) none)])]:Ls)⟩,⟨false,true,2,l0⟩] (fun x F' H'=>match x with | .norm=>ygo a0 a1 a2 a3 a4 a5 Q n F' H' | .exit i=>Q (.exit i) F' H' | .ret=>Q .ret F' H')=yfb a0 a1 a2 a3 a4 a5 (yje Q) (yjf Q) (n+1) l0 l1 l2 l3 i6 l7 i8:=by kernel_rfl
theorem ywb:LpOk (E ef0) (ybB yat yam yad yak yav yai) ykO:=(yag (by kernel_rfl))
theorem yus:∀ F H Q,ybB yat yam yad yak yav yai 47320500 F H Q→LoopT (E ef0) ykO F H Q:=by
 intro F H Q h
 have go:=LoopT.intro (yaF (ylg) 10) (ywb) (ygo yat yam yad yak yav yai Q) (by
   intro F H h
   unfold ygo yeZ at h
   split at h
   · exact h
   · obtain ⟨hg,k⟩:=yaf.1 h
     clear h
     have h:=k
     clear k
     try simp only [Bool.and_eq_true,decide_eq_true_eq] at hg
     obtain ⟨g0,g1⟩:=hg;subst g0;subst g1;exact h
   · exact h) (by
   intro n F H h
   unfold ygo yeZ at h
   split at h
   · exact (yr3 ..).mpr h
   · obtain ⟨hg,k⟩:=yaf.1 h
     clear h
     have h:=k
     clear k
     try simp only [Bool.and_eq_true,decide_eq_true_eq] at hg
     obtain ⟨g0,g1⟩:=hg;subst g0;subst g1;exact (yr4 ..).mpr h
   · exact h.elim)
 have h:yeZ F H _ _:=h
 unfold yeZ at h
 split at h
 · obtain ⟨n,h⟩:=h;exact go n _ _ h
 · obtain ⟨hg,n,h⟩:=yaf.1 h;exact go n _ _ (yaf.2 ⟨hg,h⟩)
 · exact h.elim
theorem yy9:SEOk (yrF yat yam yad yak yav yai):=yao ⟨(yhT ef0 effG0),(ydZ ef0 effG0),(yeP ef0 effG0),(ye8 ef0 effG0),(ygF ef0 effG0),ydQ,trivial⟩ ⟨⟨by kernel_rfl,by kernel_rfl,rfl,fun as=>yaa (by kernel_rfl) as,effG0.num _ (by kernel_rfl),(yag (by kernel_rfl))⟩,⟨by kernel_rfl,by kernel_rfl,rfl,fun as=>yaa (by kernel_rfl) as,effG0.num _ (by kernel_rfl),(ybe (l:=[(8009400,yqc)]) ⟨yuq,trivial⟩ (by kernel_rfl))⟩,⟨by kernel_rfl,by kernel_rfl,rfl,fun as=>yaa (by kernel_rfl) as,effG0.num _ (by kernel_rfl),(ybe (l:=[(20643600,ye5)]) ⟨yur,trivial⟩ (by kernel_rfl))⟩,trivial⟩ effG0.ok
theorem yAB (a0 a1 a2 a3 a4 a5 p0 p1 p2 p3 K):WP (yrF a0 a1 a2 a3 a4 a5) 11 yBx [(.data p0),(.agg [(.data p1)]),(.agg [(.int .u8 p2),(.data p3)])] K=ymG a0 a1 a2 a3 a4 a5 p0 p1 p2 p3 (fun r0 r1=>K (.tup [(.bool r0),(.int .i64 r1)])):=by kernel_rfl
theorem yrG:OkF (E ef0) yrE yhB:=by
 intro as K h
 unfold yrE ymH at h
 split at h
 · exact WP_ok (yy9) (ybe (l:=[(47320500,ykO)]) ⟨yus,trivial⟩ (by kernel_rfl)) (by kernel_rfl) (by kernel_rfl) (fun _=>yaa (by kernel_rfl) _) (effG0.num _ (by kernel_rfl)) ((yAB ..).mpr h)
 · exact h.elim
end Go.Pf.Vc
namespace Go.Pf.Vc
open Go Go.Pf
set_option linter.unusedVariables false
theorem yAC (p0:Ls) (p1:Ls) (r0:Int) (h:∀ K:Int→Prop,K r0→yfL p0 p1 K) (K:Int→Prop):yfL p0 p1 K=K r0 :=
 propext ⟨fun k=>detC (yta [] ya6) (as:=[(.data p0),(.agg [(.data p1)])]) (x:=(.int .i64 r0)) (fun K' k'=>h (fun r0=>K' (.int .i64 r0)) k') (K:=fun x=>match x with | (.int .i64 r0)=>K r0 | _=>False) k,h K⟩
theorem yAD (p0:Ls) (p1:Ls) (r0:Ls) (r1:Int) (h:∀ K:Ls→Int→Prop,K r0 r1→yat p0 p1 K) (K:Ls→Int→Prop):yat p0 p1 K=K r0 r1 :=
 propext ⟨fun k=>detC (yhT [] ya6) (as:=[(.data p0),(.agg [(.data p1)])]) (x:=(.tup [(.data r0),(.int .i64 r1)])) (fun K' k'=>h (fun r0 r1=>K' (.tup [(.data r0),(.int .i64 r1)])) k') (K:=fun x=>match x with | (.tup [(.data r0),(.int .i64 r1)])=>K r0 r1 | _=>False) k,h K⟩
theorem yxO (p0:Int) (p1:Int) (p2:Int) (p3:Int) (p4:Ls) (r0:Bool) (h:∀ K:Bool→Prop,K r0→ybS p0 p1 p2 p3 p4 K) (K:Bool→Prop):ybS p0 p1 p2 p3 p4 K=K r0 :=
 propext ⟨fun k=>detC (ylb [] ya6) (as:=[(.agg [(.int .i64 p0),(.int .i64 p1),(.int .i64 p2),(.int .i64 p3)]),(.eptr [(.data p4)] 0 0)]) (x:=(.bool r0)) (fun K' k'=>h (fun r0=>K' (.bool r0)) k') (K:=fun x=>match x with | (.bool r0)=>K r0 | _=>False) k,h K⟩
theorem yAE (p0:Ls) (p1:Ls) (r0:Bool) (h:∀ K:Bool→Prop,K r0→yaj p0 p1 K) (K:Bool→Prop):yaj p0 p1 K=K r0 :=
 propext ⟨fun k=>detC (yoA [] ya6) (as:=[(.data p0),(.data p1)]) (x:=(.bool r0)) (fun K' k'=>h (fun r0=>K' (.bool r0)) k') (K:=fun x=>match x with | (.bool r0)=>K r0 | _=>False) k,h K⟩
theorem yut (p0:Ls) (p1:Ls) (p2:Ls) (p3:Ls) (r0:Bool) (h:∀ K:Bool→Prop,K r0→yac p0 p1 p2 p3 K) (K:Bool→Prop):yac p0 p1 p2 p3 K=K r0 :=
 propext ⟨fun k=>detC yiX (as:=[(.eptr [(.agg [(.data p0),(.data p1),(.data p2),(.data p3)])] 0 0)]) (x:=(.bool r0)) (fun K' k'=>h (fun r0=>K' (.bool r0)) k') (K:=fun x=>match x with | (.bool r0)=>K r0 | _=>False) k,h K⟩
theorem yri (p0:Ls) (p1:Ls) (p2:Ls) (p3:Ls) (p4:Int) (r0:Int) (r1:Int) (r2:Bool) (h:∀ K:Int→Int→Bool→Prop,K r0 r1 r2→yai p0 p1 p2 p3 p4 K) (K:Int→Int→Bool→Prop):yai p0 p1 p2 p3 p4 K=K r0 r1 r2 :=
 propext ⟨fun k=>detC ydQ (as:=[(.eptr [(.agg [(.data p0),(.data p1),(.data p2),(.data p3)])] 0 0),(.int .u8 p4)]) (x:=(.tup [(.int .i64 r0),(.int .i64 r1),(.bool r2)])) (fun K' k'=>h (fun r0 r1 r2=>K' (.tup [(.int .i64 r0),(.int .i64 r1),(.bool r2)])) k') (K:=fun x=>match x with | (.tup [(.int .i64 r0),(.int .i64 r1),(.bool r2)])=>K r0 r1 r2 | _=>False) k,h K⟩
theorem yCf (p0:Ls) (p1:Ls) (r0:Int) (r1:Ls) (r2:Int) (h:∀ K:Int→Ls→Int→Prop,K r0 r1 r2→yfE p0 p1 K) (K:Int→Ls→Int→Prop):yfE p0 p1 K=K r0 r1 r2 :=
 propext ⟨fun k=>detC yva (as:=[(.data p0),(.agg [(.data p1)])]) (x:=(.tup [(.agg [(.int .u8 r0),(.data r1)]),(.int .i64 r2)])) (fun K' k'=>h (fun r0 r1 r2=>K' (.tup [(.agg [(.int .u8 r0),(.data r1)]),(.int .i64 r2)])) k') (K:=fun x=>match x with | (.tup [(.agg [(.int .u8 r0),(.data r1)]),(.int .i64 r2)])=>K r0 r1 r2 | _=>False) k,h K⟩
theorem yza (p0:Ls) (p1:Ls) (p2:Int) (p3:Ls) (r0:Bool) (r1:Int) (h:∀ K:Bool→Int→Prop,K r0 r1→yek p0 p1 p2 p3 K) (K:Bool→Int→Prop):yek p0 p1 p2 p3 K=K r0 r1 :=
 propext ⟨fun k=>detC yrG (as:=[(.data p0),(.agg [(.data p1)]),(.agg [(.int .u8 p2),(.data p3)])]) (x:=(.tup [(.bool r0),(.int .i64 r1)])) (fun K' k'=>h (fun r0 r1=>K' (.tup [(.bool r0),(.int .i64 r1)])) k') (K:=fun x=>match x with | (.tup [(.bool r0),(.int .i64 r1)])=>K r0 r1 | _=>False) k,h K⟩
end Go.Pf.Vc
namespace Go.Pf.Vc
open Go Go.Pf
set_option maxRecDepth 100000
abbrev yc0:Type:=Ls→Int→(Ls→Ls→Int→Int→Int→Int→Bool→Int→Prop)→Prop
def ymI (a0:yqS) (p0:Ls) (p1:Int) (K:Ls→Ls→Int→Int→Int→Int→Bool→Int→Prop):Prop :=
 (a0 p0 (fun b c a =>
 (cbr (a !=(0:Int))
 (K ([]:Ls) ([]:Ls) (0:Int) (0:Int) (0:Int) (0:Int) false a)
 (cbr ((((List.length p0):Nat):Int) !=(2:Int))
 (K ([]:Ls) ([]:Ls) (0:Int) (0:Int) (0:Int) (0:Int) false (2:Int))
 (cbr (decide (p1<(0:Int)))
 (K ([]:Ls) ([]:Ls) (0:Int) (0:Int) (0:Int) (0:Int) false (2:Int))
 (cbr (decide (p1>(1:Int)))
 (K ([]:Ls) ([]:Ls) (0:Int) (0:Int) (0:Int) (0:Int) false (2:Int))
 (K b c p1 (0:Int) (0:Int) (1:Int) false (0:Int))))))))
def yc1 (p0:Ls) (p1:Int) (K:Ls→Ls→Int→Int→Int→Int→Bool→Int→Prop):Prop:=ymI yom p0 p1 K
def yiO (w:yc0) (as:Ls) (K:PV→Prop):Prop :=
 match as with
 | [(.data p0),(.int .i64 p1)]=>w p0 p1 (fun r0 r1 r2 r3 r4 r5 r6 r7=>K (.tup [(.agg [(.data r0),(.data r1),(.int .i64 r2),(.int .i64 r3),(.int .i64 r4),(.int .i64 r5),(.bool r6)]),(.int .i64 r7)]))
 | _=>False
def yrH (as:Ls) (K:PV→Prop):Prop:=yiO yc1 as K
def yAF (_:yqS):LP:=fun _ _ _ _ =>
 False
def yrI (e:Es) (a0:yqS):SE:=⟨(E e),lookS [(ynC,ysP a0)],lookI [],yAF a0⟩
theorem yzb (e:Es) (he:EG e):SEOk (yrI e yom):=yao ⟨(yHq e he),trivial⟩ trivial he.ok
theorem yAG (e:Es) (a0 p0 p1 K):WP (yrI e a0) 6 yBu [(.data p0),(.int .i64 p1)] K=ymI a0 p0 p1 (fun r0 r1 r2 r3 r4 r5 r6 r7=>K (.tup [(.agg [(.data r0),(.data r1),(.int .i64 r2),(.int .i64 r3),(.int .i64 r4),(.int .i64 r5),(.bool r6)]),(.int .i64 r7)])):=by kernel_rfl
theorem yrJ (e:Es) (he:EG e):OkF (E e) yrH ye1:=by
 intro as K h
 unfold yrH yiO at h
 split at h
 · exact WP_ok (yzb e he) (yag (by kernel_rfl)) (by kernel_rfl) (by kernel_rfl) (fun _=>yaa (by kernel_rfl) _) (he.num _ (by kernel_rfl)) ((yAG ..).mpr h)
 · exact h.elim
abbrev ylI:Type:=Int→Ls→Ls→(Int→Int→Prop)→Prop
def yoD (a0:yar) (a1:ybf) (p0:Int) (p1 p2:Ls) (K:Int→Int→Prop):Prop :=
 (a0 p0 p1 p2 (fun a _ =>
 (a1 a (2:Int) (fun b c _ =>
 (K b c)))))
def yiE (p0:Int) (p1 p2:Ls) (K:Int→Int→Prop):Prop:=yoD yad yal p0 p1 p2 K
def yoE (w:ylI) (as:Ls) (K:PV→Prop):Prop :=
 match as with
 | [(.agg [(.int .i64 p0),(.data p1),(.data p2)])]=>w p0 p1 p2 (fun r0 r1=>K (.agg [(.int .i64 r0),(.int .i64 r1)]))
 | _=>False
def ytl (as:Ls) (K:PV→Prop):Prop:=yoE yiE as K
def yCg (_:yar) (_:ybf):LP:=fun _ _ _ _ =>
 False
def ytm (e:Es) (a0:yar) (a1:ybf):SE:=⟨(E e),lookS [(ycF,yd8 a0),(yfr,yiy a1)],lookI [],yCg a0 a1⟩
theorem yAH (e:Es) (he:EG e):SEOk (ytm e yad yal):=yao ⟨(yeP e he),(ylo e he),trivial⟩ trivial he.ok
theorem yCh (e:Es) (a0 a1 p0 p1 p2 K):WP (ytm e a0 a1) 6 yCZ [(.agg [(.int .i64 p0),(.data p1),(.data p2)])] K=yoD a0 a1 p0 p1 p2 (fun r0 r1=>K (.agg [(.int .i64 r0),(.int .i64 r1)])):=by kernel_rfl
theorem yCi (e:Es) (he:EG e):OkF (E e) ytl ygW:=by
 intro as K h
 unfold ytl yoE at h
 split at h
 · exact WP_ok (yAH e he) (yag (by kernel_rfl)) (by kernel_rfl) (by kernel_rfl) (fun _=>yaa (by kernel_rfl) _) (he.num _ (by kernel_rfl)) ((yCh ..).mpr h)
 · exact h.elim
abbrev ydr:Type:=Ls→Ls→Int→Int→Int→Int→Bool→(Ls→Ls→Int→Int→Int→Int→Bool→Prop)→Prop
def ykk (a0:ylI) (a1:yqT) (a2:yo3) (a3:ybD) (p0 p1:Ls) (p2 p3 p4 p5:Int) (p6:Bool) (K:Ls→Ls→Int→Int→Int→Int→Bool→Prop):Prop :=
 (cbr (p3 ==(0:Int))
 (asr (decide ((0:Int)≤p2))
 (asr (decide (p2<(((List.length p0):Nat):Int)))
 (asr (conf (.agg [.i .i64,.d,.d]) (List.getD p0 (p2.toNat) .nils))
 (a0 (intOfV (cellAt (List.getD p0 (p2.toNat) .nils) 0)) (datOfV (cellAt (List.getD p0 (p2.toNat) .nils) 1)) (datOfV (cellAt (List.getD p0 (p2.toNat) .nils) 2)) (fun a b =>
 (a1 p0 p1 p2 (0:Int) (1:Int) a b (fun c e f g _ =>
 (K c e p2 (1:Int) f g p6))))))))
 (a2 p0 p1 (IntKind.i64.wrap ((1:Int)-p2)) (0:Int) (1:Int) p4 p5 (fun h j k l _ =>
 (asr (decide ((0:Int)≤(IntKind.i64.wrap ((1:Int)-p2))))
 (asr (decide ((IntKind.i64.wrap ((1:Int)-p2))<(((List.length p0):Nat):Int)))
 (asr (conf (.agg [.i .i64,.d,.d]) (List.getD p0 ((IntKind.i64.wrap ((1:Int)-p2)).toNat) .nils))
 (a0 (intOfV (cellAt (List.getD p0 ((IntKind.i64.wrap ((1:Int)-p2)).toNat) .nils) 0)) (datOfV (cellAt (List.getD p0 ((IntKind.i64.wrap ((1:Int)-p2)).toNat) .nils) 1)) (datOfV (cellAt (List.getD p0 ((IntKind.i64.wrap ((1:Int)-p2)).toNat) .nils) 2)) (fun m n =>
 (a3 k l m n (fun o _ =>
 (K h j p2 (2:Int) p4 p5 (decide (o≥(0:Int))))))))))))))
def ybz (p0 p1:Ls) (p2 p3 p4 p5:Int) (p6:Bool) (K:Ls→Ls→Int→Int→Int→Int→Bool→Prop):Prop:=ykk yiE yhM yhN ybL p0 p1 p2 p3 p4 p5 p6 K
def ykl (w:ydr) (as:Ls) (K:PV→Prop):Prop :=
 match as with
 | [(.agg [(.data p0),(.data p1),(.int .i64 p2),(.int .i64 p3),(.int .i64 p4),(.int .i64 p5),(.bool p6)])]=>w p0 p1 p2 p3 p4 p5 p6 (fun r0 r1 r2 r3 r4 r5 r6=>K (.agg [(.data r0),(.data r1),(.int .i64 r2),(.int .i64 r3),(.int .i64 r4),(.int .i64 r5),(.bool r6)]))
 | _=>False
def ytn (as:Ls) (K:PV→Prop):Prop:=ykl ybz as K
def yCj (_:ylI) (_:yqT) (_:yo3) (_:ybD):LP:=fun _ _ _ _ =>
 False
def yto (e:Es) (a0:ylI) (a1:yqT) (a2:yo3) (a3:ybD):SE:=⟨(E e),lookS [(ygW,yoE a0),(ynD,ysR a1),(ylR,yqV a2),(ycv,yfy a3)],lookI [],yCj a0 a1 a2 a3⟩
theorem yAI (e:Es) (he:EG e):SEOk (yto e yiE yhM yhN ybL):=yao ⟨(yCi e he),(yzN e he),(yxo e he),(ygC e he),trivial⟩ trivial he.ok
theorem yCk (e:Es) (a0 a1 a2 a3 p0 p1 p2 p3 p4 p5 p6 K):WP (yto e a0 a1 a2 a3) 6 yC2 [(.agg [(.data p0),(.data p1),(.int .i64 p2),(.int .i64 p3),(.int .i64 p4),(.int .i64 p5),(.bool p6)])] K=ykk a0 a1 a2 a3 p0 p1 p2 p3 p4 p5 p6 (fun r0 r1 r2 r3 r4 r5 r6=>K (.agg [(.data r0),(.data r1),(.int .i64 r2),(.int .i64 r3),(.int .i64 r4),(.int .i64 r5),(.bool r6)])):=by kernel_rfl
theorem ytp (e:Es) (he:EG e):OkF (E e) ytn yeJ:=by
 intro as K h
 unfold ytn ykl at h
 split at h
 · exact WP_ok (yAI e he) (yag (by kernel_rfl)) (by kernel_rfl) (by kernel_rfl) (fun _=>yaa (by kernel_rfl) _) (he.num _ (by kernel_rfl)) ((yCk ..).mpr h)
 · exact h.elim
abbrev ykm:Type:=Ls→Ls→Int→Int→Int→Int→Bool→(Int→Prop)→Prop
mutual
def yc7 (a0:yaY) (a1:yc0) (a2:ydr) (a3:ybd) (x0:Ls→Ls→Int→Int→Int→Int→Bool→Ls→Ls→Int→Int→Int→Int→Bool→Bool→Prop):Nat→Ls→Ls→Int→Int→Int→Int→Bool→Ls→Ls→Int→Int→Int→Int→Bool→Int→Bool→Prop
 | 0,_,_,_,_,_,_,_,_,_,_,_,_,_,_,_,_=>False
 | n+1,l0,l1,i2,i3,i4,i5,b6,l7,l8,i9,i10,i11,i12,b13,_,_ =>
 (cbr (decide (i10<(if (2:Int)<i3 then (2:Int) else i3)))
 (a2 l7 l8 i9 i10 i11 i12 b13 (fun a b c d e f g =>
 (ycz a0 a1 a2 a3 x0 n l0 l1 i2 i3 i4 i5 b6 a b c d e f g)))
 (x0 l0 l1 i2 i3 i4 i5 b6 l7 l8 i9 i10 i11 i12 b13 false))
def ycz (a0:yaY) (a1:yc0) (a2:ydr) (a3:ybd) (x0:Ls→Ls→Int→Int→Int→Int→Bool→Ls→Ls→Int→Int→Int→Int→Bool→Bool→Prop):Nat→Ls→Ls→Int→Int→Int→Int→Bool→Ls→Ls→Int→Int→Int→Int→Bool→Prop
 | 0,_,_,_,_,_,_,_,_,_,_,_,_,_,_=>False
 | n+1,l0,l1,i2,i3,i4,i5,b6,l7,l8,i9,i10,i11,i12,b13 =>
 (cbr (decide (i10<(if (2:Int)<i3 then (2:Int) else i3)))
 (a2 l7 l8 i9 i10 i11 i12 b13 (fun a b c d e f g =>
 (ycz a0 a1 a2 a3 x0 n l0 l1 i2 i3 i4 i5 b6 a b c d e f g)))
 (x0 l0 l1 i2 i3 i4 i5 b6 l7 l8 i9 i10 i11 i12 b13 false))
end
def ymJ (a0:yaY) (a1:yc0) (a2:ydr) (a3:ybd) (p0 p1:Ls) (p2 p3 p4 p5:Int) (p6:Bool) (K:Int→Prop):Prop :=
 (a0 p0 p1 (fun b =>
 (cbr (b !=(0:Int))
 (K b)
 (a1 p0 p2 (fun c d e f g h i a =>
 (cbr (a !=(0:Int))
 (K a)
 (∃ n:Nat,yc7 a0 a1 a2 a3
 (fun _ j _ k l m o _ p _ q r s t _=>(cbr (q != k)
 (K (8:Int))
 (cbr (!((r == l)&&((s == m)&&true)))
 (K (8:Int))
 (cbr (t != o)
 (K (8:Int))
 (a3 p j (fun u =>
 (cbr (!u)
 (K (8:Int))
 (K (0:Int)))))))))
 n p0 p1 p2 p3 p4 p5 p6 c d e f g h i a false)))))))
def yfc (p0 p1:Ls) (p2 p3 p4 p5:Int) (p6:Bool) (K:Int→Prop):Prop:=ymJ yaK yc1 ybz yay p0 p1 p2 p3 p4 p5 p6 K
def ymK (w:ykm) (as:Ls) (K:PV→Prop):Prop :=
 match as with
 | [(.agg [(.data p0),(.data p1),(.int .i64 p2),(.int .i64 p3),(.int .i64 p4),(.int .i64 p5),(.bool p6)])]=>w p0 p1 p2 p3 p4 p5 p6 (fun r0=>K (.int .i64 r0))
 | _=>False
def yrK (as:Ls) (K:PV→Prop):Prop:=ymK yfc as K
def ye0 (F:Frm) (H:Hp) (A0:Ls→Ls→Int→Int→Int→Int→Bool→Ls→Ls→Int→Int→Int→Int→Bool→Int→Bool→Prop) (A1:Ls→Ls→Int→Int→Int→Int→Bool→Ls→Ls→Int→Int→Int→Int→Bool→Prop):Prop :=
 match F,H with
 | [(1,.box (.agg [(.data l0),(.data l1),(.int .i64 i2),(.int .i64 i3),(.int .i64 i4),(.int .i64 i5),(.bool b6)])),(4,.box (.agg [(.data l7),(.data l8),(.int .i64 i9),(.int .i64 i10),(.int .i64 i11),(.int .i64 i12),(.bool b13)])),(5,.v (.int .i64 i14)),(22,.v (.bool b15))],[]=>(A0 l0 l1 i2 i3 i4 i5 b6 l7 l8 i9 i10 i11 i12 b13 i14 b15)
 | [(1,.box (.agg [(.data l0),(.data l1),(.int .i64 i2),(.int .i64 i3),(.int .i64 i4),(.int .i64 i5),(.bool b6)])),(4,.box (.agg [(.data l7),(.data l8),(.int .i64 i9),(.int .i64 i10),(.int .i64 i11),(.int .i64 i12),(.bool b13)]))],[]=>(A1 l0 l1 i2 i3 i4 i5 b6 l7 l8 i9 i10 i11 i12 b13)
 | _,_=>False
def yd5 (Q:Ex→Frm→Hp→Prop):Ls→Ls→Int→Int→Int→Int→Bool→Ls→Ls→Int→Int→Int→Int→Bool→Bool→Prop:=(fun l0 l1 i2 i3 i4 i5 b6 l7 l8 i9 i10 i11 i12 b13 b14=>Q (.exit 0) [(1,.box (.agg [(.data l0),(.data l1),(.int .i64 i2),(.int .i64 i3),(.int .i64 i4),(.int .i64 i5),(.bool b6)])),(4,.box (.agg [(.data l7),(.data l8),(.int .i64 i9),(.int .i64 i10),(.int .i64 i11),(.int .i64 i12),(.bool b13)])),(29,.v (.bool b14))] [])
def ygp (a0:yaY) (a1:yc0) (a2:ydr) (a3:ybd) (Q:Ex→Frm→Hp→Prop) (n:Nat) (F:Frm) (H:Hp):Prop:=ye0 F H (fun l0 l1 i2 i3 i4 i5 b6 l7 l8 i9 i10 i11 i12 b13 i14 b15=>yc7 a0 a1 a2 a3 (yd5 Q) n l0 l1 i2 i3 i4 i5 b6 l7 l8 i9 i10 i11 i12 b13 i14 b15) (fun l0 l1 i2 i3 i4 i5 b6 l7 l8 i9 i10 i11 i12 b13=>ycz a0 a1 a2 a3 (yd5 Q) n l0 l1 i2 i3 i4 i5 b6 l7 l8 i9 i10 i11 i12 b13)
def ygT (a0:yaY) (a1:yc0) (a2:ydr) (a3:ybd):LP:=fun id F H Q =>
 bif Nat.beq id 87884100 then ye0 F H (fun l0 l1 i2 i3 i4 i5 b6 l7 l8 i9 i10 i11 i12 b13 i14 b15=>∃ n:Nat,yc7 a0 a1 a2 a3 (yd5 Q) n l0 l1 i2 i3 i4 i5 b6 l7 l8 i9 i10 i11 i12 b13 i14 b15) (fun l0 l1 i2 i3 i4 i5 b6 l7 l8 i9 i10 i11 i12 b13=>∃ n:Nat,ycz a0 a1 a2 a3 (yd5 Q) n l0 l1 i2 i3 i4 i5 b6 l7 l8 i9 i10 i11 i12 b13) else
 False
def yiP (e:Es) (a0:yaY) (a1:yc0) (a2:ydr) (a3:ybd):SE:=⟨(E e),lookS [(ycP,yfB a0),(ye1,yiO a1),(yeJ,ykl a2),(ybV,ydV a3)],lookI [],ygT a0 a1 a2 a3⟩
theorem yqm (e:Es) (he:EG e):SEOk (yiP e yaK yc1 ybz yay):=yao ⟨(ygH e he),(yrJ e he),(ytp e he),(yge e he),trivial⟩ trivial he.ok
theorem yr8 (e:Es) (a0 a1 a2 a3 Q n l0 l1 i2 i3 i4 i5 b6 l7 l8 i9 i10 i11 i12 b13 i14 b15):WC (E e) (callW (yiP e a0 a1 a2 a3) 5) (ygT a0 a1 a2 a3) ykJ [(1,.box (.agg [(.data l0),(.data l1),(.int .i64 i2),(.int .i64 i3),(.int .i64 i4),(.int .i64 i5),(.bool b6)])),(4,.box (.agg [(.data l7),(.data l8),(.int .i64 i9),(.int .i64 i10),(.int .i64 i11),(.int .i64 i12),(.bool b13)])),(5,.v (.int .i64 i14)),(22,.v (.bool b15))] [] (fun x F' H'=>match x with | .norm=>ygp a0 a1 a2 a3 Q n F' H' | .exit i=>Q (.exit i) F' H' | .ret=>Q .ret F' H')=yc7 a0 a1 a2 a3 (yd5 Q) (n+1) l0 l1 i2 i3 i4 i5 b6 l7 l8 i9 i10 i11 i12 b13 i14 b15:=by kernel_rfl
theorem ysa (e:Es) (a0 a1 a2 a3 Q n l0 l1 i2 i3 i4 i5 b6 l7 l8 i9 i10 i11 i12 b13):WC (E e) (callW (yiP e a0 a1 a2 a3) 5) (ygT a0 a1 a2 a3) ykJ [(1,.box (.agg [(.data l0),(.data l1),(.int .i64 i2),(.int .i64 i3),(.int .i64 i4),(.int .i64 i5),(.bool b6)])),(4,.box (.agg [(.data l7),(.data l8),(.int .i64 i9),(.int .i64 i10),(.int .i64 i11),(.int .i64 i12),(.bool b13)]))] [] (fun x F' H'=>match x with | .norm=>ygp a0 a1 a2 a3 Q n F' H' | .exit i=>Q (.exit i) F' H' | .ret=>Q .ret F' H')=ycz a0 a1 a2 a3 (yd5 Q) (n+1) l0 l1 i2 i3 i4 i5 b6 l7 l8 i9 i10 i11 i12 b13:=by kernel_rfl
theorem ywc (e:Es) (_:EG e):LpOk (E e) (ygT yaK yc1 ybz yay) ykJ:=(yag (by kernel_rfl))
theorem yuu (e:Es) (he:EG e):∀ F H Q,ygT yaK yc1 ybz yay 87884100 F H Q→LoopT (E e) ykJ F H Q:=by
 intro F H Q h
 have go:=LoopT.intro (yaF (yqm e he) 5) (ywc e he) (ygp yaK yc1 ybz yay Q) (by
   intro F H h
   unfold ygp ye0 at h
   split at h
   · exact h
   · exact h
   · exact h) (by
   intro n F H h
   unfold ygp ye0 at h
   split at h
   · exact (yr8 ..).mpr h
   · exact (ysa ..).mpr h
   · exact h.elim)
 have h:ye0 F H _ _:=h
 unfold ye0 at h
 split at h
 · obtain ⟨n,h⟩:=h;exact go n _ _ h
 · obtain ⟨n,h⟩:=h;exact go n _ _ h
 · exact h.elim
theorem yAJ (e:Es) (a0 a1 a2 a3 p0 p1 p2 p3 p4 p5 p6 K):WP (yiP e a0 a1 a2 a3) 6 yBw [(.agg [(.data p0),(.data p1),(.int .i64 p2),(.int .i64 p3),(.int .i64 p4),(.int .i64 p5),(.bool p6)])] K=ymJ a0 a1 a2 a3 p0 p1 p2 p3 p4 p5 p6 (fun r0=>K (.int .i64 r0)):=by kernel_rfl
theorem yrL (e:Es) (he:EG e):OkF (E e) yrK yhA:=by
 intro as K h
 unfold yrK ymK at h
 split at h
 · exact WP_ok (yqm e he) (ybe (l:=[(87884100,ykJ)]) ⟨yuu e he,trivial⟩ (by kernel_rfl)) (by kernel_rfl) (by kernel_rfl) (fun _=>yaa (by kernel_rfl) _) (he.num _ (by kernel_rfl)) ((yAJ ..).mpr h)
 · exact h.elim
abbrev yhx:Type:=Ls→Ls→Int→Int→Int→Int→Bool→(Ls→Int→Prop)→Prop
def yjg (a0:ykm) (p0 p1:Ls) (p2 p3 p4 p5:Int) (p6:Bool) (K:Ls→Int→Prop):Prop :=
 (a0 p0 p1 p2 p3 p4 p5 p6 (fun a =>
 (cbr (a !=(0:Int))
 (K ([]:Ls) a)
 (cbr (decide (p3<(2:Int)))
 (K ([]:Ls) (36:Int))
 (cbr p6
 (asr (decide ((0:Int)≤(IntKind.i64.wrap ((1:Int)-p2))))
 (asr (decide ((IntKind.i64.wrap ((1:Int)-p2))<(2:Int)))
 (asr (decide ((0+((IntKind.i64.wrap ((1:Int)-p2)).toNat))<2))
 (asr (conf (.one (.d)) (List.getD ([(.data ([]:Ls)),(.data ([]:Ls))]:Ls) (0+((IntKind.i64.wrap ((1:Int)-p2)).toNat)) .nils))
 (asr (decide ((0:Int)<(((List.length p0):Nat):Int)))
 (asr (conf (.agg [.i .i64,.d,.d]) (List.getD p0 0 .nils))
 (asr (decide ((0:Int)≤(IntKind.i64.wrap ((1:Int)-(IntKind.i64.wrap ((1:Int)-p2))))))
 (asr (decide ((IntKind.i64.wrap ((1:Int)-(IntKind.i64.wrap ((1:Int)-p2))))<(2:Int)))
 (asr (decide ((List.length (List.set ([(.data ([]:Ls)),(.data ([]:Ls))]:Ls) (0+((IntKind.i64.wrap ((1:Int)-p2)).toNat)) (.data ([(.agg [(.int .i64 (0:Int)),(.int .i64 (1:Int)),(.int .i64 p4),(.int .i64 p5)])]:Ls))))=2))
 (asr (decide ((0+((IntKind.i64.wrap ((1:Int)-(IntKind.i64.wrap ((1:Int)-p2)))).toNat))<(List.length (List.set ([(.data ([]:Ls)),(.data ([]:Ls))]:Ls) (0+((IntKind.i64.wrap ((1:Int)-p2)).toNat)) (.data ([(.agg [(.int .i64 (0:Int)),(.int .i64 (1:Int)),(.int .i64 p4),(.int .i64 p5)])]:Ls))))))
 (asr (conf (.one (.d)) (List.getD (List.set ([(.data ([]:Ls)),(.data ([]:Ls))]:Ls) (0+((IntKind.i64.wrap ((1:Int)-p2)).toNat)) (.data ([(.agg [(.int .i64 (0:Int)),(.int .i64 (1:Int)),(.int .i64 p4),(.int .i64 p5)])]:Ls))) (0+((IntKind.i64.wrap ((1:Int)-(IntKind.i64.wrap ((1:Int)-p2)))).toNat)) .nils))
 (asr (decide ((List.length (List.set (List.set ([(.data ([]:Ls)),(.data ([]:Ls))]:Ls) (0+((IntKind.i64.wrap ((1:Int)-p2)).toNat)) (.data ([(.agg [(.int .i64 (0:Int)),(.int .i64 (1:Int)),(.int .i64 p4),(.int .i64 p5)])]:Ls))) (0+((IntKind.i64.wrap ((1:Int)-(IntKind.i64.wrap ((1:Int)-p2)))).toNat)) (.data ([(.agg [(.int .i64 p4),(.int .i64 p5),(.int .i64 (intOfV (cellAt (List.getD p0 0 .nils) 0))),(.int .i64 (1:Int))])]:Ls))))=2))
 (K (List.take 2 (List.set (List.set ([(.data ([]:Ls)),(.data ([]:Ls))]:Ls) (0+((IntKind.i64.wrap ((1:Int)-p2)).toNat)) (.data ([(.agg [(.int .i64 (0:Int)),(.int .i64 (1:Int)),(.int .i64 p4),(.int .i64 p5)])]:Ls))) (0+((IntKind.i64.wrap ((1:Int)-(IntKind.i64.wrap ((1:Int)-p2)))).toNat)) (.data ([(.agg [(.int .i64 p4),(.int .i64 p5),(.int .i64 (intOfV (cellAt (List.getD p0 0 .nils) 0))),(.int .i64 (1:Int))])]:Ls)))) (0:Int))))))))))))))
 (asr (decide ((0:Int)≤p2))
 (asr (decide (p2<(2:Int)))
 (asr (decide ((0+(p2.toNat))<2))
 (asr (conf (.one (.d)) (List.getD ([(.data ([]:Ls)),(.data ([]:Ls))]:Ls) (0+(p2.toNat)) .nils))
 (asr (decide ((0:Int)<(((List.length p0):Nat):Int)))
 (asr (conf (.agg [.i .i64,.d,.d]) (List.getD p0 0 .nils))
 (asr (decide ((0:Int)≤(IntKind.i64.wrap ((1:Int)-p2))))
 (asr (decide ((IntKind.i64.wrap ((1:Int)-p2))<(2:Int)))
 (asr (decide ((List.length (List.set ([(.data ([]:Ls)),(.data ([]:Ls))]:Ls) (0+(p2.toNat)) (.data ([(.agg [(.int .i64 (0:Int)),(.int .i64 (1:Int)),(.int .i64 p4),(.int .i64 p5)])]:Ls))))=2))
 (asr (decide ((0+((IntKind.i64.wrap ((1:Int)-p2)).toNat))<(List.length (List.set ([(.data ([]:Ls)),(.data ([]:Ls))]:Ls) (0+(p2.toNat)) (.data ([(.agg [(.int .i64 (0:Int)),(.int .i64 (1:Int)),(.int .i64 p4),(.int .i64 p5)])]:Ls))))))
 (asr (conf (.one (.d)) (List.getD (List.set ([(.data ([]:Ls)),(.data ([]:Ls))]:Ls) (0+(p2.toNat)) (.data ([(.agg [(.int .i64 (0:Int)),(.int .i64 (1:Int)),(.int .i64 p4),(.int .i64 p5)])]:Ls))) (0+((IntKind.i64.wrap ((1:Int)-p2)).toNat)) .nils))
 (asr (decide ((List.length (List.set (List.set ([(.data ([]:Ls)),(.data ([]:Ls))]:Ls) (0+(p2.toNat)) (.data ([(.agg [(.int .i64 (0:Int)),(.int .i64 (1:Int)),(.int .i64 p4),(.int .i64 p5)])]:Ls))) (0+((IntKind.i64.wrap ((1:Int)-p2)).toNat)) (.data ([(.agg [(.int .i64 p4),(.int .i64 p5),(.int .i64 (intOfV (cellAt (List.getD p0 0 .nils) 0))),(.int .i64 (1:Int))])]:Ls))))=2))
 (K (List.take 2 (List.set (List.set ([(.data ([]:Ls)),(.data ([]:Ls))]:Ls) (0+(p2.toNat)) (.data ([(.agg [(.int .i64 (0:Int)),(.int .i64 (1:Int)),(.int .i64 p4),(.int .i64 p5)])]:Ls))) (0+((IntKind.i64.wrap ((1:Int)-p2)).toNat)) (.data ([(.agg [(.int .i64 p4),(.int .i64 p5),(.int .i64 (intOfV (cellAt (List.getD p0 0 .nils) 0))),(.int .i64 (1:Int))])]:Ls)))) (0:Int)))))))))))))))))))
def yfF (p0 p1:Ls) (p2 p3 p4 p5:Int) (p6:Bool) (K:Ls→Int→Prop):Prop:=yjg yfc p0 p1 p2 p3 p4 p5 p6 K
def yjh (w:yhx) (as:Ls) (K:PV→Prop):Prop :=
 match as with
 | [(.agg [(.data p0),(.data p1),(.int .i64 p2),(.int .i64 p3),(.int .i64 p4),(.int .i64 p5),(.bool p6)])]=>w p0 p1 p2 p3 p4 p5 p6 (fun r0 r1=>K (.tup [(.agg [(.data r0)]),(.int .i64 r1)]))
 | _=>False
def yoF (as:Ls) (K:PV→Prop):Prop:=yjh yfF as K
def ywd (_:ykm):LP:=fun _ _ _ _ =>
 False
def yoG (e:Es) (a0:ykm):SE:=⟨(E e),lookS [(yhA,ymK a0)],lookI [],ywd a0⟩
theorem yuv (e:Es) (he:EG e):SEOk (yoG e yfc):=yao ⟨(yrL e he),trivial⟩ trivial he.ok
theorem ywe (e:Es) (a0 p0 p1 p2 p3 p4 p5 p6 K):WP (yoG e a0) 6 ywQ [(.agg [(.data p0),(.data p1),(.int .i64 p2),(.int .i64 p3),(.int .i64 p4),(.int .i64 p5),(.bool p6)])] K=yjg a0 p0 p1 p2 p3 p4 p5 p6 (fun r0 r1=>K (.tup [(.agg [(.data r0)]),(.int .i64 r1)])):=by kernel_rfl
theorem ywf (e:Es) (he:EG e):OkF (E e) yoF yfu:=by
 intro as K h
 unfold yoF yjh at h
 split at h
 · exact WP_ok (yuv e he) (yag (by kernel_rfl)) (by kernel_rfl) (by kernel_rfl) (fun _=>yaa (by kernel_rfl) _) (he.num _ (by kernel_rfl)) ((ywe ..).mpr h)
 · exact h.elim
abbrev ygP:Type:=Ls→Int→(Ls→Ls→Int→Prop)→Prop
def ypU (a0:yc0) (a1:ydr) (a2:yhx) (p0:Ls) (p1:Int) (K:Ls→Ls→Int→Prop):Prop :=
 (a0 p0 p1 (fun c d e f g h i a =>
 (cbr (a !=(0:Int))
 (K ([]:Ls) ([]:Ls) a)
 (a1 c d e f g h i (fun j k l m n o p =>
 (a1 j k l m n o p (fun q b r s t u v =>
 (a2 q b r s t u v (fun w x =>
 (K w b x))))))))))
def yeI (p0:Ls) (p1:Int) (K:Ls→Ls→Int→Prop):Prop:=ypU yc1 ybz yfF p0 p1 K
def ylJ (w:ygP) (as:Ls) (K:PV→Prop):Prop :=
 match as with
 | [(.data p0),(.int .i64 p1)]=>w p0 p1 (fun r0 r1 r2=>K (.tup [(.agg [(.data r0)]),(.data r1),(.int .i64 r2)]))
 | _=>False
def yvb (as:Ls) (K:PV→Prop):Prop:=ylJ yeI as K
def yDU (_:yc0) (_:ydr) (_:yhx):LP:=fun _ _ _ _ =>
 False
def yvc (e:Es) (a0:yc0) (a1:ydr) (a2:yhx):SE:=⟨(E e),lookS [(ye1,yiO a0),(yeJ,ykl a1),(yfu,yjh a2)],lookI [],yDU a0 a1 a2⟩
theorem yCl (e:Es) (he:EG e):SEOk (yvc e yc1 ybz yfF):=yao ⟨(yrJ e he),(ytp e he),(ywf e he),trivial⟩ trivial he.ok
theorem yDV (e:Es) (a0 a1 a2 p0 p1 K):WP (yvc e a0 a1 a2) 6 yFn [(.data p0),(.int .i64 p1)] K=ypU a0 a1 a2 p0 p1 (fun r0 r1 r2=>K (.tup [(.agg [(.data r0)]),(.data r1),(.int .i64 r2)])):=by kernel_rfl
theorem yvd (e:Es) (he:EG e):OkF (E e) yvb yfv:=by
 intro as K h
 unfold yvb ylJ at h
 split at h
 · exact WP_ok (yCl e he) (yag (by kernel_rfl)) (by kernel_rfl) (by kernel_rfl) (fun _=>yaa (by kernel_rfl) _) (he.num _ (by kernel_rfl)) ((yDV ..).mpr h)
 · exact h.elim
end Go.Pf.Vc
namespace Go.Pf.Vc
open Go Go.Pf
set_option linter.unusedVariables false
theorem yzc (p0:Ls) (p1:Ls) (p2:Int) (p3:Int) (p4:Int) (p5:Int) (p6:Bool) (r0:Int) (h:∀ K:Int→Prop,K r0→yfc p0 p1 p2 p3 p4 p5 p6 K) (K:Int→Prop):yfc p0 p1 p2 p3 p4 p5 p6 K=K r0 :=
 propext ⟨fun k=>detC (yrL [] ya6) (as:=[(.agg [(.data p0),(.data p1),(.int .i64 p2),(.int .i64 p3),(.int .i64 p4),(.int .i64 p5),(.bool p6)])]) (x:=(.int .i64 r0)) (fun K' k'=>h (fun r0=>K' (.int .i64 r0)) k') (K:=fun x=>match x with | (.int .i64 r0)=>K r0 | _=>False) k,h K⟩
end Go.Pf.Vc
namespace Go.Pf.Vc
open Go Go.Pf
set_option maxRecDepth 100000
abbrev ypc:Type:=Ls→Int→(Int→Prop)→Prop
def yrj (a0:yo9) (p0:Ls) (p1:Int) (K:Int→Prop):Prop :=
 (a0 p0 ([]:Ls) (fun a =>
 (cbr (a !=(0:Int))
 (K a)
 (cbr ((((List.length p0):Nat):Int) !=(2:Int))
 (K (2:Int))
 (cbr (decide (p1<(0:Int)))
 (K (2:Int))
 (cbr (decide (p1>(1:Int)))
 (K (2:Int))
 (K (0:Int))))))))
def yme (p0:Ls) (p1:Int) (K:Int→Prop):Prop:=yrj yhS p0 p1 K
def yrk (w:ypc) (as:Ls) (K:PV→Prop):Prop :=
 match as with
 | [(.data p0),(.int .i64 p1)]=>w p0 p1 (fun r0=>K (.int .i64 r0))
 | _=>False
def yxP (as:Ls) (K:PV→Prop):Prop:=yrk yme as K
def yFX (_:yo9):LP:=fun _ _ _ _ =>
 False
def yxQ (e:Es) (a0:yo9):SE:=⟨(E e),lookS [(ylO,yrb a0)],lookI [],yFX a0⟩
theorem yDW (e:Es) (he:EG e):SEOk (yxQ e yhS):=yao ⟨(yxC e he),trivial⟩ trivial he.ok
theorem yFY (e:Es) (a0 p0 p1 K):WP (yxQ e a0) 6 yG3 [(.data p0),(.int .i64 p1)] K=yrj a0 p0 p1 (fun r0=>K (.int .i64 r0)):=by kernel_rfl
theorem yFZ (e:Es) (he:EG e):OkF (E e) yxP ylP:=by
 intro as K h
 unfold yxP yrk at h
 split at h
 · exact WP_ok (yDW e he) (yag (by kernel_rfl)) (by kernel_rfl) (by kernel_rfl) (fun _=>yaa (by kernel_rfl) _) (he.num _ (by kernel_rfl)) ((yFY ..).mpr h)
 · exact h.elim
abbrev yrl:Type:=Int→Ls→Ls→(Int→Int→Prop)→Prop
def ytq (a0:yo6) (a1:yq1) (p0:Int) (p1 p2:Ls) (K:Int→Int→Prop):Prop :=
 (a0 p0 p1 p2 (fun a =>
 (a1 a (2:Int) (fun b c _ =>
 (K b c)))))
def yoH (p0:Int) (p1 p2:Ls) (K:Int→Int→Prop):Prop:=ytq yhP yor p0 p1 p2 K
def ytr (w:yrl) (as:Ls) (K:PV→Prop):Prop :=
 match as with
 | [(.agg [(.int .i64 p0),(.data p1),(.data p2)])]=>w p0 p1 p2 (fun r0 r1=>K (.agg [(.int .i64 r0),(.int .i64 r1)]))
 | _=>False
def yzX (as:Ls) (K:PV→Prop):Prop:=ytr yoH as K
def yHD (_:yo6) (_:yq1):LP:=fun _ _ _ _ =>
 False
def yzY (e:Es) (a0:yo6) (a1:yq1):SE:=⟨(E e),lookS [(ylT,yq8 a0),(ynG,ysX a1)],lookI [],yHD a0 a1⟩
theorem yF0 (e:Es) (he:EG e):SEOk (yzY e yhP yor):=yao ⟨(yxz e he),(yHz e he),trivial⟩ trivial he.ok
theorem yHE (e:Es) (a0 a1 p0 p1 p2 K):WP (yzY e a0 a1) 6 yJe [(.agg [(.int .i64 p0),(.data p1),(.data p2)])] K=ytq a0 a1 p0 p1 p2 (fun r0 r1=>K (.agg [(.int .i64 r0),(.int .i64 r1)])):=by kernel_rfl
theorem yHF (e:Es) (he:EG e):OkF (E e) yzX ynH:=by
 intro as K h
 unfold yzX ytr at h
 split at h
 · exact WP_ok (yF0 e he) (yag (by kernel_rfl)) (by kernel_rfl) (by kernel_rfl) (fun _=>yaa (by kernel_rfl) _) (he.num _ (by kernel_rfl)) ((yHE ..).mpr h)
 · exact h.elim
end Go.Pf.Vc
namespace Go.Pf.Vc
open Go Go.Pf
set_option maxRecDepth 100000
abbrev ytM:Type:=Ls→Int→(Bool→Prop)→Prop
def ywg (a0:yh9) (a1:ypc) (p0:Ls) (p1:Int) (K:Bool→Prop):Prop :=
 (a0 p0 (fun a =>
 (cbr (!a)
 (a1 p0 p1 (fun b =>
 (K (b ==(0:Int)))))
 (K false))))
def yqn (p0:Ls) (p1:Int) (K:Bool→Prop):Prop:=ywg yd0 yme p0 p1 K
def ywh (w:ytM) (as:Ls) (K:PV→Prop):Prop :=
 match as with
 | [(.data p0),(.int .i64 p1)]=>w p0 p1 (fun r0=>K (.bool r0))
 | _=>False
def yCm (as:Ls) (K:PV→Prop):Prop:=ywh yqn as K
def yJv (_:yh9) (_:ypc):LP:=fun _ _ _ _ =>
 False
def yCn (e:Es) (a0:yh9) (a1:ypc):SE:=⟨(E e),lookS [(yf6,yj7 a0),(ylP,yrk a1)],lookI [],yJv a0 a1⟩
theorem yHG (e:Es) (he:EG e):SEOk (yCn e yd0 yme):=yao ⟨(yo8 e he),(yFZ e he),trivial⟩ trivial he.ok
theorem yJw (e:Es) (a0 a1 p0 p1 K):WP (yCn e a0 a1) 6 yLj [(.data p0),(.int .i64 p1)] K=ywg a0 a1 p0 p1 (fun r0=>K (.bool r0)):=by kernel_rfl
theorem yJx (e:Es) (he:EG e):OkF (E e) yCm yp3:=by
 intro as K h
 unfold yCm ywh at h
 split at h
 · exact WP_ok (yHG e he) (yag (by kernel_rfl)) (by kernel_rfl) (by kernel_rfl) (fun _=>yaa (by kernel_rfl) _) (he.num _ (by kernel_rfl)) ((yJw ..).mpr h)
 · exact h.elim
abbrev ytN:Type:=(Ls→Prop)→Prop
def yCo (K:Ls→Prop):Prop :=
 (K ([(.agg [(.int .i64 (2:Int)),(.data ([(.int .i64 (0:Int)),(.int .i64 (2:Int))]:Ls)),(.data ([(.int .i64 (1:Int))]:Ls))]),(.agg [(.int .i64 (2:Int)),(.data ([(.int .i64 (0:Int)),(.int .i64 (1:Int)),(.int .i64 (2:Int))]:Ls)),(.data ([(.int .i64 (3:Int)),(.int .i64 (1:Int))]:Ls))])]:Ls))
def ytO (K:Ls→Prop):Prop:=yCo  K
def ywi (w:ytN) (as:Ls) (K:PV→Prop):Prop :=
 match as with
 | []=>w  (fun r0=>K (.data r0))
 | _=>False
def yCp (as:Ls) (K:PV→Prop):Prop:=ywi ytO as K
def yJy:LP:=fun _ _ _ _ =>
 False
def yCq (e:Es):SE:=⟨(E e),lookS [],lookI [],yJy⟩
theorem yHH (e:Es) (he:EG e):SEOk (yCq e):=yao trivial trivial he.ok
theorem yJz (e:Es) ( K):WP (yCq e) 6 yLk [] K=yCo  (fun r0=>K (.data r0)):=by kernel_rfl
theorem yJA (e:Es) (he:EG e):OkF (E e) yCp yno:=by
 intro as K h
 unfold yCp ywi at h
 split at h
 · exact WP_ok (yHH e he) (yag (by kernel_rfl)) (by kernel_rfl) (by kernel_rfl) (fun _=>yaa (by kernel_rfl) _) (he.num _ (by kernel_rfl)) ((yJz ..).mpr h)
 · exact h.elim
abbrev ypd:Type:=Int→Int→Int→Int→(Ls→Prop)→Prop
def yxR (p0 p1 p2 p3:Int) (K:Ls→Prop):Prop :=
 (K ([(.agg [(.int .i64 p0),(.int .i64 p1),(.int .i64 p2),(.int .i64 p3)])]:Ls))
def ype (p0 p1 p2 p3:Int) (K:Ls→Prop):Prop:=yxR p0 p1 p2 p3 K
def yrm (w:ypd) (as:Ls) (K:PV→Prop):Prop :=
 match as with
 | [(.agg [(.int .i64 p0),(.int .i64 p1)]),(.agg [(.int .i64 p2),(.int .i64 p3)])]=>w p0 p1 p2 p3 (fun r0=>K (.data r0))
 | _=>False
def yxS (as:Ls) (K:PV→Prop):Prop:=yrm ype as K
def yF1:LP:=fun _ _ _ _ =>
 False
def yxT (e:Es):SE:=⟨(E e),lookS [],lookI [],yF1⟩
theorem yDX (e:Es) (he:EG e):SEOk (yxT e):=yao trivial trivial he.ok
theorem yF2 (e:Es) ( p0 p1 p2 p3 K):WP (yxT e) 6 yHf [(.agg [(.int .i64 p0),(.int .i64 p1)]),(.agg [(.int .i64 p2),(.int .i64 p3)])] K=yxR p0 p1 p2 p3 (fun r0=>K (.data r0)):=by kernel_rfl
theorem yF3 (e:Es) (he:EG e):OkF (E e) yxS ygt:=by
 intro as K h
 unfold yxS yrm at h
 split at h
 · exact WP_ok (yDX e he) (yag (by kernel_rfl)) (by kernel_rfl) (by kernel_rfl) (fun _=>yaa (by kernel_rfl) _) (he.num _ (by kernel_rfl)) ((yF2 ..).mpr h)
 · exact h.elim
abbrev ypf:Type:=(Bool→Prop)→Prop
def yrn (a0:yxs) (a1:ytN) (a2:ygP) (a3:ypd) (a4:yrc) (K:Bool→Prop):Prop :=
 (a0 (0:Int) (fun a b =>
 (a0 (1:Int) (fun c d =>
 (a0 (2:Int) (fun e f =>
 (a1  (fun g =>
 (a2 g (0:Int) (fun h _ i =>
 (a1  (fun j =>
 (a2 j (1:Int) (fun k l m =>
 (cbr (i ==(0:Int))
 (a3 c d e f (fun n =>
 (a3 a b c d (fun o =>
 (a4 h ([(.data n),(.data o)]:Ls) (fun p =>
 (cbr p
 (cbr (m ==(0:Int))
 (cbr ((((List.length l):Nat):Int) ==(2:Int))
 (a3 (2:Int) (3:Int) e f (fun q =>
 (a3 a b (2:Int) (3:Int) (fun r =>
 (a4 k ([(.data q),(.data r)]:Ls) (fun s =>
 (K s)))))))
 (K false))
 (K false))
 (K false))))))))
 (K false))))))))))))))))
def yjv (K:Bool→Prop):Prop:=yrn yxt ytO yeI ype yey  K
def yro (w:ypf) (as:Ls) (K:PV→Prop):Prop :=
 match as with
 | []=>w  (fun r0=>K (.bool r0))
 | _=>False
def yxU (as:Ls) (K:PV→Prop):Prop:=yro yjv as K
def yF4 (_:yxs) (_:ytN) (_:ygP) (_:ypd) (_:yrc):LP:=fun _ _ _ _ =>
 False
def yxV (e:Es) (a0:yxs) (a1:ytN) (a2:ygP) (a3:ypd) (a4:yrc):SE:=⟨(E e),lookS [(ynB,yy0 a0),(yno,ywi a1),(yfv,ylJ a2),(ygt,yrm a3),(ykE,ys3 a4)],lookI [],yF4 a0 a1 a2 a3 a4⟩
theorem yDY (e:Es) (he:EG e):SEOk (yxV e yxt ytO yeI ype yey):=yao ⟨(yLt e he),(yJA e he),(yvd e he),(yF3 e he),(yzW e he),trivial⟩ trivial he.ok
theorem yF5 (e:Es) (a0 a1 a2 a3 a4 K):WP (yxV e a0 a1 a2 a3 a4) 6 yHg [] K=yrn a0 a1 a2 a3 a4  (fun r0=>K (.bool r0)):=by kernel_rfl
theorem yF6 (e:Es) (he:EG e):OkF (E e) yxU yjn:=by
 intro as K h
 unfold yxU yro at h
 split at h
 · exact WP_ok (yDY e he) (yag (by kernel_rfl)) (by kernel_rfl) (by kernel_rfl) (fun _=>yaa (by kernel_rfl) _) (he.num _ (by kernel_rfl)) ((yF5 ..).mpr h)
 · exact h.elim
abbrev yzd:Type:=Ls→Int→(Bool→Prop)→Prop
def ykn (a0:ytM) (a1:ypf) (a2:ygP) (a3:ynk) (a4:ym3) (a5:yo4) (a6:ykj) (a7:yrl) (p0:Ls) (p1:Int) (K:Bool→Prop):Prop :=
 (a0 p0 p1 (fun l =>
 (cbr (!l)
 (a1  (fun m =>
 (K m)))
 (a2 p0 p1 (fun j e n =>
 (a3 p0 j (fun o c p =>
 (a4 p0 e (fun q r =>
 (jn (fun (a:Bool→Prop) =>
 (cbr (n !=(0:Int))
 (a true)
 (cbr (p !=(0:Int))
 (a true)
 (cbr (r !=(0:Int))
 (a true)
 (cbr (q !=(2:Int))
 (a true)
 (cbr ((((List.length e):Nat):Int) !=(2:Int))
 (a true)
 (a5 e (0:Int) (fun s =>
 (cbr (s !=(1:Int))
 (a true)
 (a5 e (1:Int) (fun t =>
 (a (t !=(1:Int))))))))))))))
 (fun u=>(cbr u
 (K false)
 (a6 p0 j (23:Int) c (fun v w =>
 (jn (fun (b:Bool→Prop) =>
 (cbr (w ==(0:Int))
 (cbr v
 (lt (IntKind.u8.wrap (BitVec.ofInt IntKind.u8.bits o&&&BitVec.ofInt IntKind.u8.bits (23:Int)).toNat) (fun x =>
 (cbr (x ==(23:Int))
 (cbr ((((List.length c):Nat):Int) ==(2:Int))
 (asr (decide ((0:Int)≤p1))
 (asr (decide (p1<(((List.length c):Nat):Int)))
 (lt (List.getD c (p1.toNat) .nils) (fun k =>
 (asr (conf (.one (.d)) k)
 (cbr ((((List.length (datOfV k)):Nat):Int) ==(2:Int))
 (asr (decide ((0:Int)≤p1))
 (asr (decide (p1<(((List.length c):Nat):Int)))
 (lt (List.getD c (p1.toNat) .nils) (fun g =>
 (asr (conf (.one (.d)) g)
 (asr (decide ((0:Int)≤p1))
 (asr (decide (p1<(((List.length (datOfV g)):Nat):Int)))
 (lt (List.getD (datOfV g) (p1.toNat) .nils) (fun h =>
 (asr (conf (.agg [.i .i64,.i .i64]) h)
 (asr (decide ((0:Int)≤p1))
 (asr (decide (p1<(((List.length p0):Nat):Int)))
 (lt (List.getD p0 (p1.toNat) .nils) (fun f =>
 (asr (conf (.agg [.i .i64,.d,.d]) f)
 (a7 (intOfV (cellAt f 0)) (datOfV (cellAt f 1)) (datOfV (cellAt f 2)) (fun y z =>
 (cbr (((intOfV (cellAt h 0)) == y)&&(((intOfV (cellAt h 1)) == z)&&true))
 (a1  (fun A =>
 (b A)))
 (b false)))))))))))))))))))
 (b false)))))))
 (b false))
 (b false))))
 (b false))
 (b false)))
 (fun B=>(K B)))))))))))))))))
def yie (p0:Ls) (p1:Int) (K:Bool→Prop):Prop:=ykn yqn yjv yeI yfE ygK yhO yek yoH p0 p1 K
def ypg (w:yzd) (as:Ls) (K:PV→Prop):Prop :=
 match as with
 | [(.data p0),(.int .i64 p1)]=>w p0 p1 (fun r0=>K (.bool r0))
 | _=>False
def yph (as:Ls) (K:PV→Prop):Prop:=ypg yie as K
def yxW (_:ytM) (_:ypf) (_:ygP) (_:ynk) (_:ym3) (_:yo4) (_:ykj) (_:yrl):LP:=fun _ _ _ _ =>
 False
def ypi (a0:ytM) (a1:ypf) (a2:ygP) (a3:ynk) (a4:ym3) (a5:yo4) (a6:ykj) (a7:yrl):SE:=⟨(E ef0),lookS [(yp3,ywh a0),(yjn,yro a1),(yfv,ylJ a2),(yjG,ypT a3),(yjH,ypG a4),(yjo,yqX a5),(yhB,ymH a6),(ynH,ytr a7)],lookI [],yxW a0 a1 a2 a3 a4 a5 a6 a7⟩
theorem ywj:SEOk (ypi yqn yjv yeI yfE ygK yhO yek yoH):=yao ⟨(yJx ef0 effG0),(yF6 ef0 effG0),(yvd ef0 effG0),yva,(yu2 ef0 effG0),(yxr ef0 effG0),yrG,(yHF ef0 effG0),trivial⟩ trivial effG0.ok
theorem yxX (a0 a1 a2 a3 a4 a5 a6 a7 p0 p1 K):WP (ypi a0 a1 a2 a3 a4 a5 a6 a7) 6 yyC [(.data p0),(.int .i64 p1)] K=ykn a0 a1 a2 a3 a4 a5 a6 a7 p0 p1 (fun r0=>K (.bool r0)):=by kernel_rfl
theorem yxY:OkF (E ef0) yph ykF:=by
 intro as K h
 unfold yph ypg at h
 split at h
 · exact WP_ok (ywj) (yag (by kernel_rfl)) (by kernel_rfl) (by kernel_rfl) (fun _=>yaa (by kernel_rfl) _) (effG0.num _ (by kernel_rfl)) ((yxX ..).mpr h)
 · exact h.elim
end Go.Pf.Vc
namespace Go.Pf.Vc
open Go Go.Pf
def I64 (n:Int):Prop:=-9223372036854775808≤n∧n≤9223372036854775807
def U64 (n:Int):Prop:=0≤n∧n≤18446744073709551615
theorem wu64' (n:Int):IntKind.u64.wrap n=n % 18446744073709551616:=by
 simp only [IntKind.wrap,IntKind.signed,IntKind.bits,Bool.false_and,Bool.false_eq_true,if_false]
 rfl
theorem wi64' (n:Int):IntKind.i64.wrap n=if n % 18446744073709551616≥9223372036854775808 then n % 18446744073709551616-18446744073709551616 else n % 18446744073709551616:=by
 have e1:(2:Int) ^ 64=18446744073709551616:=rfl
 have e2:(2:Int) ^ (64-1)=9223372036854775808:=rfl
 simp only [IntKind.wrap,IntKind.signed,IntKind.bits,Bool.true_and,e1,e2]
 by_cases h:n % 18446744073709551616≥9223372036854775808 <;> simp [h]
theorem wu64 {n:Int} (h:U64 n):IntKind.u64.wrap n=n:=by
 unfold U64 at h
 rw [wu64']
 omega
theorem wi64 {n:Int} (h:I64 n):IntKind.i64.wrap n=n:=by
 unfold I64 at h
 rw [wi64']
 split <;> omega
theorem yah {x y:Prop}:cbr true x y=x:=rfl
theorem yab {x y:Prop}:cbr false x y=y:=rfl
theorem yaA {x:Prop}:asr true x=x:=rfl
theorem ylK {p:Int} (h:I64 p) (K:Int→Prop):ycG p K=K (p.natAbs:Int):=by
 unfold I64 at h
 unfold ycG ypr
 by_cases hp:p<0
 · have e:IntKind.u64.wrap ((0:Int)-IntKind.u64.wrap p)=(p.natAbs:Int):=by
     rw [wu64',wu64']
     omega
   rw [decide_eq_true hp,yah,e]
 · rw [decide_eq_false hp,yab,wu64 ⟨by omega,by omega⟩]
   congr 1
   omega
theorem yHI (x:Int→Int→Bool→Prop):∀ (n a b:Nat),b<n→yew x n (a:Int) (b:Int)=x ((Nat.gcd a b:Nat):Int) 0 false
 | 0,a,b,h=>by omega
 | n+1,a,b,h=>by
   unfold yew
   by_cases hb:b=0
   · subst hb
     simp [cbr]
   · have h1:(b:Int)>0:=by omega
     have h2:¬((b:Int)=0):=by omega
     rw [decide_eq_true h1,yah,decide_eq_false h2,Bool.not_false,yaA]
     have e:Int.tmod (a:Int) (b:Int)=((a % b:Nat):Int):=by rw [Int.tmod_eq_emod_of_nonneg (by omega)];omega
     rw [e,yHI x n b (a % b) (by have:=Nat.mod_lt a (show b>0 by omega);omega)]
     rw [Nat.gcd_comm a b,Nat.gcd_rec b a,Nat.gcd_comm]
theorem yze (a b:Nat) (K:Int→Prop) (h:K ((Nat.gcd a b:Nat):Int)):ycj (a:Int) (b:Int) K:=by
 unfold ycj yqz
 exact ⟨b+1,by rw [yHI _ (b+1) a b (by omega)];exact h⟩
def RV (n d:Int):Prop:=1≤d∧d≤1000000000000000000∧-1000000000000000000≤n∧n≤1000000000000000000∧Nat.gcd n.natAbs d.natAbs=1
instance (n d:Int):Decidable (RV n d):=by unfold RV;infer_instance
def chk (n d:Int):Int:=if RV n d then 0 else 8
theorem yCr {n d:Int} (hn:I64 n) (hd:I64 d) {K:Int→Prop} (h:K (chk n d)):ybp n d K:=by
 unfold ybp yn9
 by_cases h1:d<1
 · have e:chk n d=8:=if_neg fun h=>by have:=h.1;omega
   rw [decide_eq_true h1,yah,← e];exact h
 · have hd':=hd;have hn':=hn
   unfold I64 at hd' hn'
   have ed:IntKind.u64.wrap d=((d.natAbs:Nat):Int):=by rw [wu64 ⟨by omega,by omega⟩];omega
   rw [decide_eq_false h1,yab,ylK hn,ed]
   by_cases h2:((if ((d.natAbs:Nat):Int)>((n.natAbs:Nat):Int) then ((d.natAbs:Nat):Int) else ((n.natAbs:Nat):Int))>1000000000000000000)
   · have e:chk n d=8:=if_neg fun h=>by
       obtain ⟨a1,a2,a3,a4,_⟩:=h
       revert h2;split <;> omega
     rw [decide_eq_true h2,yah,← e];exact h
   · rw [decide_eq_false h2,yab,ylK hn]
     refine yze _ _ _ ?_
     have h3:0<Nat.gcd n.natAbs d.natAbs:=Nat.gcd_pos_of_pos_right _ (by omega)
     have h4:d≤1000000000000000000∧-1000000000000000000≤n∧n≤1000000000000000000:=by
       revert h2;split <;> omega
     by_cases h5:((Nat.gcd n.natAbs d.natAbs:Nat):Int)>1
     · have e:chk n d=8:=if_neg fun h=>by have:=h.2.2.2.2;omega
       rw [decide_eq_true h5,yah,← e];exact h
     · have e:chk n d=0:=if_pos ⟨by omega,h4.1,h4.2.1,h4.2.2,by omega⟩
       rw [decide_eq_false h5,yab,← e];exact h
end Go.Pf.Vc
namespace Go.Pf.Vc
open Go Go.Pf
theorem mask32 {p:Int} (h:U64 p):IntKind.u64.wrap (BitVec.ofInt IntKind.u64.bits p&&&BitVec.ofInt IntKind.u64.bits (4294967295:Int)).toNat=p % 4294967296:=by
 unfold U64 at h
 have e1:(BitVec.ofInt 64 p).toNat=p.toNat:=by
   rw [BitVec.toNat_ofInt];omega
 have e2:(BitVec.ofInt 64 (4294967295:Int)).toNat=4294967295:=rfl
 have e3:(BitVec.ofInt IntKind.u64.bits p&&&BitVec.ofInt IntKind.u64.bits (4294967295:Int)).toNat=p.toNat % 4294967296:=by
   show (BitVec.ofInt 64 p&&&BitVec.ofInt 64 (4294967295:Int)).toNat=_
   rw [BitVec.toNat_and,e1,e2]
   exact Nat.and_two_pow_sub_one_eq_mod p.toNat 32
 rw [e3,wu64']
 omega
theorem fdiv32 (p:Int):Int.fdiv p 4294967296=p / 4294967296:=by
 rw [Int.fdiv_eq_ediv_of_nonneg _ (by omega)]
theorem yoI {a b:Int} (ha:U64 a) (hb:U64 b) (K:Int→Int→Prop):yfg a b K=K (a*b / 18446744073709551616) (a*b % 18446744073709551616):=by
 unfold yfg yvE
 simp only [fdiv32]
 rw [mask32 ha,mask32 hb]
 unfold U64 at ha hb
 have ha':=ha;have hb':=hb
 obtain ⟨x1,hx1⟩:∃ x,x=a / 4294967296:=⟨_,rfl⟩
 obtain ⟨x0,hx0⟩:∃ x,x=a % 4294967296:=⟨_,rfl⟩
 obtain ⟨y1,hy1⟩:∃ x,x=b / 4294967296:=⟨_,rfl⟩
 obtain ⟨y0,hy0⟩:∃ x,x=b % 4294967296:=⟨_,rfl⟩
 rw [← hx1,← hx0,← hy1,← hy0]
 have b1:0≤x1∧x1≤4294967295:=by omega
 have b2:0≤x0∧x0≤4294967295:=by omega
 have b3:0≤y1∧y1≤4294967295:=by omega
 have b4:0≤y0∧y0≤4294967295:=by omega
 have pb:∀ x y:Int,0≤x∧x≤4294967295→0≤y∧y≤4294967295→0≤x*y∧x*y≤18446744065119617025:=by
   intro x y hx hy
   refine ⟨Int.mul_nonneg hx.1 hy.1,?_⟩
   have:=Int.mul_le_mul hx.2 hy.2 hy.1 (by omega:(0:Int)≤4294967295)
   omega
 have p1:=pb x1 y1 b1 b3
 have p2:=pb x1 y0 b1 b4
 have p3:=pb x0 y1 b2 b3
 have p4:=pb x0 y0 b2 b4
 have ea:a=x1*4294967296+x0:=by omega
 have eb:b=y1*4294967296+y0:=by omega
 have eab:a*b=x1*y1*18446744073709551616+x1*y0*4294967296+x0*y1*4294967296+x0*y0:=by
   rw [ea,eb];grind
 obtain ⟨P,hP⟩:∃ x,x=x1*y1:=⟨_,rfl⟩
 obtain ⟨Q,hQ⟩:∃ x,x=x1*y0:=⟨_,rfl⟩
 obtain ⟨R,hR⟩:∃ x,x=x0*y1:=⟨_,rfl⟩
 obtain ⟨S,hS⟩:∃ x,x=x0*y0:=⟨_,rfl⟩
 rw [← hP] at p1;rw [← hQ] at p2;rw [← hR] at p3;rw [← hS] at p4
 rw [← hP,← hQ,← hR,← hS] at eab ⊢
 have w1:IntKind.u64.wrap S=S:=wu64 ⟨by omega,by omega⟩
 have w2:IntKind.u64.wrap Q=Q:=wu64 ⟨by omega,by omega⟩
 have w3:IntKind.u64.wrap R=R:=wu64 ⟨by omega,by omega⟩
 have w4:IntKind.u64.wrap P=P:=wu64 ⟨by omega,by omega⟩
 rw [w1,w2,w3,w4]
 have w5:IntKind.u64.wrap (Q+S / 4294967296)=Q+S / 4294967296:=wu64 ⟨by omega,by omega⟩
 rw [w5,mask32 ⟨by omega,by omega⟩]
 have w6:IntKind.u64.wrap ((Q+S / 4294967296) % 4294967296+R)=(Q+S / 4294967296) % 4294967296+R:=wu64 ⟨by omega,by omega⟩
 rw [w6]
 have w7:IntKind.u64.wrap (P+(Q+S / 4294967296) / 4294967296)=P+(Q+S / 4294967296) / 4294967296:=by
   have:a*b / 18446744073709551616≤18446744073709551615:=by
     have h1:a*b≤18446744073709551615*18446744073709551615:=by
       have:=Int.mul_le_mul ha'.2 hb'.2 hb'.1 (by omega:(0:Int)≤18446744073709551615)
       exact this
     omega
   exact wu64 ⟨by omega,by omega⟩
 rw [w7]
 have hab:a*b≤18446744073709551615*18446744073709551615:=Int.mul_le_mul ha'.2 hb'.2 hb'.1 (by omega:(0:Int)≤18446744073709551615)
 rw [eab] at hab ⊢
 rw [wu64',wu64']
 congr 1
 omega
theorem yPj {a b:Int} {K:Int→Prop} (h:K (if a=0 then b else a)):ye6 [.int .i64 a,.int .i64 b] K:=by
 unfold ye6 yih
 refine ⟨3,?_⟩
 have e1:IntKind.i64.wrap 1=1:=by decide
 have e2:IntKind.i64.wrap 2=2:=by decide
 by_cases ha:a=0
 · by_cases hb:b=0
   · simp [ybC,yah,yab,yaA,conf,confC,intOfV,e1,e2,ha,hb] at h ⊢;exact h
   · have e3:(b != 0)=true:=by simpa using hb
     simp [ybC,yah,yab,yaA,conf,confC,intOfV,e1,e2,ha,e3] at h ⊢;exact h
 · have e3:(a != 0)=true:=by simpa using ha
   simp [ybC,yah,yab,yaA,conf,confC,intOfV,e1,e2,ha,e3] at h ⊢;exact h
def chk2 (a b c d:Int):Int:=if chk a b=0 then chk c d else chk a b
theorem yts {a b c d:Int} (ha:I64 a) (hb:I64 b) (hc:I64 c) (hd:I64 d) {K:Int→Prop} (h:K (chk2 a b c d)):ych a b c d K:=by
 unfold ych yoa
 exact yCr ha hb (yCr hc hd (yPj h))
end Go.Pf.Vc
namespace Go.Pf.Vc
open Go Go.Pf
def cmp3 (a b:Int):Int:=if a<b then -1 else if a>b then 1 else 0
theorem yF7 (a b:Int) (K:Int→Prop):yeD a b K=K (cmp3 a b):=by
 unfold yeD yhF
 simp only [yhs,yiS,bne_self_eq_false,yab,cmp3]
 by_cases h:a<b
 · simp [h,yah]
 · by_cases h2:a>b
   · simp [h,h2,yah,yab]
   · simp [h,h2,yab]
theorem yxZ (a b:Int) (K:Int→Prop):yeg a b K=K (cmp3 a b):=by
 unfold yeg yhi
 simp only [ygB,yik,bne_self_eq_false,yab,cmp3]
 by_cases h:a<b
 · simp [h,yah]
 · by_cases h2:a>b
   · simp [h,h2,yah,yab]
   · simp [h,h2,yab]
theorem yOj {a b:Int} {K:Int→Prop} (h:K (if a=0 then b else a)):yjN [.int .i64 a,.int .i64 b] K:=by
 unfold yjN ypt
 refine ⟨3,?_⟩
 have e1:IntKind.i64.wrap 1=1:=by decide
 have e2:IntKind.i64.wrap 2=2:=by decide
 by_cases ha:a=0
 · by_cases hb:b=0
   · simp [yde,yah,yab,yaA,conf,confC,intOfV,e1,e2,ha,hb] at h ⊢;exact h
   · have e3:(b != 0)=true:=by simpa using hb
     simp [yde,yah,yab,yaA,conf,confC,intOfV,e1,e2,ha,e3] at h ⊢;exact h
 · have e3:(a != 0)=true:=by simpa using ha
   simp [yde,yah,yab,yaA,conf,confC,intOfV,e1,e2,ha,e3] at h ⊢;exact h
theorem yfp {a b c d:Int}:chk2 a b c d=0↔RV a b∧RV c d:=by
 unfold chk2 chk
 by_cases h1:RV a b <;> by_cases h2:RV c d <;> simp [h1,h2]
def cmpR (a b c d:Int):Int:=cmp3 (a*d) (c*b)
theorem yLu {x y:Int} (_:0≤x) (_:0≤y):(if cmp3 (x / 18446744073709551616) (y / 18446744073709551616)=0 then cmp3 (x % 18446744073709551616) (y % 18446744073709551616) else cmp3 (x / 18446744073709551616) (y / 18446744073709551616))=cmp3 x y:=by
 unfold cmp3
 split <;> rename_i h <;> revert h <;> repeat' split <;> intro h <;> omega
theorem U64.abs {n:Int} (h:I64 n):U64 ((n.natAbs:Nat):Int):=by unfold I64 at h;unfold U64;omega
theorem yMI {a b c d:Int} (ha:I64 a) (hb:I64 b) (hc:I64 c) (hd:I64 d) {K:Int→Int→Prop} (h:K (if chk2 a b c d=0 then cmpR a b c d else 0) (chk2 a b c d)):ybL a b c d K:=by
 unfold ybL yqD
 refine yts ha hb hc hd ?_
 by_cases hk:chk2 a b c d=0
 · rw [if_pos hk] at h
   rw [hk] at h ⊢
   obtain ⟨⟨b1,b2,a1,a2,_⟩,d1,d2,c1,c2,_⟩:=yfp.1 hk
   simp only [bne_self_eq_false,yab]
   by_cases hs:decide (a<0)=decide (c<0)
   · have e:(decide (a<0) != decide (c<0))=false:=by rw [hs];simp
     rw [e,yab,ylK ha,wu64 ⟨by omega,by omega⟩,yoI (U64.abs ha) ⟨by omega,by omega⟩,ylK hc,wu64 ⟨by omega,by omega⟩,yoI (U64.abs hc) ⟨by omega,by omega⟩,yxZ,yxZ]
     refine yOj ?_
     have p1:0≤((a.natAbs:Nat):Int)*d:=Int.mul_nonneg (by omega) (by omega)
     have p2:0≤((c.natAbs:Nat):Int)*b:=Int.mul_nonneg (by omega) (by omega)
     rw [yLu p1 p2]
     by_cases hneg:a<0
     · have hcn:c<0:=by simpa [hneg] using hs.symm
       rw [decide_eq_true hneg,yah]
       have e1:((a.natAbs:Nat):Int)*d=-(a*d):=by
         rw [show ((a.natAbs:Nat):Int)=-a by omega,Int.neg_mul]
       have e2:((c.natAbs:Nat):Int)*b=-(c*b):=by
         rw [show ((c.natAbs:Nat):Int)=-c by omega,Int.neg_mul]
       have e3:IntKind.i64.wrap (0-cmp3 (((a.natAbs:Nat):Int)*d) (((c.natAbs:Nat):Int)*b))=cmpR a b c d:=by
         rw [e1,e2]
         unfold cmpR cmp3
         rw [wi64 (by unfold I64;repeat' split <;> omega)]
         repeat' split <;> omega
       rw [e3];exact h
     · have hcn:¬c<0:=by simpa [hneg] using hs.symm
       rw [decide_eq_false hneg,yab,show ((a.natAbs:Nat):Int)=a by omega,show ((c.natAbs:Nat):Int)=c by omega]
       exact h
   · have e:(decide (a<0) != decide (c<0))=true:=by simpa using hs
     rw [e,yah,yF7]
     have e2:cmp3 a c=cmpR a b c d:=by
       unfold cmpR cmp3
       by_cases hneg:a<0
       · have hcn:¬c<0:=by intro hcn;simp [hneg,hcn] at hs
         have q1:a*d<0:=Int.mul_neg_of_neg_of_pos hneg (by omega)
         have q2:0≤c*b:=Int.mul_nonneg (by omega) (by omega)
         rw [if_pos (by omega),if_pos (by omega)]
       · have hcn:c<0:=by
           by_cases hcn:c<0
           · exact hcn
           · simp [hneg,hcn] at hs
         have q1:c*b<0:=Int.mul_neg_of_neg_of_pos hcn (by omega)
         have q2:0≤a*d:=Int.mul_nonneg (by omega) (by omega)
         rw [if_neg (by omega),if_pos (by omega),if_neg (by omega),if_pos (by omega)]
     rw [e2];exact h
 · rw [if_neg hk] at h
   have e:(chk2 a b c d != 0)=true:=by simpa using hk
   rw [e,yah];exact h
end Go.Pf.Vc
namespace Go.Pf.Vc
open Go Go.Pf
def blen (x:Nat):Nat:=if x=0 then 0 else x.log2+1
theorem yKq (x:Nat):x<2 ^ blen x:=by
 unfold blen
 split
 · rename_i h;subst h;decide
 · exact Nat.lt_log2_self
theorem yAQ {x:Nat} (h:x≠0):2 ^ (blen x-1)≤x:=by
 unfold blen
 rw [if_neg h]
 exact Nat.log2_self_le h
theorem yOk {x m:Nat} (h1:2 ^ m≤x) (h2:x<2 ^ (m+1)):blen x=m+1:=by
 have hx:x≠0:=by have:=Nat.two_pow_pos m;omega
 unfold blen
 rw [if_neg hx]
 congr 1
 have a:=Nat.log2_self_le hx
 have b:=Nat.lt_log2_self (n:=x)
 have c1:¬(x.log2<m):=fun h=>by
   have:=Nat.pow_le_pow_right (show 0<2 by omega) (show x.log2+1≤m by omega)
   omega
 have c2:¬(m<x.log2):=fun h=>by
   have:=Nat.pow_le_pow_right (show 0<2 by omega) (show m+1≤x.log2 by omega)
   omega
 omega
theorem yMJ {x k:Nat} (h:2 ^ k≤x):blen x=k+blen (x / 2 ^ k):=by
 have hp:=Nat.two_pow_pos k
 have hq:x / 2 ^ k≠0:=by
   have:=Nat.div_pos h hp
   omega
 have h1:=yAQ hq
 have h2:=yKq (x / 2 ^ k)
 obtain ⟨m,hm⟩:∃ m,blen (x / 2 ^ k)=m+1:=⟨blen (x / 2 ^ k)-1,by
   have:blen (x / 2 ^ k)≠0:=by unfold blen;rw [if_neg hq];omega
   omega⟩
 rw [hm] at h1 h2 ⊢
 rw [Nat.add_sub_cancel] at h1
 have:=yOk (x:=x) (m:=k+m) (by
     rw [Nat.pow_add]
     calc 2 ^ k*2 ^ m≤2 ^ k*(x / 2 ^ k):=Nat.mul_le_mul_left _ h1
       _≤x:=Nat.mul_div_le _ _) (by
     rw [show k+m+1=k+(m+1) by omega,Nat.pow_add]
     rw [Nat.mul_comm]
     exact (Nat.div_lt_iff_lt_mul hp).1 h2)
 omega
theorem yPk:∀ x:Nat,x<256→intOfV (List.getD len8tab x .nils)=(blen x:Int):=by decide +kernel
theorem wu8 {n:Int} (h0:0≤n) (h1:n<256):IntKind.u8.wrap n=n:=by
 have e1:(2:Int) ^ 8=256:=rfl
 simp only [IntKind.wrap,IntKind.signed,IntKind.bits,Bool.false_and,Bool.false_eq_true,if_false,e1]
 omega
theorem yOl {n:Int} (h0:0≤n) (h1:n<256):intOfV (List.getD len8tab (IntKind.u8.wrap n).toNat .nils)=(blen n.toNat:Int):=by
 rw [wu8 h0 h1]
 exact yPk n.toNat (by omega)
theorem blen8 {n:Nat} (h:n<256):blen n≤8:=by
 by_cases h0:n=0
 · subst h0;decide
 · have:=yAQ h0
   have h2:blen n-1<8:=by
     refine Nat.lt_of_not_le fun hc=>?_
     have:=Nat.pow_le_pow_right (show 0<2 by omega) hc
     omega
   omega
theorem leaf8 {n k:Int} (h0:0≤n) (h1:n<256) (hk:0≤k∧k≤56) {m:Int} (hm:m=k+blen n.toNat) {K:Int→Prop} (h:K m) :
   asr (decide ((0:Int)≤(IntKind.u8.wrap n))) (asr (decide ((IntKind.u8.wrap n)<(256:Int))) (K (IntKind.i64.wrap (k+(IntKind.i64.wrap (intOfV (List.getD len8tab ((IntKind.u8.wrap n).toNat) .nils))))))):=by
 have hb:=blen8 (n:=n.toNat) (by omega)
 have e1:IntKind.i64.wrap (blen n.toNat:Int)=blen n.toNat:=wi64 (by unfold I64;omega)
 have e2:IntKind.i64.wrap (k+blen n.toNat:Int)=k+blen n.toNat:=wi64 (by unfold I64;omega)
 rw [yOl h0 h1,wu8 h0 h1,decide_eq_true h0,yaA,decide_eq_true h1,yaA,e1,e2,← hm]
 exact h
theorem fdivn (p q:Int) (hq:0≤q):Int.fdiv p q=p / q:=Int.fdiv_eq_ediv_of_nonneg _ hq
theorem yMK {p:Int} (hp:U64 p) {K:Int→Prop} (h:K (blen p.toNat:Int)):yqe p K:=by
 unfold U64 at hp
 unfold yqe yvG
 simp only [fdivn _ 4294967296 (by omega),fdivn _ 65536 (by omega),fdivn _ 256 (by omega)]
 have key:∀ (k:Nat) (q:Int),2 ^ k≤p.toNat→q=p / (2 ^ k:Nat)→(blen p.toNat:Int)=k+blen q.toNat:=by
   intro k q hk hq
   have e:q.toNat=p.toNat / 2 ^ k:=by
     rw [hq]
     obtain ⟨m,rfl⟩:∃ m:Nat,p=m:=⟨p.toNat,by omega⟩
     rw [← Int.natCast_ediv,Int.toNat_natCast,Int.toNat_natCast]
   rw [e]
   have:=yMJ hk
   omega
 by_cases h1:p≥4294967296
 · rw [decide_eq_true h1,yah]
   by_cases h2:p / 4294967296≥65536
   · rw [decide_eq_true h2,yah]
     by_cases h3:p / 4294967296 / 65536≥256
     · rw [decide_eq_true h3,yah]
       exact leaf8 (by omega) (by omega) (by omega) (key 56 _ (by omega) (by omega)) h
     · rw [decide_eq_false h3,yab]
       exact leaf8 (by omega) (by omega) (by omega) (key 48 _ (by omega) (by omega)) h
   · rw [decide_eq_false h2,yab]
     by_cases h3:p / 4294967296≥256
     · rw [decide_eq_true h3,yah]
       exact leaf8 (by omega) (by omega) (by omega) (key 40 _ (by omega) (by omega)) h
     · rw [decide_eq_false h3,yab]
       exact leaf8 (by omega) (by omega) (by omega) (key 32 _ (by omega) (by omega)) h
 · rw [decide_eq_false h1,yab]
   by_cases h2:p≥65536
   · rw [decide_eq_true h2,yah]
     by_cases h3:p / 65536≥256
     · rw [decide_eq_true h3,yah]
       exact leaf8 (by omega) (by omega) (by omega) (key 24 _ (by omega) (by omega)) h
     · rw [decide_eq_false h3,yab]
       exact leaf8 (by omega) (by omega) (by omega) (key 16 _ (by omega) (by omega)) h
   · rw [decide_eq_false h2,yab]
     by_cases h3:p≥256
     · rw [decide_eq_true h3,yah]
       exact leaf8 (by omega) (by omega) (by omega) (key 8 _ (by omega) (by omega)) h
     · rw [decide_eq_false h3,yab]
       exact leaf8 (by omega) (by omega) (by omega) (by simp) h
theorem yx0 {p:Int} (hp:U64 p) {K:Int→Prop} (h:K (64-blen p.toNat:Int)):ybi p K:=by
 unfold ybi yim
 refine yMK hp ?_
 have hb:blen p.toNat≤64:=by
   unfold U64 at hp
   by_cases h0:p.toNat=0
   · rw [h0];decide
   · have:=yAQ h0
     have h2:blen p.toNat-1<64:=by
       refine Nat.lt_of_not_le fun hc=>?_
       have:=Nat.pow_le_pow_right (show 0<2 by omega) hc
       omega
     omega
 rw [wi64 (by unfold I64;omega)]
 exact h
end Go.Pf.Vc
namespace Go.Pf.Vc
open Go Go.Pf
structure DI (y a b u un q r:Int):Prop where
 hy:y=a*4294967296+b
 h1:2147483648≤a∧a≤4294967295
 h0:0≤b∧b≤4294967295
 hn:0≤un∧un≤4294967295
 hu:q*a+r=u
 hq:0≤q∧q≤4294967297
 hr:0≤r∧r≤4294967295
 hlt:u<y
 hU:u*4294967296+un<(q+1)*y
def DG (y u un q:Int):Prop:=0≤q∧q≤4294967295∧q*y≤u*4294967296+un∧u*4294967296+un<(q+1)*y
theorem DI.step {y a b u un q r:Int} (h:DI y a b u un q r) {A B C:Prop}
   (hA:DG y u un (q-1)→0≤q-1→q-1≤4294967296→A)
   (hB:DI y a b u un (q-1) (r+a)→B)
   (hC:DG y u un q→C) :
   cbr (decide (q≥(4294967296:Int)))
     (cbr (decide ((IntKind.u64.wrap (r+a))≥(4294967296:Int))) A B)
     (cbr (decide ((IntKind.u64.wrap (q*b))>(IntKind.u64.wrap ((IntKind.u64.wrap ((4294967296:Int)*r))+un))))
       (cbr (decide ((IntKind.u64.wrap (r+a))≥(4294967296:Int))) A B) C):=by
 have h':=h
 obtain ⟨hy,h1,h0,hn,hu,hq,hr,hlt,hU⟩:=h
 have e1:IntKind.u64.wrap (r+a)=r+a:=wu64 ⟨by omega,by omega⟩
 have eq1:q*y=q*a*4294967296+q*b:=by rw [hy];grind
 have eq2:(q-1)*y=q*y-y:=by grind
 have eq3:(q-1)*a=q*a-a:=by grind
 have eq4:(q-1+1)*y=q*y:=by grind
 have eq5:(q-1)*b=q*b-b:=by grind
 have big:u*4294967296+un<q*y→cbr (decide ((IntKind.u64.wrap (r+a))≥(4294967296:Int))) A B:=by
   intro hb
   have q1:0≤q-1:=by
     refine Int.not_lt.1 fun hc=>?_
     have hq0:q=0:=by omega
     subst hq0
     simp at hb hu
     omega
   rw [e1]
   by_cases hc:r+a≥4294967296
   · rw [decide_eq_true hc,yah]
     have hp:(q-1)*b≤4294967296*4294967295:=Int.mul_le_mul (by omega) h0.2 h0.1 (by omega)
     have hle:(q-1)*y≤u*4294967296+un:=by
       have:(q-1)*y=(q-1)*a*4294967296+(q-1)*b:=by rw [hy];grind
       omega
     have hlt32:q-1≤4294967295:=by
       refine Int.not_lt.1 fun hc=>?_
       have:4294967296*y≤(q-1)*y:=Int.mul_le_mul_of_nonneg_right (by omega) (by omega)
       omega
     exact hA ⟨q1,hlt32,hle,by rw [eq4];exact hb⟩ q1 (by omega)
   · rw [decide_eq_false hc,yab]
     exact hB ⟨hy,h1,h0,hn,by rw [eq3];omega,⟨q1,by omega⟩,⟨by omega,by omega⟩,hlt,by rw [eq4];exact hb⟩
 by_cases ha:q≥4294967296
 · rw [decide_eq_true ha,yah]
   refine big ?_
   have:4294967296*y≤q*y:=Int.mul_le_mul_of_nonneg_right (by omega) (by omega)
   omega
 · rw [decide_eq_false ha,yab]
   have hp:q*b≤4294967295*4294967295:=Int.mul_le_mul (by omega) h0.2 h0.1 (by omega)
   have hp0:0≤q*b:=Int.mul_nonneg hq.1 h0.1
   have w1:IntKind.u64.wrap (q*b)=q*b:=wu64 ⟨hp0,by omega⟩
   have w2:IntKind.u64.wrap ((4294967296:Int)*r)=4294967296*r:=wu64 ⟨by omega,by omega⟩
   have w3:IntKind.u64.wrap ((4294967296:Int)*r+un)=4294967296*r+un:=wu64 ⟨by omega,by omega⟩
   rw [w1,w2,w3]
   by_cases hb:q*b>4294967296*r+un
   · rw [decide_eq_true hb,yah]
     exact big (by omega)
   · rw [decide_eq_false hb,yab]
     exact hC ⟨hq.1,by omega,by omega,hU⟩
theorem L0_of (W:Int→(Int→Prop)→Prop) {y a c u un:Int} (s v un0:Int) {x0 x1:Int→Int→Int→Int→Int→Int→Int→Int→Int→Bool→Prop}
   (hx:∀ q r b,DG y u un q→x0 y s a c v un un0 q r b) (hx1:∀ q r b,DG y u un q→x1 y s a c v un un0 q r b) :
   ∀ (n:Nat) (q r:Int) (b:Bool),DI y a c u un q r→4294967296≤r+n*2147483648→ydo W x0 x1 (n+1) y s a c v un un0 q r b:=by
 intro n
 induction n with
 | zero =>
   intro q r b h hn
   have:=h.hr.2
   exact absurd hn (by omega)
 | succ n ih =>
   intro q r b h hn
   unfold ydo
   refine h.step (fun g a1 a2=>?_) (fun g=>?_) (fun g=>hx1 _ _ _ g)
   · rw [wu64 (n:=q-1) ⟨by omega,by omega⟩]
     exact hx _ _ _ g
   · have e1:IntKind.u64.wrap (q-1)=q-1:=wu64 ⟨g.hq.1,by have:=g.hq.2;omega⟩
     have e2:IntKind.u64.wrap (r+a)=r+a:=wu64 ⟨g.hr.1,by have:=g.hr.2;omega⟩
     rw [e1,e2]
     exact ih _ _ _ g (by have:=h.h1.1;omega)
theorem L1_of (W:Int→(Int→Prop)→Prop) {y a c u un:Int} (s q1 v:Int) {x0 x1:Int→Int→Int→Int→Int→Int→Int→Int→Int→Bool→Prop}
   (hx:∀ q r b,DG y u un q→x0 y s a c un q1 r v q b) (hx1:∀ q r b,DG y u un q→x1 y s a c un q1 r v q b) :
   ∀ (n:Nat) (q r:Int) (b:Bool),DI y a c u un q r→4294967296≤r+n*2147483648→ydp W x0 x1 (n+1) y s a c un q1 r v q b:=by
 intro n
 induction n with
 | zero =>
   intro q r b h hn
   have:=h.hr.2
   exact absurd hn (by omega)
 | succ n ih =>
   intro q r b h hn
   unfold ydp
   refine h.step (fun g a1 a2=>?_) (fun g=>?_) (fun g=>hx1 _ _ _ g)
   · rw [wu64 (n:=q-1) ⟨by omega,by omega⟩]
     exact hx _ _ _ g
   · have e1:IntKind.u64.wrap (q-1)=q-1:=wu64 ⟨g.hq.1,by have:=g.hq.2;omega⟩
     have e2:IntKind.u64.wrap (r+a)=r+a:=wu64 ⟨g.hr.1,by have:=g.hr.2;omega⟩
     rw [e1,e2]
     exact ih _ _ _ g (by have:=h.h1.1;omega)
theorem yPl (W:Int→(Int→Prop)→Prop) {y a c u un:Int} (s v un0:Int) {x0 x1:Int→Int→Int→Int→Int→Int→Int→Int→Int→Bool→Prop}
   (hx:∀ q r b,DG y u un q→x0 y s a c v un un0 q r b) (hx1:∀ q r b,DG y u un q→x1 y s a c v un un0 q r b) (q r:Int) (h:DI y a c u un q r):yg0 W x0 x1 3 y s a c v un un0 q r:=by
 have:=L0_of W s v un0 hx hx1 2 q r true h (by have:=h.hr.1;omega)
 unfold ydo at this
 unfold yg0
 exact this
theorem yPm (W:Int→(Int→Prop)→Prop) {y a c u un:Int} (s q1 v:Int) {x0 x1:Int→Int→Int→Int→Int→Int→Int→Int→Int→Bool→Prop}
   (hx:∀ q r b,DG y u un q→x0 y s a c un q1 r v q b) (hx1:∀ q r b,DG y u un q→x1 y s a c un q1 r v q b) (q r:Int) (h:DI y a c u un q r):yeN W x0 x1 3 y s a c un q1 r v q:=by
 have:=L1_of W s q1 v hx hx1 2 q r true h (by have:=h.hr.1;omega)
 unfold ydp at this
 unfold yeN
 exact this
end Go.Pf.Vc
namespace Go.Pf.Vc
open Go Go.Pf
theorem DI.init {y a b u un:Int} (hy:y=a*4294967296+b) (h1:2147483648≤a∧a≤4294967295) (h0:0≤b∧b≤4294967295) (hn:0≤un∧un≤4294967295)
   (hu:0≤u) (hlt:u<y):DI y a b u un (u / a) (u-u / a*a):=by
 have a1:=Int.mul_ediv_add_emod u a
 have a2:=Int.emod_nonneg u (show a≠0 by omega)
 have a3:=Int.emod_lt_of_pos u (show 0<a by omega)
 have a4:u / a*a=a*(u / a):=Int.mul_comm _ _
 have a5:0≤u / a:=Int.ediv_nonneg hu (by omega)
 have a6:u / a≤4294967297:=by
   refine Int.not_lt.1 fun hc=>?_
   have:a*4294967298≤a*(u / a):=Int.mul_le_mul_of_nonneg_left (by omega) (by omega)
   omega
 refine ⟨hy,h1,h0,hn,by omega,⟨a5,a6⟩,⟨by omega,by omega⟩,hlt,?_⟩
 have e:(u / a+1)*y=a*(u / a)*4294967296+a*4294967296+(u / a+1)*b:=by
   obtain ⟨t,ht⟩:∃ t,t=u / a:=⟨_,rfl⟩
   rw [← ht,hy];grind
 have:0≤(u / a+1)*b:=Int.mul_nonneg (by omega) h0.1
 omega
theorem or_eq {a b:Int} {k:Nat} (ha:0≤a) (hb:0≤b∧b<2 ^ k) (hab:a*2 ^ k≤18446744073709551615∧b≤18446744073709551615) (hs:a*2 ^ k+b≤18446744073709551615) :
   IntKind.u64.wrap (BitVec.ofInt IntKind.u64.bits (a*2 ^ k)|||BitVec.ofInt IntKind.u64.bits b).toNat=a*2 ^ k+b:=by
 obtain ⟨x,rfl⟩:∃ x:Nat,a=x:=⟨a.toNat,by omega⟩
 obtain ⟨z,rfl⟩:∃ z:Nat,b=z:=⟨b.toNat,by omega⟩
 have ec:((x:Int)*2 ^ k)=((2 ^ k*x:Nat):Int):=by push_cast;exact Int.mul_comm _ _
 rw [ec] at hab hs ⊢
 have hz:z<2 ^ k:=by have:=hb.2;exact_mod_cast this
 have e:(BitVec.ofInt IntKind.u64.bits ((2 ^ k*x:Nat):Int)|||BitVec.ofInt IntKind.u64.bits (z:Int)).toNat=2 ^ k*x+z:=by
   show (BitVec.ofInt 64 ((2 ^ k*x:Nat):Int)|||BitVec.ofInt 64 (z:Int)).toNat=_
   rw [BitVec.toNat_or,BitVec.toNat_ofInt,BitVec.toNat_ofInt]
   have e1:(((2 ^ k*x:Nat):Int) % (2 ^ 64:Nat)).toNat=2 ^ k*x:=by omega
   have e2:((z:Int) % (2 ^ 64:Nat)).toNat=z:=by omega
   rw [e1,e2,Nat.two_pow_add_eq_or_of_lt hz]
 rw [e,wu64 ⟨by omega,by omega⟩]
 push_cast;rfl
theorem yKr {u un q y:Int} (h0:0≤u*4294967296+un-q*y) (h1:u*4294967296+un-q*y≤18446744073709551615) :
   IntKind.u64.wrap (IntKind.u64.wrap (IntKind.u64.wrap (u*4294967296)+un)-IntKind.u64.wrap (q*y))=u*4294967296+un-q*y:=by
 simp only [wu64']
 omega
theorem tdivn {a b:Int} (h:0≤a):Int.tdiv a b=a / b:=Int.tdiv_eq_ediv_of_nonneg h
theorem tmodn {a b:Int} (h:0≤a):Int.tmod a b=a % b:=Int.tmod_eq_emod_of_nonneg h
theorem yHJ {h l y:Int} (hh:U64 h) (hl:U64 l) (hy:U64 y) (hlt:h<y) {K:Int→Int→Prop}
   (k:K ((h*18446744073709551616+l) / y) ((h*18446744073709551616+l) % y)):yg1 h l y K:=by
 unfold U64 at hh hl hy
 unfold yg1 yvI
 have b1:(y ==(0:Int))=false:=beq_eq_false_iff_ne.2 (by omega)
 have b2:decide (y≤h)=false:=decide_eq_false (by omega)
 have b3:(!(decide (y=(0:Int))))=true:=by rw [decide_eq_false (by omega)];rfl
 rw [b1,yab,b2,yab,b3]
 by_cases h0:h=0
 · subst h0
   have:((0:Int) == 0)=true:=rfl
   rw [this,yah,yaA,yaA,tdivn hl.1,tmodn hl.1]
   have e:(0:Int)*18446744073709551616+l=l:=by omega
   rw [e] at k
   have b4:l / y≤l:=Int.ediv_le_self _ hl.1
   rw [wu64 ⟨Int.ediv_nonneg hl.1 (by omega),by omega⟩]
   exact k
 · have b4:(h ==(0:Int))=false:=beq_eq_false_iff_ne.2 h0
   rw [b4,yab]
   refine yx0 ⟨by omega,by omega⟩ ?_
   have hyn:y.toNat≠0:=by omega
   have c1:=yKq y.toNat
   have c2:=yAQ hyn
   have c3:blen y.toNat≤64:=by
     refine Nat.le_of_not_lt fun hc=>?_
     have:=Nat.pow_le_pow_right (show 0<2 by omega) (show 64≤blen y.toNat-1 by omega)
     omega
   have c4:1≤blen y.toNat:=by
     refine Nat.le_of_not_lt fun hc=>?_
     have:blen y.toNat=0:=by omega
     rw [this] at c1
     omega
   obtain ⟨m,hm⟩:∃ m,m=64-blen y.toNat:=⟨_,rfl⟩
   have es:(64-(blen y.toNat:Int))=(m:Int):=by omega
   rw [es]
   have m63:m≤63:=by omega
   have e1:IntKind.u64.wrap (m:Int)=m:=wu64 ⟨by omega,by omega⟩
   have e2:IntKind.u64.wrap ((64:Int)-m)=((64-m:Nat):Int):=by
     rw [wu64 ⟨by omega,by omega⟩];omega
   have e3:min ((m:Int)).toNat IntKind.u64.bits=m:=by
     show min ((m:Int)).toNat 64=m
     rw [Int.toNat_natCast];omega
   have e4:min (((64-m:Nat):Int)).toNat IntKind.u64.bits=64-m:=by
     show min (((64-m:Nat):Int)).toNat 64=64-m
     rw [Int.toNat_natCast];omega
   simp only [e1]
   rw [e2,e3,e4]
   have p64:(2:Int) ^ (64-m)*2 ^ m=18446744073709551616:=by
     rw [← Int.pow_add,show 64-m+m=64 by omega];rfl
   have p63:(2:Int) ^ (63-m)*2 ^ m=9223372036854775808:=by
     rw [← Int.pow_add,show 63-m+m=63 by omega];rfl
   have tp:(0:Int)<2 ^ m:=Int.pow_pos (by omega)
   have tp':(0:Int)<2 ^ (64-m):=Int.pow_pos (by omega)
   have y1:y<(2:Int) ^ (64-m):=by
     have:blen y.toNat=64-m:=by omega
     rw [this] at c1
     have c1':((y.toNat:Nat):Int)<((2 ^ (64-m):Nat):Int):=by exact_mod_cast c1
     push_cast at c1'
     omega
   have y2:(2:Int) ^ (63-m)≤y:=by
     have:blen y.toNat-1=63-m:=by omega
     rw [this] at c2
     have c2':((2 ^ (63-m):Nat):Int)≤((y.toNat:Nat):Int):=by exact_mod_cast c2
     push_cast at c2'
     omega
   have Y1:y*2 ^ m<18446744073709551616:=by
     have:=Int.mul_lt_mul_of_pos_right y1 tp
     omega
   have Y2:9223372036854775808≤y*2 ^ m:=by
     have:=Int.mul_le_mul_of_nonneg_right y2 (show (0:Int)≤2 ^ m by omega)
     omega
   have H1:(h+1)*2 ^ m≤y*2 ^ m:=Int.mul_le_mul_of_nonneg_right (by omega) (by omega)
   have H2:(h+1)*2 ^ m=h*2 ^ m+2 ^ m:=by grind
   have H0:0≤h*2 ^ m:=Int.mul_nonneg hh.1 (by omega)
   have fd:Int.fdiv l (2 ^ (64-m))=l / 2 ^ (64-m):=fdivn _ _ (by omega)
   have L1:=Int.mul_ediv_add_emod l (2 ^ (64-m))
   have L2:=Int.emod_nonneg l (show (2:Int) ^ (64-m)≠0 by omega)
   have L3:=Int.emod_lt_of_pos l tp'
   have L4:0≤l / 2 ^ (64-m):=Int.ediv_nonneg hl.1 (by omega)
   have L5:l / 2 ^ (64-m)<2 ^ m:=by
     refine Int.ediv_lt_of_lt_mul tp' ?_
     rw [Int.mul_comm,p64];omega
   have w1:IntKind.u64.wrap (y*2 ^ m)=y*2 ^ m:=wu64 ⟨by omega,by omega⟩
   have w2:IntKind.u64.wrap (h*2 ^ m)=h*2 ^ m:=wu64 ⟨by omega,by omega⟩
   have w3:IntKind.u64.wrap (BitVec.ofInt IntKind.u64.bits (h*2 ^ m)|||BitVec.ofInt IntKind.u64.bits (l / 2 ^ (64-m))).toNat=h*2 ^ m+l / 2 ^ (64-m) :=
     or_eq hh.1 ⟨L4,L5⟩ ⟨by omega,by omega⟩ (by omega)
   have w4:IntKind.u64.wrap (l*2 ^ m)=l % 2 ^ (64-m)*2 ^ m:=by
     have e:l*2 ^ m=(l / 2 ^ (64-m))*18446744073709551616+l % 2 ^ (64-m)*2 ^ m:=by
       rw [← p64]
       obtain ⟨a,ha⟩:∃ a,a=l / 2 ^ (64-m):=⟨_,rfl⟩
       obtain ⟨b,hb⟩:∃ b,b=l % 2 ^ (64-m):=⟨_,rfl⟩
       obtain ⟨t,ht⟩:∃ t,t=(2:Int) ^ m:=⟨_,rfl⟩
       obtain ⟨t',ht'⟩:∃ t,t=(2:Int) ^ (64-m):=⟨_,rfl⟩
       rw [← ha,← hb,← ht'] at L1
       rw [← ha,← hb,← ht,← ht']
       rw [← L1];grind
     have e5:l % 2 ^ (64-m)*2 ^ m<18446744073709551616:=by
       rw [← p64];exact Int.mul_lt_mul_of_pos_right L3 tp
     have e6:0≤l % 2 ^ (64-m)*2 ^ m:=Int.mul_nonneg L2 (by omega)
     rw [e,wu64'];omega
   have e5:l % 2 ^ (64-m)*2 ^ m<18446744073709551616:=by
     rw [← p64];exact Int.mul_lt_mul_of_pos_right L3 tp
   have e6:0≤l % 2 ^ (64-m)*2 ^ m:=Int.mul_nonneg L2 (by omega)
   have eN:(h*18446744073709551616+l)*2 ^ m=(h*2 ^ m+l / 2 ^ (64-m))*18446744073709551616+l % 2 ^ (64-m)*2 ^ m:=by
     rw [← p64]
     obtain ⟨a,ha⟩:∃ a,a=l / 2 ^ (64-m):=⟨_,rfl⟩
     obtain ⟨b,hb⟩:∃ b,b=l % 2 ^ (64-m):=⟨_,rfl⟩
     obtain ⟨t,ht⟩:∃ t,t=(2:Int) ^ m:=⟨_,rfl⟩
     obtain ⟨t',ht'⟩:∃ t,t=(2:Int) ^ (64-m):=⟨_,rfl⟩
     rw [← ha,← hb,← ht'] at L1
     rw [← ha,← hb,← ht,← ht']
     rw [← L1];grind
   have U1:h*2 ^ m+l / 2 ^ (64-m)<y*2 ^ m:=by omega
   have U0:0≤h*2 ^ m+l / 2 ^ (64-m):=by omega
   rw [fd,w1,w2,w3,w4]
   have b5:(!(decide ((m:Int)<0)))=true:=by rw [decide_eq_false (by omega)];rfl
   have b6:(!(decide (((64-m:Nat):Int)<0)))=true:=by rw [decide_eq_false (by omega)];rfl
   rw [b5,b6,yaA,yaA,yaA,yaA]
   generalize h*2 ^ m+l / 2 ^ (64-m)=u at *
   generalize hl0:l % 2 ^ (64-m)*2 ^ m=v at *
   generalize hY:y*2 ^ m=Y at *
   rw [fdivn Y _ (by omega),fdivn v _ (by omega),mask32 ⟨by omega,by omega⟩,mask32 ⟨by omega,by omega⟩,tdivn U0]
   have b7:(!(decide (Y / 4294967296=(0:Int))))=true:=by rw [decide_eq_false (by omega)];rfl
   rw [b7,yaA]
   obtain ⟨c,hyn1⟩:∃ a,a=Y / 4294967296:=⟨_,rfl⟩
   obtain ⟨d,hyn0⟩:∃ a,a=Y % 4294967296:=⟨_,rfl⟩
   obtain ⟨un1,hun1⟩:∃ a,a=v / 4294967296:=⟨_,rfl⟩
   obtain ⟨un0,hun0⟩:∃ a,a=v % 4294967296:=⟨_,rfl⟩
   rw [← hyn1,← hyn0,← hun1,← hun0]
   have d1:2147483648≤c∧c≤4294967295:=by omega
   have d0:0≤d∧d≤4294967295:=by omega
   have dn1:0≤un1∧un1≤4294967295:=by omega
   have dn0:0≤un0∧un0≤4294967295:=by omega
   have dY:Y=c*4294967296+d:=by omega
   have g1:=DI.init dY d1 d0 dn1 U0 U1
   have x1:IntKind.u64.wrap (u / c)=u / c:=wu64 ⟨g1.hq.1,by have:=g1.hq.2;omega⟩
   have x2:IntKind.u64.wrap (u-IntKind.u64.wrap (u / c*c))=u-u / c*c:=by
     have r1:=g1.hr.1
     have r2:0≤u / c*c:=Int.mul_nonneg g1.hq.1 (by omega)
     have r3:=g1.hr.2
     rw [wu64 (n:=u / c*c) ⟨r2,by omega⟩,wu64 ⟨r1,by omega⟩]
   rw [x1,x2]
   have fin:∀ q1:Int,DG Y u un1 q1→∀ (un21:Int),un21=u*4294967296+un1-q1*Y→∀ q0,DG Y un21 un0 q0 →
       K (IntKind.u64.wrap ((IntKind.u64.wrap (q1*(4294967296:Int)))+q0)) (Int.fdiv (IntKind.u64.wrap ((IntKind.u64.wrap ((IntKind.u64.wrap (un21*(4294967296:Int)))+un0))-(IntKind.u64.wrap (q0*Y)))) (2 ^ (min ((m:Int)).toNat IntKind.u64.bits))):=by
     intro q1 G1 un21 e21 q0 G0
     obtain ⟨a1,a2,a3,a4⟩:=G1
     obtain ⟨c1,c2,c3,c4⟩:=G0
     have s1:(q1+1)*Y=q1*Y+Y:=by grind
     have s0:(q0+1)*Y=q0*Y+Y:=by grind
     have w5:IntKind.u64.wrap (q1*4294967296)=q1*4294967296:=wu64 ⟨by omega,by omega⟩
     have w6:IntKind.u64.wrap (q1*4294967296+q0)=q1*4294967296+q0:=wu64 ⟨by omega,by omega⟩
     rw [yKr (by omega) (by omega),w5,w6,e3,fdivn _ _ (by omega)]
     have eT:un21*4294967296+un0-q0*Y=(h*18446744073709551616+l-(q1*4294967296+q0)*y)*2 ^ m:=by
       have f1:(q1*4294967296+q0)*Y=q1*Y*4294967296+q0*Y:=by grind
       have f2:(h*18446744073709551616+l-(q1*4294967296+q0)*y)*2 ^ m=(h*18446744073709551616+l)*2 ^ m-(q1*4294967296+q0)*Y:=by
         rw [← hY,Int.sub_mul,Int.mul_assoc (q1*4294967296+q0)]
       rw [f2,f1,eN]
       omega
     rw [eT,Int.mul_ediv_cancel _ (by omega)]
     have r0:0≤h*18446744073709551616+l-(q1*4294967296+q0)*y:=by
       refine Int.not_lt.1 fun hc=>?_
       have:=Int.mul_neg_of_neg_of_pos hc tp
       omega
     have r1:h*18446744073709551616+l-(q1*4294967296+q0)*y<y:=by
       refine Int.not_le.1 fun hc=>?_
       have:=Int.mul_le_mul_of_nonneg_right hc (show (0:Int)≤2 ^ m by omega)
       omega
     obtain ⟨Q,hQ⟩:∃ Q,Q=q1*4294967296+q0:=⟨_,rfl⟩
     rw [← hQ] at r0 r1 ⊢
     have z1:(h*18446744073709551616+l) / y=Q:=by
       have:h*18446744073709551616+l=(h*18446744073709551616+l-Q*y)+Q*y:=by omega
       rw [this,Int.add_mul_ediv_right _ _ (by omega),Int.ediv_eq_zero_of_lt r0 r1];omega
     have z2:(h*18446744073709551616+l) % y=h*18446744073709551616+l-Q*y:=by
       have:=Int.mul_ediv_add_emod (h*18446744073709551616+l) y
       rw [z1,Int.mul_comm] at this
       omega
     rw [z1,z2] at k
     exact k
   have mid:∀ q:Int,DG Y u un1 q→∀ (X:Int→Int→Int→Int→Int→Int→Int→Int→Int→Bool→Prop),(∀ q0 r0 b0,DG Y (u*4294967296+un1-q*Y) un0 q0→X Y m c d un0 q r0 (u*4294967296+un1-q*Y) q0 b0) →
       asr (!(decide (c=(0:Int)))) (∃ n:Nat,yeN ybi X X n Y m c d un0 q ((IntKind.u64.wrap ((IntKind.u64.wrap ((IntKind.u64.wrap ((IntKind.u64.wrap (u*(4294967296:Int)))+un1))-(IntKind.u64.wrap (q*Y))))-(IntKind.u64.wrap ((IntKind.u64.wrap (Int.tdiv (IntKind.u64.wrap ((IntKind.u64.wrap ((IntKind.u64.wrap (u*(4294967296:Int)))+un1))-(IntKind.u64.wrap (q*Y)))) c))*c))))) (IntKind.u64.wrap ((IntKind.u64.wrap ((IntKind.u64.wrap (u*(4294967296:Int)))+un1))-(IntKind.u64.wrap (q*Y)))) (IntKind.u64.wrap (Int.tdiv (IntKind.u64.wrap ((IntKind.u64.wrap ((IntKind.u64.wrap (u*(4294967296:Int)))+un1))-(IntKind.u64.wrap (q*Y)))) c))):=by
     intro q G X hX
     obtain ⟨a1,a2,a3,a4⟩:=G
     have s1:(q+1)*Y=q*Y+Y:=by grind
     have b8:(!(decide (c=(0:Int))))=true:=by rw [decide_eq_false (by omega)];rfl
     rw [b8,yaA,yKr (by omega) (by omega),tdivn (by omega)]
     have g0:=DI.init dY d1 d0 dn0 (u:=u*4294967296+un1-q*Y) (by omega) (by omega)
     generalize u*4294967296+un1-q*Y=u2 at *
     have x1:IntKind.u64.wrap (u2 / c)=u2 / c:=wu64 ⟨g0.hq.1,by have:=g0.hq.2;omega⟩
     have x2:IntKind.u64.wrap (u2-IntKind.u64.wrap (u2 / c*c))=u2-u2 / c*c:=by
       have r1:=g0.hr.1
       have r2:0≤u2 / c*c:=Int.mul_nonneg g0.hq.1 (by omega)
       have r3:=g0.hr.2
       have r4:=g0.hlt
       rw [wu64 (n:=u2 / c*c) ⟨r2,by omega⟩,wu64 ⟨r1,by omega⟩]
     rw [x1,x2]
     exact ⟨3,yPm _ _ _ _ (fun q0 r0 b0 g=>hX q0 r0 b0 g) (fun q0 r0 b0 g=>hX q0 r0 b0 g) _ _ g0⟩
   have leaf:∀ {P:Prop},P→asr (!(decide ((m:Int)<0))) P:=fun p=>by rw [b5,yaA];exact p
   refine ⟨3,yPl _ _ _ _ (fun q r b G=>?_) (fun q r b G=>?_) _ _ g1⟩
   · exact mid q G _ (fun q0 r0 b0 G0=>leaf (fin q G _ rfl q0 G0))
   · exact mid q G _ (fun q0 r0 b0 G0=>leaf (fin q G _ rfl q0 G0))
end Go.Pf.Vc
namespace Go.Pf.Vc
open Go Go.Pf
theorem yML {h l y:Int} (hh:U64 h) (hl:U64 l) (hy:U64 y) (h0:0<y) {K:Int→Prop}
   (k:K ((h*18446744073709551616+l) % y)):yjr h l y K:=by
 unfold yjr yvJ
 have b3:(!(decide (y=(0:Int))))=true:=by rw [decide_eq_false (by omega)];rfl
 have a1:=Int.emod_nonneg h (show y≠0 by omega)
 have a2:=Int.emod_lt_of_pos h h0
 have hh':=hh
 unfold U64 at hh hy
 rw [b3,yaA,tmodn hh.1]
 refine yHJ ⟨a1,by omega⟩ hl ⟨by omega,by omega⟩ a2 ?_
 have e:(h % y*18446744073709551616+l) % y=(h*18446744073709551616+l) % y:=by
   rw [Int.add_emod,Int.mul_emod,Int.emod_emod,← Int.mul_emod,← Int.add_emod]
 rw [e]
 exact k
def outS (s:Bool) (a b:Int) (K:Int→Int→Int→Prop):Prop :=
 if a≤1000000000000000000∧b≤1000000000000000000 then K (if s then -a else a) b 0 else K 0 0 16
theorem ytP {s:Bool} {a b:Int} (ha:0≤a) (hb:0≤b) (K:Int→Int→Int→Prop):ycd s a b K=outS s a b K:=by
 unfold ycd ymn outS
 by_cases h:a≤1000000000000000000∧b≤1000000000000000000
 · have e:decide ((if b>a then b else a)>(1000000000000000000:Int))=false:=by
     refine decide_eq_false ?_
     split <;> omega
   have w1:IntKind.i64.wrap a=a:=wi64 ⟨by omega,by omega⟩
   have w2:IntKind.i64.wrap b=b:=wi64 ⟨by omega,by omega⟩
   have w3:IntKind.i64.wrap (0-a)=-a:=by rw [wi64 ⟨by omega,by omega⟩];omega
   rw [e,yab,if_pos h,w1,w2,w3]
   cases s
   · rfl
   · rfl
 · have e:decide ((if b>a then b else a)>(1000000000000000000:Int))=true:=by
     refine decide_eq_true ?_
     split <;> omega
   rw [e,yah,if_neg h]
theorem Make_of {n d:Int} (hn:I64 n) (hd:I64 d) {K:Int→Int→Int→Prop}
   (k:if d=0 then K 0 0 18 else outS (decide (n<0) != decide (d<0)) ((n.natAbs / Nat.gcd n.natAbs d.natAbs:Nat):Int) ((d.natAbs / Nat.gcd n.natAbs d.natAbs:Nat):Int) K):yal n d K:=by
 unfold yal yps
 by_cases h:d=0
 · rw [if_pos h] at k
   have:(d ==(0:Int))=true:=beq_iff_eq.2 h
   rw [this,yah]
   exact k
 · rw [if_neg h] at k
   have:(d ==(0:Int))=false:=beq_eq_false_iff_ne.2 h
   rw [this,yab,ylK hn,ylK hd]
   refine yze _ _ _ ?_
   have gp:0<Nat.gcd n.natAbs d.natAbs:=Nat.gcd_pos_of_pos_right _ (by omega)
   have b3:(!(decide (((Nat.gcd n.natAbs d.natAbs:Nat):Int)=(0:Int))))=true:=by rw [decide_eq_false (by omega)];rfl
   unfold I64 at hn hd
   have u1:n.natAbs / Nat.gcd n.natAbs d.natAbs≤n.natAbs:=Nat.div_le_self _ _
   have u2:d.natAbs / Nat.gcd n.natAbs d.natAbs≤d.natAbs:=Nat.div_le_self _ _
   rw [b3,yaA,yaA,tdivn (by omega),tdivn (by omega),← Int.natCast_ediv,← Int.natCast_ediv]
   generalize n.natAbs / Nat.gcd n.natAbs d.natAbs=A at *
   generalize d.natAbs / Nat.gcd n.natAbs d.natAbs=B at *
   rw [wu64 (n:=(A:Int)) ⟨by omega,by omega⟩,wu64 (n:=(B:Int)) ⟨by omega,by omega⟩,ytP (by omega) (by omega)]
   exact k
end Go.Pf.Vc
namespace Go.Pf.Vc
open Go Go.Pf
def numM (a c:Int) (b d:Int):Nat:=(a.natAbs / Nat.gcd a.natAbs d.natAbs)*(c.natAbs / Nat.gcd c.natAbs b.natAbs)
def denM (a c:Int) (b d:Int):Nat:=(b.natAbs / Nat.gcd c.natAbs b.natAbs)*(d.natAbs / Nat.gcd a.natAbs d.natAbs)
theorem yJB {a b c d:Int} (ha:I64 a) (hb:I64 b) (hc:I64 c) (hd:I64 d) {K:Int→Int→Int→Prop}
   (k:if chk2 a b c d=0 then outS (decide (a<0) != decide (c<0)) (numM a c b d) (denM a c b d) K else K 0 0 (chk2 a b c d)):ybr a b c d K:=by
 unfold ybr yqH
 refine yts ha hb hc hd ?_
 by_cases h:chk2 a b c d=0
 · rw [if_pos h] at k
   have:(chk2 a b c d !=(0:Int))=false:=by rw [h];rfl
   rw [this,yab,ylK ha,ylK hc]
   obtain ⟨⟨b1,b2,a1,a2,_⟩,d1,d2,c1,c2,_⟩:=yfp.1 h
   have wb:IntKind.u64.wrap b=((b.natAbs:Nat):Int):=by rw [wu64 ⟨by omega,by omega⟩];omega
   have wd:IntKind.u64.wrap d=((d.natAbs:Nat):Int):=by rw [wu64 ⟨by omega,by omega⟩];omega
   rw [wb,wd]
   refine yze _ _ _ (yze _ _ _ ?_)
   unfold numM denM at k
   have g1:0<Nat.gcd a.natAbs d.natAbs:=Nat.gcd_pos_of_pos_right _ (by omega)
   have g2:0<Nat.gcd c.natAbs b.natAbs:=Nat.gcd_pos_of_pos_right _ (by omega)
   obtain ⟨g3,h3⟩:∃ g,g=Nat.gcd a.natAbs d.natAbs:=⟨_,rfl⟩
   obtain ⟨g4,h4⟩:∃ g,g=Nat.gcd c.natAbs b.natAbs:=⟨_,rfl⟩
   rw [← h3,← h4] at k ⊢
   rw [← h3] at g1;rw [← h4] at g2
   have n3:(!(decide ((g3:Int)=(0:Int))))=true:=by rw [decide_eq_false (by omega)];rfl
   have n4:(!(decide ((g4:Int)=(0:Int))))=true:=by rw [decide_eq_false (by omega)];rfl
   rw [n3,n4,yaA,yaA,tdivn (by omega),tdivn (by omega),tdivn (by omega),tdivn (by omega),← Int.natCast_ediv,← Int.natCast_ediv,← Int.natCast_ediv,← Int.natCast_ediv]
   have q1:a.natAbs / g3≤a.natAbs:=Nat.div_le_self _ _
   have q2:c.natAbs / g4≤c.natAbs:=Nat.div_le_self _ _
   have q3:b.natAbs / g4≤b.natAbs:=Nat.div_le_self _ _
   have q4:d.natAbs / g3≤d.natAbs:=Nat.div_le_self _ _
   generalize a.natAbs / g3=A at *
   generalize c.natAbs / g4=C at *
   generalize b.natAbs / g4=B at *
   generalize d.natAbs / g3=D at *
   rw [wu64 (n:=(A:Int)) ⟨by omega,by omega⟩,wu64 (n:=(C:Int)) ⟨by omega,by omega⟩,wu64 (n:=(B:Int)) ⟨by omega,by omega⟩,wu64 (n:=(D:Int)) ⟨by omega,by omega⟩,
     yoI ⟨by omega,by omega⟩ ⟨by omega,by omega⟩,yaA,yaA,yoI ⟨by omega,by omega⟩ ⟨by omega,by omega⟩]
   have m1:A*C≤1000000000000000000*1000000000000000000:=Nat.mul_le_mul (by omega) (by omega)
   have m2:B*D≤1000000000000000000*1000000000000000000:=Nat.mul_le_mul (by omega) (by omega)
   rw [← Int.natCast_mul,← Int.natCast_mul]
   generalize A*C=M at *
   generalize B*D=N at *
   have wm:IntKind.u64.wrap ((M:Int) / 18446744073709551616+(N:Int) / 18446744073709551616)=(M:Int) / 18446744073709551616+(N:Int) / 18446744073709551616:=wu64 ⟨by omega,by omega⟩
   rw [wm]
   by_cases hb:(M:Int) / 18446744073709551616+(N:Int) / 18446744073709551616>0
   · rw [decide_eq_true hb,yah]
     unfold outS at k
     rw [if_neg (by omega)] at k
     exact k
   · rw [decide_eq_false hb,yab]
     have eM:(M:Int) % 18446744073709551616=M:=by omega
     have eN:(N:Int) % 18446744073709551616=N:=by omega
     rw [eM,eN]
     by_cases h0:(M:Int)>0
     · rw [decide_eq_true h0,yah,ytP (by omega) (by omega)]
       exact k
     · rw [decide_eq_false h0,yab,ytP (by omega) (by omega)]
       have hz:M=0:=by omega
       subst hz
       unfold outS at k ⊢
       by_cases hN:(N:Int)≤1000000000000000000
       · rw [if_pos ⟨by omega,hN⟩] at k ⊢
         have e:(if (decide (a<0) != decide (c<0))=true then -((0:Nat):Int) else ((0:Nat):Int))=0:=by split <;> rfl
         rw [e] at k
         exact k
       · rw [if_neg (by omega)] at k ⊢
         exact k
 · rw [if_neg h] at k
   have:(chk2 a b c d !=(0:Int))=true:=by rw [bne_iff_ne];exact h
   rw [this,yah]
   exact k
theorem RV.swap {c d:Int} (h:RV c d) (h0:0<c):RV d c:=by
 obtain ⟨d1,d2,c1,c2,g⟩:=h
 exact ⟨by omega,c2,by omega,d2,by rw [Nat.gcd_comm];exact g⟩
theorem RV.swapn {c d:Int} (h:RV c d) (h0:c<0):RV (-d) (-c):=by
 obtain ⟨d1,d2,c1,c2,g⟩:=h
 exact ⟨by omega,by omega,by omega,by omega,by rw [Int.natAbs_neg,Int.natAbs_neg,Nat.gcd_comm];exact g⟩
theorem yPn {a b c d:Int} (ha:I64 a) (hb:I64 b) (hc:I64 c) (hd:I64 d) {K:Int→Int→Int→Prop}
   (k:if chk2 a b c d=0 then (if c=0 then K 0 0 18 else outS (decide (a<0) != decide (c<0)) (numM a d b c) (denM a d b c) K) else K 0 0 (chk2 a b c d)):yav a b c d K:=by
 unfold yav yqI
 refine yts ha hb hc hd ?_
 by_cases h:chk2 a b c d=0
 · rw [if_pos h] at k
   have:(chk2 a b c d !=(0:Int))=false:=by rw [h];rfl
   rw [this,yab]
   obtain ⟨hab,hcd⟩:=yfp.1 h
   obtain ⟨d1,d2,c1,c2,_⟩:=id hcd
   by_cases h0:c=0
   · rw [if_pos h0] at k
     have:(c ==(0:Int))=true:=beq_iff_eq.2 h0
     rw [this,yah]
     exact k
   · rw [if_neg h0] at k
     have:(c ==(0:Int))=false:=beq_eq_false_iff_ne.2 h0
     rw [this,yab]
     by_cases hn:c<0
     · rw [decide_eq_true hn] at k
       rw [decide_eq_true hn,yah,wi64 (n:=0-d) ⟨by omega,by omega⟩,wi64 (n:=0-c) ⟨by omega,by omega⟩,Int.zero_sub,Int.zero_sub]
       have e:chk2 a b (-d) (-c)=0:=yfp.2 ⟨hab,hcd.swapn hn⟩
       refine yJB ha hb ⟨by omega,by omega⟩ ⟨by omega,by omega⟩ ?_
       rw [if_pos e,decide_eq_true (show -d<0 by omega)]
       unfold numM denM at k ⊢
       rw [Int.natAbs_neg,Int.natAbs_neg]
       exact k
     · rw [decide_eq_false hn] at k
       rw [decide_eq_false hn,yab]
       have e:chk2 a b d c=0:=yfp.2 ⟨hab,hcd.swap (by omega)⟩
       refine yJB ha hb hd hc ?_
       rw [if_pos e,decide_eq_false (show ¬d<0 by omega)]
       exact k
 · rw [if_neg h] at k
   have:(chk2 a b c d !=(0:Int))=true:=by rw [bne_iff_ne];exact h
   rw [this,yah]
   exact k
end Go.Pf.Vc
namespace Go.Pf.Vc
open Go Go.Pf
theorem yOm {s:Bool} {hi lo p1 p3:Int} {g:Nat} (hh:U64 hi) (hl:U64 lo) (hg:0<g) (g1:(g:Int)≤1000000000000000000)
    (h1:0≤p1∧p1≤1000000000000000000) (h3:0≤p3∧p3≤1000000000000000000) {K:Int→Int→Int→Prop}
    (k:outS s (((hi*18446744073709551616+lo).toNat / Nat.gcd (hi*18446744073709551616+lo).toNat g:Nat):Int)
      (((p1.toNat / g)*(p3.toNat / Nat.gcd (hi*18446744073709551616+lo).toNat g):Nat):Int) K) :
    (yjr hi lo (g:Int) (fun (b:Int) =>
 (ycj b (g:Int) (fun (a:Int) =>
 (cbr (decide (hi≥a))
 (K (0:Int) (0:Int) (16:Int))
 (yg1 hi lo a (fun (c:Int) (_:Int) =>
 (asr (!(decide ((g:Int)=(0:Int))))
 (asr (!(decide (a=(0:Int))))
 (yfg (IntKind.u64.wrap (Int.tdiv (IntKind.u64.wrap p1) (g:Int))) (IntKind.u64.wrap (Int.tdiv (IntKind.u64.wrap p3) a)) (fun (d:Int) (e:Int) =>
 (cbr (decide (d>(0:Int)))
 (K (0:Int) (0:Int) (16:Int))
 (ycd s c e (fun (f:Int) (h:Int) (i:Int) =>
 (K f h i))))))))))))))):=by
  unfold U64 at hh hl
  obtain ⟨X,hX⟩:∃ X:Nat,X=(hi*18446744073709551616+lo).toNat:=⟨_,rfl⟩
  have eX:hi*18446744073709551616+lo=(X:Int):=by omega
  rw [← hX] at k
  refine yML hh hl ⟨by omega,by omega⟩ (by omega) ?_
  rw [eX,← Int.natCast_emod]
  refine yze _ _ _ ?_
  have eg:Nat.gcd (X % g) g=Nat.gcd X g:=by rw [Nat.gcd_comm,Nat.gcd_comm X,Nat.gcd_rec g X,Nat.gcd_comm]
  rw [eg]
  have gp:0<Nat.gcd X g:=Nat.gcd_pos_of_pos_right _ hg
  have gl:Nat.gcd X g≤g:=Nat.le_of_dvd hg (Nat.gcd_dvd_right _ _)
  generalize Nat.gcd X g=G at *
  by_cases hb:hi≥(G:Int)
  · rw [decide_eq_true hb,yah]
    unfold outS at k
    have:18446744073709551616≤X / G:=by
      rw [Nat.le_div_iff_mul_le gp]
      omega
    rw [if_neg (by omega)] at k
    exact k
  · rw [decide_eq_false hb,yab]
    refine yHJ hh hl ⟨by omega,by omega⟩ (by omega) ?_
    rw [eX]
    have n3:(!(decide ((g:Int)=(0:Int))))=true:=by rw [decide_eq_false (by omega)];rfl
    have n4:(!(decide ((G:Int)=(0:Int))))=true:=by rw [decide_eq_false (by omega)];rfl
    have e1:IntKind.u64.wrap p1=(p1.toNat:Int):=by rw [wu64 ⟨by omega,by omega⟩];omega
    have e3:IntKind.u64.wrap p3=(p3.toNat:Int):=by rw [wu64 ⟨by omega,by omega⟩];omega
    rw [n3,n4,yaA,yaA,e1,e3,tdivn (by omega),tdivn (by omega),← Int.natCast_ediv,← Int.natCast_ediv,← Int.natCast_ediv]
    have q1:p1.toNat / g≤p1.toNat:=Nat.div_le_self _ _
    have q3:p3.toNat / G≤p3.toNat:=Nat.div_le_self _ _
    generalize p1.toNat / g=A at *
    generalize p3.toNat / G=B at *
    generalize X / G=N at *
    rw [wu64 (n:=(A:Int)) ⟨by omega,by omega⟩,wu64 (n:=(B:Int)) ⟨by omega,by omega⟩,yoI ⟨by omega,by omega⟩ ⟨by omega,by omega⟩,← Int.natCast_mul]
    generalize A*B=D at *
    by_cases hd:((D:Int) / 18446744073709551616)>0
    · rw [decide_eq_true hd,yah]
      unfold outS at k
      rw [if_neg (by omega)] at k
      exact k
    · rw [decide_eq_false hd,yab]
      have eD:(D:Int) % 18446744073709551616=D:=by omega
      rw [eD,ytP (by omega) (by omega)]
      exact k
end Go.Pf.Vc
namespace Go.Pf.Vc
open Go Go.Pf
theorem yHK {p q c:Int} {K:Int→Int→Prop} (hc:c.toNat≤1) (k:K (((p.toNat+q.toNat+c.toNat) % 18446744073709551616:Nat):Int) (((p.toNat+q.toNat+c.toNat) / 18446744073709551616:Nat):Int)):ykB p q c K:=by
 unfold ykB
 rw [decide_eq_true hc,yaA]
 exact k
theorem yHL {p q c:Int} {K:Int→Int→Prop} (hc:c.toNat≤1) (k:K (((p.toNat+18446744073709551616-q.toNat-c.toNat) % 18446744073709551616:Nat):Int) ((if q.toNat+c.toNat≤p.toNat then 0 else 1:Nat):Int)):ykC p q c K:=by
 unfold ykC
 rw [decide_eq_true hc,yaA]
 have e:(bif Nat.ble (q.toNat+c.toNat) p.toNat then 0 else 1:Nat)=(if q.toNat+c.toNat≤p.toNat then 0 else 1:Nat):=by
   by_cases h:q.toNat+c.toNat≤p.toNat
   · rw [if_pos h,show Nat.ble (q.toNat+c.toNat) p.toNat=true from Nat.ble_eq_true_of_le h];rfl
   · rw [if_neg h]
     cases hb:Nat.ble (q.toNat+c.toNat) p.toNat
     · rfl
     · exact absurd (Nat.le_of_ble_eq_true hb) h
 rw [e]
 exact k
theorem yMM {X Y:Int} (hx:0≤X) (hy:0≤Y) (hs:X+Y<340282366920938463463374607431768211456) {F:Int→Int→Int→Int→Prop}
   (h:∀ c1 c2,F ((X+Y) % 18446744073709551616) c1 ((X+Y) / 18446744073709551616) c2) :
   ykB (X % 18446744073709551616) (Y % 18446744073709551616) 0 (fun lo c1=>ykB (X / 18446744073709551616) (Y / 18446744073709551616) c1 (fun hi c2=>F lo c1 hi c2)):=by
 obtain ⟨x,rfl⟩:∃ x:Nat,X=x:=⟨X.toNat,by omega⟩
 obtain ⟨y,rfl⟩:∃ y:Nat,Y=y:=⟨Y.toNat,by omega⟩
 refine yHK (by decide) (yHK (by omega) ?_)
 have e1:(((((x:Int) % 18446744073709551616).toNat+((y:Int) % 18446744073709551616).toNat+(0:Int).toNat) % 18446744073709551616:Nat):Int)=((x:Int)+y) % 18446744073709551616:=by omega
 have e2:(((((x:Int) / 18446744073709551616).toNat+((y:Int) / 18446744073709551616).toNat+(((((x:Int) % 18446744073709551616).toNat+((y:Int) % 18446744073709551616).toNat+(0:Int).toNat) / 18446744073709551616:Nat):Int).toNat) % 18446744073709551616:Nat):Int)=((x:Int)+y) / 18446744073709551616:=by omega
 rw [e1,e2]
 exact h _ _
theorem yx1 {X Y:Int} (hy:0≤Y) (hxy:Y≤X) (hs:X<340282366920938463463374607431768211456) {F:Int→Int→Int→Int→Prop}
   (h:∀ c1 c2,F ((X-Y) % 18446744073709551616) c1 ((X-Y) / 18446744073709551616) c2) :
   ykC (X % 18446744073709551616) (Y % 18446744073709551616) 0 (fun lo c1=>ykC (X / 18446744073709551616) (Y / 18446744073709551616) c1 (fun hi c2=>F lo c1 hi c2)):=by
 obtain ⟨x,rfl⟩:∃ x:Nat,X=x:=⟨X.toNat,by omega⟩
 obtain ⟨y,rfl⟩:∃ y:Nat,Y=y:=⟨Y.toNat,by omega⟩
 refine yHL (by decide) (yHL (by split <;> omega) ?_)
 have e1:(((((x:Int) % 18446744073709551616).toNat+18446744073709551616-((y:Int) % 18446744073709551616).toNat-(0:Int).toNat) % 18446744073709551616:Nat):Int)=((x:Int)-y) % 18446744073709551616:=by omega
 rw [e1]
 by_cases hb:((y:Int) % 18446744073709551616).toNat+(0:Int).toNat≤((x:Int) % 18446744073709551616).toNat
 · rw [if_pos hb]
   have e2:(((((x:Int) / 18446744073709551616).toNat+18446744073709551616-((y:Int) / 18446744073709551616).toNat-((0:Nat):Int).toNat) % 18446744073709551616:Nat):Int)=((x:Int)-y) / 18446744073709551616:=by omega
   rw [e2]
   exact h _ _
 · rw [if_neg hb]
   have e2:(((((x:Int) / 18446744073709551616).toNat+18446744073709551616-((y:Int) / 18446744073709551616).toNat-((1:Nat):Int).toNat) % 18446744073709551616:Nat):Int)=((x:Int)-y) / 18446744073709551616:=by omega
   rw [e2]
   exact h _ _
end Go.Pf.Vc
namespace Go.Pf.Vc
open Go Go.Pf
def outA (s:Bool) (Z p1 p3:Int) (g:Nat) (K:Int→Int→Int→Prop):Prop :=
 if Z=0 then K 0 1 0 else outS s ((Z.toNat / Nat.gcd Z.toNat g:Nat):Int) (((p1.toNat / g)*(p3.toNat / Nat.gcd Z.toNat g):Nat):Int) K
theorem yCs {s:Bool} {Z p1 p3:Int} {g:Nat} (hz:0≤Z) (hz2:Z<340282366920938463463374607431768211456) (hg:0<g) (g1:(g:Int)≤1000000000000000000)
    (h1:0≤p1∧p1≤1000000000000000000) (h3:0≤p3∧p3≤1000000000000000000) {K:Int→Int→Int→Prop}
    (k:outA s Z p1 p3 g K) :
    cbr (Z / 18446744073709551616 ==(0:Int)) (cbr (Z % 18446744073709551616 ==(0:Int)) (K 0 1 0) (yjr (Z / 18446744073709551616) (Z % 18446744073709551616) (g:Int) (fun (b:Int) =>
 (ycj b (g:Int) (fun (a:Int) =>
 (cbr (decide ((Z / 18446744073709551616)≥a))
 (K (0:Int) (0:Int) (16:Int))
 (yg1 (Z / 18446744073709551616) (Z % 18446744073709551616) a (fun (c:Int) (_:Int) =>
 (asr (!(decide ((g:Int)=(0:Int))))
 (asr (!(decide (a=(0:Int))))
 (yfg (IntKind.u64.wrap (Int.tdiv (IntKind.u64.wrap p1) (g:Int))) (IntKind.u64.wrap (Int.tdiv (IntKind.u64.wrap p3) a)) (fun (d:Int) (e:Int) =>
 (cbr (decide (d>(0:Int)))
 (K (0:Int) (0:Int) (16:Int))
 (ycd s c e (fun (f:Int) (h:Int) (i:Int) =>
 (K f h i)))))))))))))))) (yjr (Z / 18446744073709551616) (Z % 18446744073709551616) (g:Int) (fun (b:Int) =>
 (ycj b (g:Int) (fun (a:Int) =>
 (cbr (decide ((Z / 18446744073709551616)≥a))
 (K (0:Int) (0:Int) (16:Int))
 (yg1 (Z / 18446744073709551616) (Z % 18446744073709551616) a (fun (c:Int) (_:Int) =>
 (asr (!(decide ((g:Int)=(0:Int))))
 (asr (!(decide (a=(0:Int))))
 (yfg (IntKind.u64.wrap (Int.tdiv (IntKind.u64.wrap p1) (g:Int))) (IntKind.u64.wrap (Int.tdiv (IntKind.u64.wrap p3) a)) (fun (d:Int) (e:Int) =>
 (cbr (decide (d>(0:Int)))
 (K (0:Int) (0:Int) (16:Int))
 (ycd s c e (fun (f:Int) (h:Int) (i:Int) =>
 (K f h i))))))))))))))):=by
  unfold outA at k
  have eZ:Z / 18446744073709551616*18446744073709551616+Z % 18446744073709551616=Z:=by omega
  by_cases h0:Z=0
  · rw [if_pos h0] at k
    subst h0
    have e1:((0:Int) / 18446744073709551616 ==(0:Int))=true:=by decide
    have e2:((0:Int) % 18446744073709551616 ==(0:Int))=true:=by decide
    rw [e1,yah,e2,yah]
    exact k
  · rw [if_neg h0] at k
    have t:=yOm (s:=s) (hi:=Z / 18446744073709551616) (lo:=Z % 18446744073709551616) (p1:=p1) (p3:=p3) (g:=g) (K:=K) ⟨by omega,by omega⟩ ⟨by omega,by omega⟩ hg g1 h1 h3 (by rw [eZ];exact k)
    cases h4:(Z / 18446744073709551616 ==(0:Int))
    · rw [yab];exact t
    · rw [yah]
      cases h2:(Z % 18446744073709551616 ==(0:Int))
      · rw [yab];exact t
      · have:=beq_iff_eq.1 h2
        have:=beq_iff_eq.1 h4
        exact absurd (show Z=0 by omega) h0
theorem ywk {s s':Bool} {Z Z' p1 p3:Int} {g:Nat} {K:Int→Int→Int→Prop} (k:outA s' Z' p1 p3 g K) (hz:Z=Z') (hs:Z≠0→s=s'):outA s Z p1 p3 g K:=by
 subst hz
 unfold outA at k ⊢
 by_cases h:Z=0
 · rw [if_pos h] at k ⊢;exact k
 · rw [if_neg h] at k ⊢;rw [hs h];exact k
theorem yMN {a b c d:Int} (ha:I64 a) (hb:I64 b) (hc:I64 c) (hd:I64 d) {K:Int→Int→Int→Prop}
   (k:if chk2 a b c d=0 then outA (decide (a*(d / (Nat.gcd b.natAbs d.natAbs:Nat))+c*(b / (Nat.gcd b.natAbs d.natAbs:Nat))<0))
       ((a*(d / (Nat.gcd b.natAbs d.natAbs:Nat))+c*(b / (Nat.gcd b.natAbs d.natAbs:Nat))).natAbs:Int) b d (Nat.gcd b.natAbs d.natAbs) K
     else K 0 0 (chk2 a b c d)):yaD a b c d K:=by
 unfold yaD yqF
 refine yts ha hb hc hd ?_
 by_cases h:chk2 a b c d=0
 · rw [if_pos h] at k
   have:(chk2 a b c d !=(0:Int))=false:=by rw [h];rfl
   rw [this,yab]
   obtain ⟨⟨b1,b2,a1,a2,_⟩,d1,d2,c1,c2,_⟩:=yfp.1 h
   have wb:IntKind.u64.wrap b=((b.natAbs:Nat):Int):=by rw [wu64 ⟨by omega,by omega⟩];omega
   have wd:IntKind.u64.wrap d=((d.natAbs:Nat):Int):=by rw [wu64 ⟨by omega,by omega⟩];omega
   have g1:0<Nat.gcd b.natAbs d.natAbs:=Nat.gcd_pos_of_pos_right _ (by omega)
   have g2:Nat.gcd b.natAbs d.natAbs≤d.natAbs:=Nat.le_of_dvd (by omega) (Nat.gcd_dvd_right _ _)
   have go:ycj (IntKind.u64.wrap b) (IntKind.u64.wrap d)=ycj ((b.natAbs:Nat):Int) ((d.natAbs:Nat):Int):=by rw [wb,wd]
   rw [go]
   refine yze _ _ _ ?_
   generalize Nat.gcd b.natAbs d.natAbs=g at *
   have n3:(!(decide ((g:Int)=(0:Int))))=true:=by rw [decide_eq_false (by omega)];rfl
   have q1:0≤b / (g:Int):=Int.ediv_nonneg (by omega) (by omega)
   have q2:0≤d / (g:Int):=Int.ediv_nonneg (by omega) (by omega)
   have q3:b / (g:Int)≤b:=Int.ediv_le_self _ (by omega)
   have q4:d / (g:Int)≤d:=Int.ediv_le_self _ (by omega)
   have ed:IntKind.u64.wrap (Int.tdiv (IntKind.u64.wrap d) (g:Int))=d / (g:Int):=by
     rw [wu64 (n:=d) ⟨by omega,by omega⟩,tdivn (by omega),wu64 ⟨by omega,by omega⟩]
   have eb:IntKind.u64.wrap (Int.tdiv (IntKind.u64.wrap b) (g:Int))=b / (g:Int):=by
     rw [wu64 (n:=b) ⟨by omega,by omega⟩,tdivn (by omega),wu64 ⟨by omega,by omega⟩]
   have ypV:∀ {c:Bool} {P:Prop},c=true→P→asr c P:=fun h p=>by rw [h,yaA];exact p
   rw [ylK ha]
   refine ypV n3 ?_
   rw [yoI (U64.abs ha) (by rw [ed];exact ⟨by omega,by omega⟩),ylK hc]
   refine ypV n3 ?_
   rw [yoI (U64.abs hc) (by rw [eb];exact ⟨by omega,by omega⟩)]
   obtain ⟨X,hX⟩:∃ X,X=((a.natAbs:Nat):Int)*IntKind.u64.wrap (Int.tdiv (IntKind.u64.wrap d) (g:Int)):=⟨_,rfl⟩
   obtain ⟨Y,hY⟩:∃ Y,Y=((c.natAbs:Nat):Int)*IntKind.u64.wrap (Int.tdiv (IntKind.u64.wrap b) (g:Int)):=⟨_,rfl⟩
   rw [← hX,← hY]
   rw [ed] at hX;rw [eb] at hY
   have X0:0≤X:=by rw [hX];exact Int.mul_nonneg (by omega) q2
   have Y0:0≤Y:=by rw [hY];exact Int.mul_nonneg (by omega) q1
   have X1:X≤1000000000000000000*1000000000000000000:=by rw [hX];exact Int.mul_le_mul (by omega) (by omega) q2 (by omega)
   have Y1:Y≤1000000000000000000*1000000000000000000:=by rw [hY];exact Int.mul_le_mul (by omega) (by omega) q1 (by omega)
   have ax:a*(d / (g:Int))=if a<0 then -X else X:=by
     split
     · rw [hX,show ((a.natAbs:Nat):Int)=-a by omega,Int.neg_mul,Int.neg_neg]
     · rw [hX,show ((a.natAbs:Nat):Int)=a by omega]
   have cy:c*(b / (g:Int))=if c<0 then -Y else Y:=by
     split
     · rw [hY,show ((c.natAbs:Nat):Int)=-c by omega,Int.neg_mul,Int.neg_neg]
     · rw [hY,show ((c.natAbs:Nat):Int)=c by omega]
   rw [ax,cy] at k
   clear hX hY ax cy ed eb n3
   by_cases hs:decide (a<0)=decide (c<0)
   · have e:(decide (a<0) == decide (c<0))=true:=beq_iff_eq.2 hs
     rw [e,yah]
     refine yMM X0 Y0 (by omega) (fun c1 c2=>?_)
     refine yCs (by omega) (by omega) g1 (by omega) ⟨by omega,b2⟩ ⟨by omega,d2⟩ (ywk k ?_ ?_)
     · by_cases h1:a<0
       · have h2:c<0:=by simpa [h1] using hs.symm
         rw [if_pos h1,if_pos h2];omega
       · have h2:¬c<0:=by simpa [h1] using hs.symm
         rw [if_neg h1,if_neg h2];omega
     · intro h0
       by_cases h1:a<0
       · have h2:c<0:=by simpa [h1] using hs.symm
         rw [if_pos h1,if_pos h2,decide_eq_true h1,decide_eq_true (by omega)]
       · have h2:¬c<0:=by simpa [h1] using hs.symm
         rw [if_neg h1,if_neg h2,decide_eq_false h1,decide_eq_false (by omega)]
   · have e:(decide (a<0) == decide (c<0))=false:=beq_eq_false_iff_ne.2 hs
     rw [e,yab]
     have h12:(a<0∧¬c<0)∨(¬a<0∧c<0):=by
       by_cases h1:a<0 <;> by_cases h2:c<0 <;> simp [h1,h2] at hs ⊢
     by_cases hlt:X<Y
     · have kk:outA (!decide (a<0)) (Y-X) b d g K:=by
         refine ywk k ?_ ?_
         · rcases h12 with ⟨h1,h2⟩ | ⟨h1,h2⟩
           · rw [if_pos h1,if_neg h2];omega
           · rw [if_neg h1,if_pos h2];omega
         · intro h0
           rcases h12 with ⟨h1,h2⟩ | ⟨h1,h2⟩
           · rw [if_pos h1,if_neg h2,decide_eq_true h1,decide_eq_false (by omega)];rfl
           · rw [if_neg h1,if_pos h2,decide_eq_false h1,decide_eq_true (by omega)];rfl
       by_cases h1:X / 18446744073709551616<Y / 18446744073709551616
       · rw [decide_eq_true h1,yah]
         refine yx1 X0 (by omega) (by omega) (fun c1 c2=>?_)
         exact yCs (by omega) (by omega) g1 (by omega) ⟨by omega,b2⟩ ⟨by omega,d2⟩ kk
       · have e1:(X / 18446744073709551616 == Y / 18446744073709551616)=true:=beq_iff_eq.2 (by omega)
         rw [decide_eq_false h1,yab,e1,yah,decide_eq_true (show X % 18446744073709551616<Y % 18446744073709551616 by have:=beq_iff_eq.1 e1;omega),yah]
         refine yx1 X0 (by omega) (by omega) (fun c1 c2=>?_)
         exact yCs (by omega) (by omega) g1 (by omega) ⟨by omega,b2⟩ ⟨by omega,d2⟩ kk
     · have kk:outA (decide (a<0)) (X-Y) b d g K:=by
         refine ywk k ?_ ?_
         · rcases h12 with ⟨h1,h2⟩ | ⟨h1,h2⟩
           · rw [if_pos h1,if_neg h2];omega
           · rw [if_neg h1,if_pos h2];omega
         · intro h0
           rcases h12 with ⟨h1,h2⟩ | ⟨h1,h2⟩
           · rw [if_pos h1,if_neg h2,decide_eq_true h1,decide_eq_true (by omega)]
           · rw [if_neg h1,if_pos h2,decide_eq_false h1,decide_eq_false (by omega)]
       have h1:¬X / 18446744073709551616<Y / 18446744073709551616:=by omega
       rw [decide_eq_false h1,yab]
       cases e1:(X / 18446744073709551616 == Y / 18446744073709551616)
       · rw [yab]
         refine yx1 Y0 (by omega) (by omega) (fun c1 c2=>?_)
         exact yCs (by omega) (by omega) g1 (by omega) ⟨by omega,b2⟩ ⟨by omega,d2⟩ kk
       · rw [yah,decide_eq_false (show ¬X % 18446744073709551616<Y % 18446744073709551616 by have:=beq_iff_eq.1 e1;omega),yab]
         refine yx1 Y0 (by omega) (by omega) (fun c1 c2=>?_)
         exact yCs (by omega) (by omega) g1 (by omega) ⟨by omega,b2⟩ ⟨by omega,d2⟩ kk
 · rw [if_neg h] at k
   have:(chk2 a b c d !=(0:Int))=true:=by rw [bne_iff_ne];exact h
   rw [this,yah]
   exact k
end Go.Pf.Vc
namespace Go.Pf.Vc
open Go Go.Pf
theorem RV.neg {c d:Int} (h:RV c d):RV (-c) d:=by
 obtain ⟨d1,d2,c1,c2,g⟩:=h
 exact ⟨d1,d2,by omega,by omega,by rw [Int.natAbs_neg];exact g⟩
theorem yPo {a b c d:Int} (ha:I64 a) (hb:I64 b) (hc:I64 c) (hd:I64 d) {K:Int→Int→Int→Prop}
   (k:if chk2 a b c d=0 then outA (decide (a*(d / (Nat.gcd b.natAbs d.natAbs:Nat))+-c*(b / (Nat.gcd b.natAbs d.natAbs:Nat))<0))
       ((a*(d / (Nat.gcd b.natAbs d.natAbs:Nat))+-c*(b / (Nat.gcd b.natAbs d.natAbs:Nat))).natAbs:Int) b d (Nat.gcd b.natAbs d.natAbs) K
     else K 0 0 (chk2 a b c d)):ybE a b c d K:=by
 unfold ybE yqG
 refine yts ha hb hc hd ?_
 by_cases h:chk2 a b c d=0
 · rw [if_pos h] at k
   have:(chk2 a b c d !=(0:Int))=false:=by rw [h];rfl
   rw [this,yab]
   obtain ⟨hab,hcd⟩:=yfp.1 h
   obtain ⟨d1,d2,c1,c2,_⟩:=id hcd
   rw [wi64 (n:=0-c) ⟨by omega,by omega⟩,Int.zero_sub]
   refine yMN ha hb ⟨by omega,by omega⟩ hd ?_
   rw [if_pos (yfp.2 ⟨hab,hcd.neg⟩)]
   exact k
 · rw [if_neg h] at k
   have:(chk2 a b c d !=(0:Int))=true:=by rw [bne_iff_ne];exact h
   rw [this,yah]
   exact k
end Go.Pf.Vc
namespace Go.Pf.Vc
open Go Go.Pf
def ints (l:List Int):List PV:=l.map (PV.int .i64)
theorem ybK (l:List Int):(ints l).length=l.length:=List.length_map ..
theorem yKs {l:List Int} {i:Nat} (h:i<l.length):List.getD (ints l) i .nils=.int .i64 (l.getD i 0):=by
 unfold ints
 rw [List.getD_eq_getElem?_getD,List.getD_eq_getElem?_getD,List.getElem?_map,List.getElem?_eq_getElem h]
 rfl
theorem ydB {l:List Int} {i:Nat} (h:i<l.length):intOfV (List.getD (ints l) i .nils)=l.getD i 0:=by
 rw [yKs h];rfl
theorem ylh {l:List Int} {i:Nat} (h:i<l.length):conf (.one (.i .i64)) (List.getD (ints l) i .nils)=true:=by
 rw [yKs h];rfl
theorem ypV {c:Bool} {P:Prop} (h:c=true) (p:P):asr c P:=by rw [h,yaA];exact p
theorem asr_d {c:Prop} [Decidable c] {P:Prop} (h:c) (p:P):asr (decide c) P:=ypV (decide_eq_true h) p
end Go.Pf.Vc
namespace Go.Pf.Vc
open Go Go.Pf
theorem cbr_d {c:Prop} [Decidable c] {P Q:Prop} (h:c) (p:P):cbr (decide c) P Q:=by rw [decide_eq_true h,yah];exact p
theorem cbr_n {c:Prop} [Decidable c] {P Q:Prop} (h:¬c) (q:Q):cbr (decide c) P Q:=by rw [decide_eq_false h,yab];exact q
def mnf (m x:Int):Int:=if x<m then x else m
theorem yMO {l:List Int} (hl:l.length<9223372036854775807) (x0:List PV→Int→Int→Bool→Prop) :
   ∀ (rest:List Int) (i:Nat) (m:Int) (n:Nat),l.drop i=rest→i≤l.length→rest.length<n→x0 (ints l) (rest.foldl mnf m) (l.length:Int) false →
     yck x0 n (ints l) m (i:Int):=by
 intro rest
 induction rest with
 | nil =>
   intro i m n hd hi hn k
   have:i=l.length:=by
     have:=congrArg List.length hd
     rw [List.length_drop] at this
     have h2:([]:List Int).length=0:=rfl
     omega
   match n,hn with
   | n+1,_ =>
     unfold yck
     rw [ybK,this]
     exact cbr_n (by omega) k
 | cons x t ih =>
   intro i m n hd hi hn k
   have hlt:i<l.length:=by
     have:=congrArg List.length hd
     rw [List.length_drop,List.length_cons] at this
     omega
   have hx:l.getD i 0=x:=by
     have:=List.getElem_drop (xs:=l) (i:=i) (j:=0) (h:=by rw [hd];exact Nat.zero_lt_succ _)
     rw [List.getD_eq_getElem?_getD,List.getElem?_eq_getElem hlt]
     simp only [hd,List.getElem_cons_zero,Nat.add_zero] at this
     exact this.symm
   have ht:l.drop (i+1)=t:=by rw [← List.tail_drop,hd];rfl
   match n,hn with
   | n+1,hn =>
     unfold yck
     rw [ybK]
     refine cbr_d (by omega) ?_
     refine asr_d (by omega) (asr_d (by omega) (ypV (ylh (by omega)) ?_))
     rw [Int.toNat_natCast,ydB hlt,hx,wi64 (n:=(i:Int)+1) ⟨by omega,by omega⟩]
     exact ih (i+1) _ n ht (by omega) (by rw [List.length_cons] at hn;omega) k
theorem yPp {l:List Int} (hl:l.length<9223372036854775807) {x:Int} {t:List Int} (e:l=x::t) {K:Int→Prop} (k:K (t.foldl mnf x)):ydH (ints l) K:=by
 have h0:0<l.length:=by rw [e];exact Nat.zero_lt_succ _
 unfold ydH ykT
 rw [ybK]
 refine cbr_n (by omega) (asr_d (by omega) (ypV (ylh h0) ⟨l.length+1,?_⟩))
 have e0:l.getD 0 0=x:=by rw [e];rfl
 rw [ydB h0,e0]
 refine yMO hl _ t 1 x _ (by rw [e];rfl) (by omega) (by rw [e,List.length_cons];omega) ?_
 exact k
def mxf (m x:Int):Int:=if x>m then x else m
theorem yMP {l:List Int} (hl:l.length<9223372036854775807) (x0:List PV→Int→Int→Bool→Prop) :
   ∀ (rest:List Int) (i:Nat) (m:Int) (n:Nat),l.drop i=rest→i≤l.length→rest.length<n→x0 (ints l) (rest.foldl mxf m) (l.length:Int) false →
     ycl x0 n (ints l) m (i:Int):=by
 intro rest
 induction rest with
 | nil =>
   intro i m n hd hi hn k
   have:i=l.length:=by
     have:=congrArg List.length hd
     rw [List.length_drop] at this
     have h2:([]:List Int).length=0:=rfl
     omega
   match n,hn with
   | n+1,_ =>
     unfold ycl
     rw [ybK,this]
     exact cbr_n (by omega) k
 | cons x t ih =>
   intro i m n hd hi hn k
   have hlt:i<l.length:=by
     have:=congrArg List.length hd
     rw [List.length_drop,List.length_cons] at this
     omega
   have hx:l.getD i 0=x:=by
     have:=List.getElem_drop (xs:=l) (i:=i) (j:=0) (h:=by rw [hd];exact Nat.zero_lt_succ _)
     rw [List.getD_eq_getElem?_getD,List.getElem?_eq_getElem hlt]
     simp only [hd,List.getElem_cons_zero,Nat.add_zero] at this
     exact this.symm
   have ht:l.drop (i+1)=t:=by rw [← List.tail_drop,hd];rfl
   match n,hn with
   | n+1,hn =>
     unfold ycl
     rw [ybK]
     refine cbr_d (by omega) ?_
     refine asr_d (by omega) (asr_d (by omega) (ypV (ylh (by omega)) ?_))
     rw [Int.toNat_natCast,ydB hlt,hx,wi64 (n:=(i:Int)+1) ⟨by omega,by omega⟩]
     exact ih (i+1) _ n ht (by omega) (by rw [List.length_cons] at hn;omega) k
theorem yMQ {l:List Int} (hl:l.length<9223372036854775807) {x:Int} {t:List Int} (e:l=x::t) {K:Int→Prop} (k:K (t.foldl mxf x)):ydI (ints l) K:=by
 have h0:0<l.length:=by rw [e];exact Nat.zero_lt_succ _
 unfold ydI ykW
 rw [ybK]
 refine cbr_n (by omega) (asr_d (by omega) (ypV (ylh h0) ⟨l.length+1,?_⟩))
 have e0:l.getD 0 0=x:=by rw [e];rfl
 rw [ydB h0,e0]
 refine yMP hl _ t 1 x _ (by rw [e];rfl) (by omega) (by rw [e,List.length_cons];omega) ?_
 exact k
end Go.Pf.Vc
namespace Go.Pf.Vc
open Go Go.Pf
def incr (l:List Int) (i:Nat):Prop:=∀ j,i≤j→j+1<l.length→l.getD j 0<l.getD (j+1) 0
theorem yJC {l:List Int} {p2:List PV} {p0:Int} (hl:l.length<9223372036854775807) (W1 W2:List PV→(Int→Prop)→Prop) (x0:Int→Prop) (x1:Int→List PV→List PV→Int→Int→Bool→Prop) :
   ∀ (r i n:Nat),i+r+1=l.length→r<n→(incr l i→x1 p0 (ints l) p2 ((l.length:Int)-1) ((l.length:Int)-1) false)→(¬incr l i→x0 8) →
     ydf W1 W2 x0 x1 n p0 (ints l) p2 ((l.length:Int)-1) (i:Int):=by
 intro r
 induction r with
 | zero =>
   intro i n hi hn k _
   match n,hn with
   | n+1,_ =>
     unfold ydf
     have e:(i:Int)=(l.length:Int)-1:=by omega
     refine cbr_n (by omega) ?_
     rw [e]
     exact k (fun j h1 h2=>by omega)
 | succ r ih =>
   intro i n hi hn k k0
   match n,hn with
   | n+1,hn =>
     unfold ydf
     rw [wi64 (n:=(i:Int)+1) ⟨by omega,by omega⟩,ybK]
     have e1:((i:Int)+1)=((i+1:Nat):Int):=by omega
     rw [e1,Int.toNat_natCast,Int.toNat_natCast]
     refine cbr_d (by omega) (asr_d (by omega) (asr_d (by omega) (ypV (ylh (by omega)) (asr_d (by omega) (asr_d (by omega) (ypV (ylh (by omega)) ?_))))))
     rw [ydB (by omega),ydB (by omega)]
     by_cases h:l.getD i 0≥l.getD (i+1) 0
     · exact cbr_d h (k0 fun hc=>absurd (hc i (Nat.le_refl _) (by omega)) (by omega))
     · refine cbr_n h (ih (i+1) n (by omega) (by omega) (fun hc=>k fun j h1 h2=>?_) (fun hc=>k0 fun hd=>hc fun j h1 h2=>hd j (by omega) h2))
       by_cases hj:j=i
       · subst hj;omega
       · exact hc j (by omega) h2
end Go.Pf.Vc
namespace Go.Pf.Vc
open Go Go.Pf
def small (q:Rat):Prop:=-1000000000000000000≤q.num∧q.num≤1000000000000000000∧(q.den:Int)≤1000000000000000000
theorem small.rv {q:Rat} (h:small q):RV q.num q.den:=by
 obtain ⟨h1,h2,h3⟩:=h
 have:=q.den_pos
 exact ⟨by omega,h3,h1,h2,q.reduced⟩
theorem yJD {n d:Int} (h:RV n d):∃ q:Rat,small q∧q.num=n∧(q.den:Int)=d:=by
 obtain ⟨h1,h2,h3,h4,h5⟩:=h
 refine ⟨⟨n,d.toNat,by omega,?_⟩,⟨h3,h4,by show ((d.toNat:Nat):Int)≤_;omega⟩,rfl,by show ((d.toNat:Nat):Int)=_;omega⟩
 have:d.natAbs=d.toNat:=by omega
 rw [this] at h5
 exact h5
theorem small.i1 {q:Rat} (h:small q):I64 q.num:=⟨by have:=h.1;omega,by have:=h.2.1;omega⟩
theorem small.i2 {q:Rat} (h:small q):I64 (q.den:Int):=⟨by omega,by have:=h.2.2;omega⟩
theorem yoJ {q r:Rat} (h:small q) (k:small r):chk2 q.num q.den r.num r.den=0:=yfp.2 ⟨h.rv,k.rv⟩
instance (q:Rat):Decidable (small q):=by unfold small;infer_instance
def fitK (q:Rat) (K:Int→Int→Int→Prop):Prop:=if small q then K q.num q.den 0 else K 0 0 16
theorem yCt {q:Rat} {s:Bool} {a b:Int} (ha:a=(q.num.natAbs:Int)) (hb:b=(q.den:Int)) (hs:q.num≠0→s=decide (q.num<0)) (K:Int→Int→Int→Prop):outS s a b K=fitK q K:=by
 unfold outS fitK
 subst ha hb
 by_cases h:small q
 · have h':=h
   obtain ⟨h1,h2,h3⟩:=h
   rw [if_pos (show _∧_ from ⟨by omega,h3⟩),if_pos h']
   have e:(if s=true then -((q.num.natAbs:Nat):Int) else ((q.num.natAbs:Nat):Int))=q.num:=by
     by_cases h0:q.num=0
     · rw [h0];cases s <;> rfl
     · rw [hs h0]
       by_cases h1:q.num<0
       · rw [decide_eq_true h1,if_pos rfl];omega
       · rw [decide_eq_false h1,if_neg (by simp)];omega
   rw [e]
 · rw [if_neg h,if_neg]
   intro h2
   exact h ⟨by omega,by omega,h2.2⟩
theorem yHM (x:Int) (g:Nat):(Int.tdiv x g).natAbs=x.natAbs / g:=by rw [Int.natAbs_tdiv,Int.natAbs_natCast];rfl
theorem yEA {x:Int} {g:Nat} (h:(g:Int)∣x) (hx:x≠0):decide (Int.tdiv x g<0)=decide (x<0):=by
 obtain ⟨k,rfl⟩:=h
 have hg:(g:Int)≠0:=fun e=>hx (by rw [e,Int.zero_mul])
 rw [Int.mul_tdiv_cancel_left _ hg]
 have h1:(g:Int)>0:=by have:=Int.natCast_nonneg g;omega
 have:(g:Int)*k<0↔k<0:=by
   constructor
   · intro h;refine Int.not_le.1 fun hk=>?_
     have:=Int.mul_nonneg (show 0≤(g:Int) by omega) hk
     omega
   · intro h;exact Int.mul_neg_of_pos_of_neg h1 h
 simp only [this]
theorem yLv (q r:Rat):(q*r).num=Int.tdiv q.num (Nat.gcd q.num.natAbs r.den)*Int.tdiv r.num (Nat.gcd r.num.natAbs q.den) ∧
   (q*r).den=(q.den / Nat.gcd r.num.natAbs q.den)*(r.den / Nat.gcd q.num.natAbs r.den):=by
 have e:q*r=Rat.mul q r:=rfl
 rw [e]
 delta Rat.mul
 constructor
 · simp only [Int.divExact_eq_tdiv]
 · simp only [Nat.divExact_eq_div]
theorem yqo (x:Int) (d:Nat):((Nat.gcd x.natAbs d:Nat):Int)∣x:=by
 rw [← Int.dvd_natAbs,Int.ofNat_dvd];exact Nat.gcd_dvd_left _ _
theorem yKt {x:Int} {g:Nat} (h:(g:Int)∣x) (hx:x≠0):Int.tdiv x g≠0:=by
 obtain ⟨k,rfl⟩:=h
 have hg:(g:Int)≠0:=fun e=>hx (by rw [e,Int.zero_mul])
 rw [Int.mul_tdiv_cancel_left _ hg]
 intro e;rw [e,Int.mul_zero] at hx;exact hx rfl
theorem yMR {x y:Int} (hx:x≠0) (hy:y≠0):decide (x*y<0)=(decide (x<0) != decide (y<0)):=by
 by_cases h1:x<0 <;> by_cases h2:y<0
 · have:=Int.mul_pos_of_neg_of_neg h1 h2
   simp [h1,h2];omega
 · have:=Int.mul_neg_of_neg_of_pos h1 (show 0<y by omega)
   simp [h1,h2];omega
 · have:=Int.mul_neg_of_pos_of_neg (show 0<x by omega) h2
   simp [h1,h2];omega
 · have:=Int.mul_pos (show 0<x by omega) (show 0<y by omega)
   simp [h1,h2];omega
theorem yKu (q r:Rat) (K:Int→Int→Int→Prop):outS (decide (q.num<0) != decide (r.num<0)) (numM q.num r.num q.den r.den) (denM q.num r.num q.den r.den) K=fitK (q*r) K:=by
 obtain ⟨e1,e2⟩:=yLv q r
 refine yCt ?_ ?_ ?_ K
 · rw [e1,Int.natAbs_mul,yHM,yHM]
   simp only [numM,Int.natAbs_natCast]
 · rw [e2]
   simp only [denM,Int.natAbs_natCast]
 · intro h
   rw [e1] at h ⊢
   have h1:q.num≠0:=fun e=>h (by rw [e,Int.zero_tdiv,Int.zero_mul])
   have h2:r.num≠0:=fun e=>h (by rw [e,Int.zero_tdiv,Int.mul_zero])
   rw [yMR (yKt (yqo _ _) h1) (yKt (yqo _ _) h2),yEA (yqo _ _) h1,yEA (yqo _ _) h2]
theorem yx2 {w:(Int→Int→Int→Prop)→Prop} {q:Rat} (det:∀ r0 r1 r2,(∀ K:Int→Int→Int→Prop,K r0 r1 r2→w K)→∀ K,w K=K r0 r1 r2) (h:∀ K,fitK q K→w K) (K:Int→Int→Int→Prop):w K=fitK q K:=by
 unfold fitK at h ⊢
 by_cases hs:small q
 · simp only [if_pos hs] at h ⊢
   exact det _ _ _ h K
 · simp only [if_neg hs] at h ⊢
   exact det _ _ _ h K
theorem yF8 {q r:Rat} (hq:small q) (hr:small r) (K:Int→Int→Int→Prop):ybr q.num q.den r.num r.den K=fitK (q*r) K :=
 yx2 (fun r0 r1 r2 h K=>yDq _ _ _ _ r0 r1 r2 h K) (fun K k=>yJB hq.i1 hq.i2 hr.i1 hr.i2 (by rw [if_pos (yoJ hq hr),yKu];exact k)) K
theorem yLw {r:Rat} (h:r≠0):(r⁻¹).num=(if r.num<0 then -(r.den:Int) else r.den)∧(r⁻¹).den=r.num.natAbs:=by
 have h0:r.num≠0:=fun e=>h (Rat.num_eq_zero.1 e)
 constructor
 · rw [Rat.num_inv]
   by_cases h1:r.num<0
   · rw [if_pos h1,Int.sign_eq_neg_one_of_neg h1];omega
   · rw [if_neg h1,Int.sign_eq_one_of_pos (by omega)];omega
 · rw [Rat.den_inv,if_neg h0]
theorem yKv {q r:Rat} (hq:small q) (hr:small r) (h0:r≠0) (K:Int→Int→Int→Prop):yav q.num q.den r.num r.den K=fitK (q / r) K:=by
 have hn:r.num≠0:=fun e=>h0 (Rat.num_eq_zero.1 e)
 refine yx2 (fun r0 r1 r2 h K=>yDr _ _ _ _ r0 r1 r2 h K) (fun K k=>yPn hq.i1 hq.i2 hr.i1 hr.i2 ?_) K
 rw [if_pos (yoJ hq hr),if_neg hn]
 rw [Rat.div_def,← yKu] at k
 obtain ⟨e1,e2⟩:=yLw h0
 rw [e1,e2] at k
 have s:decide ((if r.num<0 then -(r.den:Int) else (r.den:Int))<0)=decide (r.num<0):=by
   have:=r.den_pos
   split
   · rename_i h;simp only [h];simp;omega
   · rename_i h;simp only [h];simp
 rw [s] at k
 have hd:(if r.num<0 then -(r.den:Int) else (r.den:Int)).natAbs=r.den:=by split <;> omega
 unfold numM denM at k ⊢
 simp only [hd,Int.natAbs_natCast] at k ⊢
 exact k
end Go.Pf.Vc
namespace Go.Pf.Vc
open Go Go.Pf
theorem yLx (q r:Rat):(q+r).num=(q.num*(r.den / Nat.gcd q.den r.den:Nat)+r.num*(q.den / Nat.gcd q.den r.den:Nat)) / (Nat.gcd (q.num*(r.den / Nat.gcd q.den r.den:Nat)+r.num*(q.den / Nat.gcd q.den r.den:Nat)).natAbs (Nat.gcd q.den r.den):Nat) ∧
   (q+r).den=(q.den / Nat.gcd q.den r.den)*r.den / Nat.gcd (q.num*(r.den / Nat.gcd q.den r.den:Nat)+r.num*(q.den / Nat.gcd q.den r.den:Nat)).natAbs (Nat.gcd q.den r.den):=by
 have e:q+r=Rat.add q r:=rfl
 rw [e]
 delta Rat.add
 by_cases hg:q.den.gcd r.den=1
 · simp only [hg,dif_pos,Nat.div_one,Nat.gcd_one_right,Int.natCast_one,Int.ediv_one,and_self]
 · simp only [hg,dif_neg,not_false_eq_true,Rat.maybeNormalize_eq]
   constructor
   · first | rfl | simp only [Int.divExact_eq_tdiv]
   · first | rfl | simp only []
theorem yMS {q r:Rat} {Z:Int} {g:Nat} (e1:(q+r).num=Z / (Nat.gcd Z.natAbs g:Nat)) (e2:(q+r).den=(q.den / g)*r.den / Nat.gcd Z.natAbs g) (hgp:0<g) (hgd:g∣r.den) (K:Int→Int→Int→Prop) :
   outA (decide (Z<0)) (Z.natAbs:Int) q.den r.den g K=fitK (q+r) K:=by
 unfold outA
 by_cases h0:Z=0
 · subst h0
   have:(q+r)=0:=by
     apply Rat.num_eq_zero.1
     rw [e1];simp
   rw [this,if_pos (by rfl)]
   unfold fitK
   rw [if_pos (by decide)];rfl
 · have hne:¬((Z.natAbs:Nat):Int)=0:=by omega
   rw [if_neg hne]
   have hdv:((Nat.gcd Z.natAbs g:Nat):Int)∣Z:=yqo _ _
   have hhp:0<Nat.gcd Z.natAbs g:=Nat.gcd_pos_of_pos_right _ hgp
   have hhg:Nat.gcd Z.natAbs g∣r.den:=Nat.dvd_trans (Nat.gcd_dvd_right _ _) hgd
   refine yCt ?_ ?_ ?_ K
   · rw [e1,Int.natAbs_ediv_of_dvd hdv];simp
   · rw [e2];simp only [Int.toNat_natCast];rw [Nat.mul_div_assoc _ hhg]
   · intro h
     rw [e1]
     obtain ⟨k,hk⟩:=hdv
     revert hhp hk
     generalize Nat.gcd Z.natAbs g=h
     intro hhp hk
     have e:Z / (h:Int)=k:=by rw [hk,Int.mul_ediv_cancel_left _ (by omega)]
     rw [e]
     have:Z<0↔k<0:=by
       rw [hk]
       constructor
       · intro hk;refine Int.not_le.1 fun hk2=>?_
         have:=Int.mul_nonneg (show 0≤(h:Int) by omega) hk2
         omega
       · intro hk;exact Int.mul_neg_of_pos_of_neg (by omega) hk
     simp only [this]
theorem yKw (q r:Rat) (K:Int→Int→Int→Prop) :
   outA (decide (q.num*((r.den:Int) / (Nat.gcd (q.den:Int).natAbs (r.den:Int).natAbs:Nat))+r.num*((q.den:Int) / (Nat.gcd (q.den:Int).natAbs (r.den:Int).natAbs:Nat))<0))
     ((q.num*((r.den:Int) / (Nat.gcd (q.den:Int).natAbs (r.den:Int).natAbs:Nat))+r.num*((q.den:Int) / (Nat.gcd (q.den:Int).natAbs (r.den:Int).natAbs:Nat))).natAbs:Int) q.den r.den (Nat.gcd (q.den:Int).natAbs (r.den:Int).natAbs) K=fitK (q+r) K:=by
 obtain ⟨e1,e2⟩:=yLx q r
 rw [Int.natCast_ediv,Int.natCast_ediv] at e1 e2
 exact yMS e1 e2 (Nat.gcd_pos_of_pos_left _ q.den_pos) (Nat.gcd_dvd_right _ _) K
theorem yAR {q r:Rat} (hq:small q) (hr:small r) (K:Int→Int→Int→Prop):yaD q.num q.den r.num r.den K=fitK (q+r) K :=
 yx2 (fun r0 r1 r2 h K=>yDo _ _ _ _ r0 r1 r2 h K) (fun K k=>yMN hq.i1 hq.i2 hr.i1 hr.i2 (by rw [if_pos (yoJ hq hr),yKw];exact k)) K
theorem yAS {q r:Rat} (hq:small q) (hr:small r) (K:Int→Int→Int→Prop):ybE q.num q.den r.num r.den K=fitK (q-r) K :=
 yx2 (fun r0 r1 r2 h K=>yDp _ _ _ _ r0 r1 r2 h K) (fun K k=>yPo hq.i1 hq.i2 hr.i1 hr.i2 (by
   rw [if_pos (yoJ hq hr)]
   rw [Rat.sub_eq_add_neg,← yKw] at k
   exact k)) K
theorem yHN {n d:Int} (hd:d≠0) (K:Int→Int→Int→Prop):outS (decide (n<0) != decide (d<0)) ((n.natAbs / Nat.gcd n.natAbs d.natAbs:Nat):Int) ((d.natAbs / Nat.gcd n.natAbs d.natAbs:Nat):Int) K=fitK ((n:Rat) / (d:Rat)) K:=by
 have e:(n:Rat) / (d:Rat)=mkRat (if d<0 then -n else n) d.natAbs:=by
   rw [Rat.mkRat_eq_div]
   split
   · rename_i h
     have h1:((d.natAbs:Nat):Int)=-d:=by omega
     have h2:((d.natAbs:Nat):Rat)=-(d:Rat):=by rw [← Rat.intCast_natCast,h1,Rat.intCast_neg]
     rw [h2,Rat.intCast_neg]
     have h3:(d:Rat)≠0:=fun e=>hd (Rat.intCast_eq_zero_iff.1 e)
     grind
   · rename_i h
     have h1:((d.natAbs:Nat):Int)=d:=by omega
     have h2:((d.natAbs:Nat):Rat)=(d:Rat):=by rw [← Rat.intCast_natCast,h1]
     rw [h2]
 have h0:d.natAbs≠0:=by omega
 have hab:(if d<0 then -n else n).natAbs=n.natAbs:=by split <;> omega
 rw [e]
 refine yCt ?_ ?_ ?_ K
 · rw [Rat.num_mkRat,if_neg h0,hab,Int.natAbs_ediv_of_dvd,Int.natAbs_natCast,hab,Nat.gcd_comm]
   rw [← Int.dvd_natAbs,Int.ofNat_dvd,hab];exact Nat.gcd_dvd_right _ _
 · rw [Rat.den_mkRat,if_neg h0,hab,Nat.gcd_comm]
 · rw [Rat.num_mkRat,if_neg h0,hab]
   have hdv:((Nat.gcd d.natAbs n.natAbs:Nat):Int)∣(if d<0 then -n else n):=by
     rw [← Int.dvd_natAbs,Int.ofNat_dvd,hab];exact Nat.gcd_dvd_right _ _
   have hp:0<Nat.gcd d.natAbs n.natAbs:=Nat.gcd_pos_of_pos_left _ (by omega)
   obtain ⟨k,hk⟩:=hdv
   rw [hk,Int.mul_ediv_cancel_left _ (by omega)]
   intro hk0
   generalize Nat.gcd d.natAbs n.natAbs=g at *
   have h1:(g:Int)*k<0↔k<0:=by
     constructor
     · intro hk;refine Int.not_le.1 fun hk2=>?_
       have:=Int.mul_nonneg (show 0≤(g:Int) by omega) hk2
       omega
     · intro hk;exact Int.mul_neg_of_pos_of_neg (by omega) hk
   have h2:(g:Int)*k≠0:=fun e=>by rcases Int.mul_eq_zero.1 e with e | e <;> omega
   by_cases hd2:d<0
   · rw [if_pos hd2] at hk
     by_cases hn:n<0
     · have:¬k<0:=by omega
       simp [hd2,hn,this]
     · have:k<0:=by omega
       simp [hd2,this];omega
   · rw [if_neg hd2] at hk
     by_cases hn:n<0
     · have:k<0:=by omega
       simp [hd2,hn,this]
     · have:¬k<0:=by omega
       simp [hd2,this];omega
theorem yHO {n d:Int} (hn:I64 n) (hd:I64 d) (h0:d≠0) (K:Int→Int→Int→Prop):yal n d K=fitK ((n:Rat) / (d:Rat)) K :=
 yx2 (fun r0 r1 r2 h K=>yBO _ _ r0 r1 r2 h K) (fun K k=>Make_of hn hd (by rw [if_neg h0,yHN h0];exact k)) K
def cmpQ (q r:Rat):Int:=if q<r then -1 else if r<q then 1 else 0
theorem yKx (q r:Rat):cmpR q.num q.den r.num r.den=cmpQ q r:=by
 unfold cmpR cmp3 cmpQ
 simp only [Rat.lt_iff]
theorem yx3 {q r:Rat} (hq:small q) (hr:small r) (K:Int→Int→Prop):ybL q.num q.den r.num r.den K=K (cmpQ q r) 0 :=
 yDn _ _ _ _ _ _ (fun K k=>yMI hq.i1 hq.i2 hr.i1 hr.i2 (by rw [yoJ hq hr,if_pos rfl,yKx];exact k)) K
theorem yEB {n d:Int} (hn:I64 n) (hd:I64 d) (K:Int→Prop):ybp n d K=K (chk n d) :=
 yAf _ _ _ (fun _ k=>yCr hn hd k) K
end Go.Pf.Vc
namespace Go.Pf.Vc
open Go Go.Pf
theorem yKy {p:Int} (h:I64 p) (K:Int→Prop):yqh p K=K (p.natAbs:Int):=by
 unfold I64 at h
 unfold yqh yvV
 by_cases hp:p<0
 · have e0:IntKind.i64.wrap (p+1)=p+1:=wi64 ⟨by omega,by omega⟩
   have e1:IntKind.i64.wrap ((0:Int)-(p+1))=-(p+1):=by rw [wi64 ⟨by omega,by omega⟩];omega
   have e2:IntKind.u64.wrap (-(p+1))=-(p+1):=wu64 ⟨by omega,by omega⟩
   have e3:IntKind.u64.wrap (-(p+1)+1)=(p.natAbs:Int):=by rw [wu64 ⟨by omega,by omega⟩];omega
   rw [decide_eq_true hp,yah,e0,e1,e2,e3]
 · rw [decide_eq_false hp,yab,wu64 ⟨by omega,by omega⟩]
   congr 1
   omega
theorem yEC (x:Int→Int→Bool→Prop):∀ (n a b:Nat),b<n→yfJ x n (a:Int) (b:Int)=x ((Nat.gcd a b:Nat):Int) 0 false
 | 0,a,b,h=>by omega
 | n+1,a,b,h=>by
   unfold yfJ
   by_cases hb:b=0
   · subst hb
     simp [cbr]
   · have h1:((b:Int) != 0)=true:=by simp;omega
     have h2:¬((b:Int)=0):=by omega
     rw [h1,yah,decide_eq_false h2,Bool.not_false,yaA]
     have e:Int.tmod (a:Int) (b:Int)=((a % b:Nat):Int):=by rw [Int.tmod_eq_emod_of_nonneg (by omega)];omega
     rw [e,yEC x n b (a % b) (by have:=Nat.mod_lt a (show b>0 by omega);omega)]
     rw [Nat.gcd_comm a b,Nat.gcd_rec b a,Nat.gcd_comm]
theorem yOn (a b:Nat) (K:Int→Prop):yk8 (a:Int) (b:Int) K=K ((Nat.gcd a b:Nat):Int):=by
 refine yHA _ _ _ (fun K h=>?_) K
 unfold yk8 yvX
 exact ⟨b+1,by rw [yEC _ (b+1) a b (by omega)];exact h⟩
theorem bne_f {a b:Int} (h:a=b):(a != b)=false:=by simp [h]
theorem bne_t {a b:Int} (h:a≠b):(a != b)=true:=by simp [h]
theorem beq_f {a b:Int} (h:a≠b):(a == b)=false:=by simp [h]
theorem beq_t {a b:Int} (h:a=b):(a == b)=true:=by simp [h]
end Go.Pf.Vc
namespace Go.Pf.Vc
open Go Go.Pf
theorem yOo {s:Bool} {X Y:Int} (hx:0≤X) (hy:0≤Y) (K:Int→Int→Int→Prop) :
   yoq s (X / 18446744073709551616) (X % 18446744073709551616) (Y / 18446744073709551616) (Y % 18446744073709551616) K=outS s X Y K:=by
 unfold yoq ysU outS
 by_cases h:X≤1000000000000000000∧Y≤1000000000000000000
 · have e1:IntKind.i64.wrap (X % 18446744073709551616)=X:=by rw [show X % 18446744073709551616=X by omega,wi64 ⟨by omega,by omega⟩]
   have e2:IntKind.i64.wrap (Y % 18446744073709551616)=Y:=by rw [show Y % 18446744073709551616=Y by omega,wi64 ⟨by omega,by omega⟩]
   rw [if_pos h,decide_eq_false (by omega),yab,decide_eq_false (by omega),yab,decide_eq_false (by omega),yab,decide_eq_false (by omega),yab,e1,e2]
   cases s
   · rw [yab];rfl
   · rw [yah,wi64 ⟨by omega,by omega⟩,Int.zero_sub];rfl
 · rw [if_neg h]
   by_cases h1:X / 18446744073709551616>0
   · rw [decide_eq_true h1,yah]
   · rw [decide_eq_false h1,yab]
     by_cases h2:Y / 18446744073709551616>0
     · rw [decide_eq_true h2,yah]
     · rw [decide_eq_false h2,yab]
       by_cases h3:X % 18446744073709551616>1000000000000000000
       · rw [decide_eq_true h3,yah]
       · rw [decide_eq_false h3,yab,decide_eq_true (by omega),yah]
end Go.Pf.Vc
namespace Go.Pf.Vc
open Go Go.Pf
theorem yMT {g:Int} (h:g≠0) {P:Prop}:asr (!(decide (g=(0:Int)))) P=P:=by
 rw [decide_eq_false h];rfl
theorem wuN {n:Nat} (h:(n:Int)≤18446744073709551615):IntKind.u64.wrap (n:Int)=n:=wu64 ⟨by omega,h⟩
theorem tdivN (a b:Nat):Int.tdiv (a:Int) (b:Int)=((a / b:Nat):Int):=by
 rw [Int.tdiv_eq_ediv_of_nonneg (by omega),Int.natCast_ediv]
theorem yMU {n d:Int} (hn:I64 n) (hd:I64 d) (h0:d≠0) (K:Int→Int→Int→Prop):yor n d K=fitK ((n:Rat) / (d:Rat)) K:=by
 unfold yor ysW
 have hn':=hn;have hd':=hd
 unfold I64 at hn' hd'
 have g0:0<Nat.gcd n.natAbs d.natAbs:=Nat.gcd_pos_of_pos_right _ (by omega)
 have q1:n.natAbs / Nat.gcd n.natAbs d.natAbs≤n.natAbs:=Nat.div_le_self _ _
 have q2:d.natAbs / Nat.gcd n.natAbs d.natAbs≤d.natAbs:=Nat.div_le_self _ _
 have hp:∀ x:Nat,(0:Int)≤x:=Int.natCast_nonneg
 rw [beq_f h0,yab,yKy hn,yKy hd,yOn,yMT (by omega),yMT (by omega),tdivN,tdivN,← yHN h0]
 obtain ⟨x,hx⟩:∃ x,x=n.natAbs / Nat.gcd n.natAbs d.natAbs:=⟨_,rfl⟩
 obtain ⟨y,hy⟩:∃ y,y=d.natAbs / Nat.gcd n.natAbs d.natAbs:=⟨_,rfl⟩
 rw [← hx] at q1 ⊢
 rw [← hy] at q2 ⊢
 rw [wuN (by omega),wuN (by omega)]
 have m:=yOo (s:=(decide (n<0) != decide (d<0))) (X:=(x:Int)) (Y:=(y:Int)) (by omega) (by omega) K
 rw [← m]
 have e1:(x:Int) / 18446744073709551616=0:=by omega
 have e2:(x:Int) % 18446744073709551616=x:=by omega
 have e3:(y:Int) / 18446744073709551616=0:=by omega
 have e4:(y:Int) % 18446744073709551616=y:=by omega
 rw [e1,e2,e3,e4]
end Go.Pf.Vc
namespace Go.Pf.Vc
open Go Go.Pf
theorem cbT {c:Prop} [Decidable c] {P Q:Prop} (h:c):cbr (decide c) P Q=P:=by rw [decide_eq_true h,yah]
theorem cbF {c:Prop} [Decidable c] {P Q:Prop} (h:¬c):cbr (decide c) P Q=Q:=by rw [decide_eq_false h,yab]
theorem cnT {a b:Int} {P Q:Prop} (h:a≠b):cbr (a != b) P Q=P:=by rw [bne_t h,yah]
theorem cnF {a b:Int} {P Q:Prop} (h:a=b):cbr (a != b) P Q=Q:=by rw [bne_f h,yab]
theorem ceT {a b:Int} {P Q:Prop} (h:a=b):cbr (a == b) P Q=P:=by rw [beq_t h,yah]
theorem ceF {a b:Int} {P Q:Prop} (h:a≠b):cbr (a == b) P Q=Q:=by rw [beq_f h,yab]
theorem asT {c:Prop} [Decidable c] {P:Prop} (h:c):asr (decide c) P=P:=by rw [decide_eq_true h,yaA]
theorem asC {l:List Int} {i:Nat} {P:Prop} (h:i<l.length):asr (conf (.one (.i .i64)) (List.getD (ints l) i .nils)) P=P:=by rw [ylh h,yaA]
theorem wib {n:Int} (h1:-9223372036854775808≤n) (h2:n≤9223372036854775807):IntKind.i64.wrap n=n:=wi64 ⟨h1,h2⟩
theorem cast1 (i:Nat):(i:Int)+1=((i+1:Nat):Int):=by omega
theorem yhh {x:Int} (h:-1000000000000000000≤x∧x≤1000000000000000000):small (x:Rat):=by
 unfold small
 rw [Rat.num_intCast,Rat.den_intCast]
 omega
def allD (dens:List Int):Prop:=∀ d∈dens,0≤d∧d≤12
def someD (dens:List Int):Prop:=∃ d∈dens,0<d
instance (l:List Int):Decidable (allD l):=by unfold allD;infer_instance
instance (l:List Int):Decidable (someD l):=by unfold someD;infer_instance
def VC (len:Int) (cuts dens:List Int):Prop :=
 1≤len∧len≤1000∧2≤cuts.length∧cuts.length≤40∧dens.length+1=cuts.length∧cuts.getD 0 0=0∧cuts.getD (cuts.length-1) 0=len∧incr cuts 0∧allD dens∧someD dens
theorem yMV (l:List Int):incr l 0↔∀ j,j<l.length→j+1<l.length→l.getD j 0<l.getD (j+1) 0:=⟨fun h j _ h2=>h j (by omega) h2,fun h j _ h2=>h j (by omega) h2⟩
instance (l:List Int):Decidable (incr l 0):=decidable_of_iff _ (yMV l).symm
instance (len:Int) (cuts dens:List Int):Decidable (VC len cuts dens):=by unfold VC;infer_instance
def ckC (len:Int) (cuts dens:List Int):Int:=if len>1000∨cuts.length>40 then 4 else if VC len cuts dens then 0 else 8
theorem yKz (l:List Int) (x:Int):(l.foldl mnf x<0)↔¬(∀ d∈x::l,0≤d):=by
 induction l generalizing x with
 | nil=>simp
 | cons y t ih =>
   rw [List.foldl_cons,ih]
   unfold mnf
   simp only [List.forall_mem_cons]
   split
   · constructor
     · intro h h2;exact h ⟨h2.2.1,h2.2.2⟩
     · intro h h2;exact h ⟨by omega,h2.1,h2.2⟩
   · constructor
     · intro h h2;exact h ⟨h2.1,h2.2.2⟩
     · intro h h2;exact h ⟨h2.1,by omega,h2.2⟩
theorem yx4 (l:List Int) (x k:Int):(l.foldl mxf x>k)↔¬(∀ d∈x::l,d≤k):=by
 induction l generalizing x with
 | nil=>simp
 | cons y t ih =>
   rw [List.foldl_cons,ih]
   unfold mxf
   simp only [List.forall_mem_cons]
   split
   · constructor
     · intro h h2;exact h ⟨h2.2.1,h2.2.2⟩
     · intro h h2;exact h ⟨by omega,h2.1,h2.2⟩
   · constructor
     · intro h h2;exact h ⟨h2.1,h2.2.2⟩
     · intro h h2;exact h ⟨h2.1,by omega,h2.2⟩
theorem ynr {len:Int} {cuts dens:List Int} (h1:cuts.length<4611686018427387904) (h2:dens.length<4611686018427387904) (K:Int→Prop) :
   yap len (ints cuts) (ints dens) K=K (ckC len cuts dens):=by
 refine yBR _ _ _ _ (fun K k=>?_) K
 unfold yap ypw
 simp only [ybK]
 have bad:¬(len>1000∨cuts.length>40)→¬VC len cuts dens→K 8:=fun h h2=>by
   rw [ckC,if_neg h,if_neg h2] at k;exact k
 by_cases a1:len>1000
 · rw [cbT a1];rw [ckC,if_pos (.inl a1)] at k;exact k
 rw [cbF a1]
 by_cases a2:cuts.length>40
 · rw [cbT (by omega)];rw [ckC,if_pos (.inr a2)] at k;exact k
 have a12:¬(len>1000∨cuts.length>40):=by omega
 rw [cbF (by omega)]
 by_cases a3:len<1
 · rw [cbT a3];exact bad a12 (fun h=>by have:=h.1;omega)
 rw [cbF a3]
 by_cases a4:cuts.length<2
 · rw [cbT (by omega)];exact bad a12 (fun h=>by have:=h.2.2.1;omega)
 rw [cbF (by omega),wib (n:=(cuts.length:Int)-1) (by omega) (by omega)]
 by_cases a5:dens.length+1=cuts.length
 case neg=>rw [cnT (by omega)];exact bad a12 (fun h=>a5 h.2.2.2.2.1)
 rw [cnF (by omega),asT (by omega),asC (by omega),ydB (by omega)]
 by_cases a6:cuts.getD 0 0=0
 case neg=>rw [cnT a6];exact bad a12 (fun h=>a6 h.2.2.2.2.2.1)
 rw [cnF a6,asT (by omega),asT (by omega),asC (by omega),ydB (by omega)]
 have en:((cuts.length:Int)-1).toNat=cuts.length-1:=by omega
 rw [en]
 by_cases a7:cuts.getD (cuts.length-1) 0=len
 case neg=>rw [cnT a7];exact bad a12 (fun h=>a7 h.2.2.2.2.2.2.1)
 rw [cnF a7]
 refine ⟨cuts.length+1,?_⟩
 refine yJC (by omega) _ _ _ _ (cuts.length-1) 0 _ (by omega) (by omega) (fun hi=>?_) (fun hi=>bad a12 (fun h=>hi h.2.2.2.2.2.2.2.1))
 obtain ⟨x,t,e⟩:∃ x t,dens=x::t:=by
   cases dens with
   | nil=>exfalso;have:([]:List Int).length=0:=rfl;omega
   | cons x t=>exact ⟨x,t,rfl⟩
 refine yPp (by omega) e ?_
 by_cases b1:t.foldl mnf x<0
 · rw [cbT b1]
   rw [yKz] at b1
   exact bad a12 (fun h=>b1 fun d hd=>(h.2.2.2.2.2.2.2.2.1 d (by rw [e];exact hd)).1)
 rw [cbF b1]
 refine yMQ (by omega) e ?_
 by_cases b2:t.foldl mxf x>12
 · rw [cbT b2]
   rw [yx4] at b2
   exact bad a12 (fun h=>b2 fun d hd=>(h.2.2.2.2.2.2.2.2.1 d (by rw [e];exact hd)).2)
 rw [cbF b2]
 refine yMQ (by omega) e ?_
 have c1:∀ d∈dens,0≤d:=by rw [yKz,Classical.not_not,← e] at b1;exact b1
 have c2:∀ d∈dens,d≤12:=by rw [yx4,Classical.not_not,← e] at b2;exact b2
 by_cases b3:t.foldl mxf x=0
 · rw [ceT b3]
   refine bad a12 (fun h=>?_)
   obtain ⟨d,hd,h0⟩:=h.2.2.2.2.2.2.2.2.2
   have:¬(t.foldl mxf x>0):=by omega
   rw [yx4,Classical.not_not,← e] at this
   have:=this d hd
   omega
 · rw [ceF b3]
   have b4:t.foldl mxf x>0:=by
     refine Int.not_le.1 fun hle=>b3 ?_
     have:t.foldl mxf x>-1:=by
       rw [yx4]
       intro h
       have h1:=h x (List.mem_cons_self ..)
       have h2:=c1 x (by rw [e];exact List.mem_cons_self ..)
       omega
     omega
   rw [yx4,← e] at b4
   have b5:someD dens:=by
     refine Classical.byContradiction fun hn=>b4 fun d hd=>?_
     exact Int.not_lt.1 fun hlt=>hn ⟨d,hd,hlt⟩
   rw [ckC,if_neg a12,if_pos ⟨by omega,by omega,by omega,by omega,a5,a6,a7,hi,fun d hd=>⟨c1 d hd,c2 d hd⟩,b5⟩] at k
   exact k
theorem yko (n:Int) (K:Int→Int→Prop):ybF n K=K (n:Rat).num (n:Rat).den:=rfl
theorem yhY {q r:Rat} (hq:small q) (hr:small r) (K:Bool→Prop):ybM q.num q.den r.num r.den K=K (decide (q<r)):=by
 unfold ybM yqL
 rw [yx3 hq hr]
 congr 1
 rw [decide_eq_decide,cmpQ]
 by_cases h:q<r
 · simp [h]
 · by_cases h2:r<q <;> simp [h,h2]
def PT (len:Int) (n d:Int):Prop:=RV n d∧0≤n∧n≤len*d
instance (len n d:Int):Decidable (PT len n d):=by unfold PT;infer_instance
theorem yPq {len n d:Int} (h:PT len n d):∃ q:Rat,small q∧q.num=n∧(q.den:Int)=d∧0≤q∧q≤(len:Rat):=by
 obtain ⟨h1,h2,h3⟩:=h
 obtain ⟨q,e1,e2,e3⟩:=yJD h1
 refine ⟨q,e1,e2,e3,?_,?_⟩
 · rw [← Rat.num_nonneg,e2];exact h2
 · rw [Rat.le_iff,e2,e3,Rat.num_intCast,Rat.den_intCast];simpa using h3
theorem yJE (x:Int) (q:Rat):((x:Rat)<q)↔x*(q.den:Int)<q.num:=by
 rw [Rat.lt_iff,Rat.num_intCast,Rat.den_intCast];simp
theorem yCu {len:Int} (hl:-1000000000000000000≤len∧len≤1000000000000000000) {n d:Int} (hn:I64 n) (hd:I64 d) (a b:List PV) (K:Bool→Prop) :
   ybR len a b n d K=K (decide (PT len n d)):=by
 unfold ybR ypz
 rw [yEB hn hd]
 by_cases h:RV n d
 · obtain ⟨q,e1,e2,e3⟩:=yJD h
   rw [chk,if_pos h,ceT rfl]
   by_cases h0:n≥0
   · rw [cbT h0,yko,← e2,← e3,yhY (yhh hl) e1]
     congr 1
     have:((len:Rat)<q)↔len*(q.den:Int)<q.num:=yJE _ _
     by_cases h3:(len:Rat)<q
     · have h4:=this.1 h3
       rw [decide_eq_true h3,decide_eq_false];rfl
       intro hp;have:=hp.2.2;omega
     · have h4:¬_:=fun x=>h3 (this.2 x)
       rw [decide_eq_false h3,decide_eq_true];rfl
       exact ⟨e1.rv,by omega,by omega⟩
   · rw [cbF h0,decide_eq_false]
     intro hp;have:=hp.2.1;omega
 · rw [chk,if_neg h,ceF (by decide),decide_eq_false]
   intro hp;exact h hp.1
end Go.Pf.Vc
namespace Go.Pf.Vc
open Go Go.Pf
section
variable {len:Int} {cuts dens:List Int}
theorem VC.step (h:VC len cuts dens) {i:Nat} (hi:i+1<cuts.length):cuts.getD i 0<cuts.getD (i+1) 0:=h.2.2.2.2.2.2.2.1 i (Nat.zero_le _) hi
theorem VC.mono (h:VC len cuts dens) {i:Nat}:∀ {j:Nat},i≤j→j<cuts.length→cuts.getD i 0≤cuts.getD j 0
 | 0,hij,_=>by
   have:i=0:=by omega
   subst this;exact Int.le_refl _
 | j+1,hij,hj=>by
   by_cases e:i=j+1
   · subst e;exact Int.le_refl _
   · have h1:=h.mono (i:=i) (j:=j) (by omega) (by omega)
     have h2:=h.step (i:=j) hj
     omega
theorem VC.lo (h:VC len cuts dens) {i:Nat} (hi:i<cuts.length):0≤cuts.getD i 0:=by
 have:=h.mono (Nat.zero_le i) hi
 rw [h.2.2.2.2.2.1] at this;exact this
theorem VC.hi (h:VC len cuts dens) {i:Nat} (hi:i<cuts.length):cuts.getD i 0≤len:=by
 have:=h.mono (i:=i) (j:=cuts.length-1) (by omega) (by omega)
 rw [h.2.2.2.2.2.2.1] at this;exact this
theorem VC.den (h:VC len cuts dens) {i:Nat} (hi:i<dens.length):0≤dens.getD i 0∧dens.getD i 0≤12:=by
 rw [List.getD_eq_getElem?_getD,List.getElem?_eq_getElem hi]
 exact h.2.2.2.2.2.2.2.2.1 _ (List.getElem_mem hi)
theorem VC.l1 (h:VC len cuts dens):dens.length+1=cuts.length:=h.2.2.2.2.1
theorem VC.l2 (h:VC len cuts dens):cuts.length≤40:=h.2.2.2.1
theorem VC.len0 (h:VC len cuts dens):1≤len∧len≤1000:=⟨h.1,h.2.1⟩
theorem VC.sc (h:VC len cuts dens) {i:Nat} (hi:i<cuts.length):small ((cuts.getD i 0:Int):Rat):=yhh (by have:=h.lo hi;have:=h.hi hi;have:=h.len0;omega)
theorem VC.sd (h:VC len cuts dens) {i:Nat} (hi:i<dens.length):small ((dens.getD i 0:Int):Rat):=yhh (by have:=h.den hi;omega)
theorem yx5 (h:ckC len cuts dens=0):VC len cuts dens:=by
 unfold ckC at h
 split at h
 · omega
 · split at h
   · assumption
   · omega
theorem VC.ck (h:VC len cuts dens):ckC len cuts dens=0:=by
 rw [ckC,if_neg (by have:=h.l2;have:=h.len0;omega),if_pos h]
def totS (cuts dens:List Int):Nat→Nat→Int→Int
 | 0,_,s=>s
 | r+1,i,s=>totS cuts dens r (i+1) (s+dens.getD i 0*(cuts.getD (i+1) 0-cuts.getD i 0))
def totC (cuts dens:List Int):Int:=totS cuts dens dens.length 0 0
theorem mul12 {d x:Int} (h:0≤d∧d≤12) (hx:0≤x):0≤d*x∧d*x≤12*x:=⟨Int.mul_nonneg h.1 hx,Int.mul_le_mul_of_nonneg_right h.2 hx⟩
theorem yCv (h:VC len cuts dens):∀ (r i:Nat) (s:Int),i+r=dens.length→0≤s→s≤12*cuts.getD i 0→0≤totS cuts dens r i s∧totS cuts dens r i s≤12*len
 | 0,i,s,hi,h0,h1=>by
   have:=h.l1
   have:=h.hi (i:=i) (by omega)
   unfold totS
   omega
 | r+1,i,s,hi,h0,h1=>by
   unfold totS
   have l1:=h.l1
   have h2:=h.step (i:=i) (by omega)
   have h3:=mul12 (h.den (i:=i) (by omega)) (x:=cuts.getD (i+1) 0-cuts.getD i 0) (by omega)
   exact yCv h r (i+1) _ (by omega) (by omega) (by omega)
theorem yhZ (h:VC len cuts dens):0≤totC cuts dens∧totC cuts dens≤12000:=by
 have l1:=h.l1
 have h0:=h.lo (i:=0) (by omega)
 have:=yCv h dens.length 0 0 (by omega) (by omega) (by omega)
 have h2:=h.len0
 unfold totC;omega
end
end Go.Pf.Vc
