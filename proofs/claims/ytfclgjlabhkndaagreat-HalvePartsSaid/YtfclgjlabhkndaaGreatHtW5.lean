/- Part 5. -/
import Derived.Test.YtfclgjlabhkndaaGreatHtW4
noncomputable section
namespace Go.Pf.Vc
open Go Go.Pf
set_option maxRecDepth 100000
set_option maxHeartbeats 1000000
theorem in94 (l0 l2:List PV) {a0 a1 a2 a3 a4 a5 a6 a7 x1} (b c:Int) {N:Nat} (hl:N<4611686018427387904) {Y:List PV→Prop} (hX:∀ v j,x1 l0 v l2 N N 0 b c j false=Y v):∀ (R:List Nat) (x:Nat) (B:List Nat),R.length+(B.length+1)=N →
  (∃ n,yba a0 a1 a2 a3 a4 a5 a6 a7 yao x1 n l0 ((R.reverse++x::B).map encV) l2 N N 0 b c (R.length:Int))=Y (((insV ltV R x).reverse++B).map encV)
 | [],x,B,hN=>by
  rw [exS3 rfl (R:=fun _=>x1 l0 ((x::B).map encV) l2 N N 0 b c 0 false) (fun n=>yJr l0 l2 x B N b c n),exC3,hX]
  rfl
 | y::R,x,B,hN=>by
  have e1:(y::R).reverse++x::B=R.reverse++y::x::B:=by rw [qBi,qAh];rfl
  have e2:(((y::R).length:Nat):Int)=(R.length:Int)+1:=by simp
  rw [qAl] at hN
  rw [e1,e2]
  have ih:=in94 (a0:=a0) (a1:=a1) (a2:=a2) (a3:=a3) (a4:=a4) (a5:=a5) (a6:=a6) (a7:=a7) l0 l2 b c hl hX R x (y::B) (by rw [qAl];omega)
  cases ht:ltV x y with
  | true =>
   rw [exS3 rfl (R:=fun n=>yba a0 a1 a2 a3 a4 a5 a6 a7 yao x1 n l0 ((R.reverse++x::y::B).map encV) l2 N N 0 b c (R.length:Int)) (fun n=>by rw [yIv l0 l2 R y x B (by omega) hl b c n,ht,yag]),ih]
   rw [show insV ltV (y::R) x=y::insV ltV R x by (show (bif ltV x y then _ else _)=_;rw [ht];rfl),qBi,qAh]
   rfl
  | false =>
   rw [exS3 rfl (R:=fun _=>x1 l0 ((R.reverse++y::x::B).map encV) l2 N N 0 b c ((R.length:Int)+1) false) (fun n=>by rw [yIv l0 l2 R y x B (by omega) hl b c n,ht,yab]),exC3,hX]
   rw [show insV ltV (y::R) x=x::y::R by (show (bif ltV x y then _ else _)=_;rw [ht];rfl),qBi,qBi,qAh,qAh]
   rfl
theorem yIw (l0 l2:List PV) {a0 a1 a2 a3 a4 a5 a6 a7 x1} {Y:List PV→Prop} {N:Nat} (hN:N<4611686018427387904) (hX:∀ v j,x1 l0 v l2 N N 0 (N:Int) j false=Y v):∀ (B R:List Nat),R.length+B.length=N →
  (∃ n,ybc a0 a1 a2 a3 a4 a5 a6 a7 yao x1 n l0 ((R.reverse++B).map encV) l2 N N 0 (N:Int) (R.length:Int))=Y ((allV ltV R B).reverse.map encV)
 | [],R,hl=>by
  have e:∀ n,ybc a0 a1 a2 a3 a4 a5 a6 a7 yao x1 (n+1) l0 ((R.reverse++[]).map encV) l2 N N 0 (N:Int) (R.length:Int)=Y ((allV ltV R []).reverse.map encV):=fun n=>by
   conv=>lhs;unfold ybc
   rw [cbF (by simp only [qBo] at hl;omega),hX,qBt]
   rfl
  rw [exS3 rfl (R:=fun _=>_) e,exC3]
 | x::B,R,hl=>by
  have hl':R.length+(B.length+1)=N:=hl
  have ih:=yIw (a0:=a0) (a1:=a1) (a2:=a2) (a3:=a3) (a4:=a4) (a5:=a5) (a6:=a6) (a7:=a7) l0 l2 hN hX B (insV ltV R x) (by rw [yhf];omega)
  rw [yhf] at ih
  have w:IntKind.i64.wrap ((R.length:Int)+1)=(((R.length+1:Nat)):Int):=by rw [wib (by omega) (by omega)];omega
  have e:∀ n,ybc a0 a1 a2 a3 a4 a5 a6 a7 yao x1 (n+1) l0 ((R.reverse++x::B).map encV) l2 N N 0 (N:Int) (R.length:Int)=ybc a0 a1 a2 a3 a4 a5 a6 a7 yao x1 n l0 (((insV ltV R x).reverse++B).map encV) l2 N N 0 (N:Int) ((R.length+1:Nat):Int):=fun n=>by
   conv=>lhs;unfold ybc
   dsimp only [lt]
   rw [cbT (by omega)]
   refine (in94 l0 l2 (N:Int) (R.length:Int) hN (Y:=fun v=>ybc a0 a1 a2 a3 a4 a5 a6 a7 yao x1 n l0 v l2 N N 0 (N:Int) ((R.length+1:Nat):Int)) (fun v j=>by rw [w]) R x B hl')
  rw [exS3 rfl (R:=fun n=>ybc a0 a1 a2 a3 a4 a5 a6 a7 yao x1 n l0 (((insV ltV R x).reverse++B).map encV) l2 N N 0 (N:Int) ((R.length+1:Nat):Int)) e,ih]
  rfl
theorem yH4 (l0 l2:List PV) {a0 a1 a2 a3 a4 a5 a6 a7 X} (x:Nat) (B:List Nat) (hN:B.length+1≤12) (h:Int) (b b':Bool) :
  (∃ n,ycb a0 a1 a2 a3 a4 a5 a6 a7 yao X n l0 ((x::B).map encV) l2 (B.length+1) (B.length+1) 0 ((B.length+1:Nat):Int) h b b')=X l0 ((allV ltV [x] B).reverse.map encV) l2:=by
 have e:∀ n,ycb a0 a1 a2 a3 a4 a5 a6 a7 yao X (n+1) l0 ((x::B).map encV) l2 (B.length+1) (B.length+1) 0 ((B.length+1:Nat):Int) h b b'=X l0 ((allV ltV [x] B).reverse.map encV) l2:=fun n=>by
  conv=>lhs;unfold ycb
  dsimp only [lt]
  rw [wib (by omega) (by omega),cbT (by omega),wib (by omega) (by omega)]
  exact yIw l0 l2 (Y:=fun v=>X l0 v l2) (N:=B.length+1) (by omega) (fun v j=>rfl) B [x] (by simp only [qAl,qBo];omega)
 rw [exS3 rfl (R:=fun _=>_) e,exC3]
theorem yIx (l0 l1:List PV) (R:List Nat) (y x:Nat) (B:List Nat) {N:Nat} (hN:R.length+(B.length+2)=N) (hl:N<4611686018427387904) (b c:Int) {a0 a1 a2 a3 a4 a5 a6 a7 x1} (n:Nat) :
  ybb a0 a1 a2 a3 a4 a5 a6 a7 yao x1 (n+1) l0 l1 ((R.reverse++y::x::B).map encV) N N 0 b c ((R.length:Int)+1) =
  cbr (ltV x y) (ybb a0 a1 a2 a3 a4 a5 a6 a7 yao x1 n l0 l1 ((R.reverse++x::y::B).map encV) N N 0 b c (R.length:Int)) (x1 l0 l1 ((R.reverse++y::x::B).map encV) N N 0 b c ((R.length:Int)+1) false):=by
 have gx:List.getD ((R.reverse++y::x::B).map encV) (0+((R.length:Int)+1).toNat) .nils=encV x:=yIu _ _ _ _ (by omega)
 have gy:List.getD ((R.reverse++y::x::B).map encV) (0+(R.length:Int).toNat) .nils=encV y:=getV _ _ _ (by omega)
 have w:IntKind.i64.wrap ((R.length:Int)+1-1)=(R.length:Int):=by rw [wib (by omega) (by omega)];omega
 conv=>lhs;unfold ybb
 dsimp only [lt,Go.Pf.jn]
 rw [cbT (by omega),w,gx,gy]
 have hlen:((R.reverse++y::x::B).map encV).length=N:=by rw [qAe,qAb,qAy,← hN];rfl
 have k1:0+((R.length:Int)+1).toNat=R.length+1:=by omega
 have k0:0+(R.length:Int).toNat=R.length:=by omega
 have gs:List.getD (List.set ((R.reverse++y::x::B).map encV) (R.length+1) (encV y)) R.length .nils=encV y:=by
  rw [qAa,qBg (by omega),← qAa]
  rw [← gy,k0]
 have hcf:conf zI (List.getD (List.set ((R.reverse++y::x::B).map encV) (R.length+1) (encV y)) R.length .nils)=true:=by rw [gs];rfl
 have hs:(List.set ((R.reverse++y::x::B).map encV) (R.length+1) (encV y)).length=N:=by rw [qB1,hlen]
 iterate 4 refine (asTT (by first | rfl | exact decide_eq_true (by rw [hlen];omega) | exact decide_eq_true (by omega) | exact decide_eq_true hlen | exact decide_eq_true hs | exact decide_eq_true (by show _<(List.set _ _ (encV y)).length;rw [hs];omega))).trans ?_
 refine (asTT rfl).trans ?_
 iterate 4 refine (asTT (by first | rfl | exact decide_eq_true (by rw [hlen];omega) | exact decide_eq_true (by omega) | exact decide_eq_true hlen | exact decide_eq_true hs | exact decide_eq_true (by show _<(List.set _ _ (encV y)).length;rw [hs];omega))).trans ?_
 refine (asTT rfl).trans ?_
 refine (yIt x y _).trans ?_
 refine congrArg (fun z=>cbr (ltV x y) z _) ?_
 rw [k1,k0]
 iterate 4 refine (asTT (by first | rfl | exact decide_eq_true (by rw [hlen];omega) | exact decide_eq_true (by omega) | exact decide_eq_true hlen | exact decide_eq_true hs | exact decide_eq_true (by show _<(List.set _ _ (encV y)).length;rw [hs];omega))).trans ?_
 refine (asTT rfl).trans ?_
 iterate 4 refine (asTT (by first | rfl | exact decide_eq_true (by rw [hlen];omega) | exact decide_eq_true (by omega) | exact decide_eq_true hlen | exact decide_eq_true hs | exact decide_eq_true (by show _<(List.set _ _ (encV y)).length;rw [hs];omega))).trans ?_
 refine (asTT rfl).trans ?_
 iterate 4 refine (asTT (by first | rfl | exact decide_eq_true (by rw [hlen];omega) | exact decide_eq_true (by omega) | exact decide_eq_true hlen | exact decide_eq_true hs | exact decide_eq_true (by show _<(List.set _ _ (encV y)).length;rw [hs];omega))).trans ?_
 refine (asTT rfl).trans ?_
 iterate 4 refine (asTT (by first | rfl | exact decide_eq_true (by rw [hlen];omega) | exact decide_eq_true (by omega) | exact decide_eq_true hlen | exact decide_eq_true hs | exact decide_eq_true (by show _<(List.set _ _ (encV y)).length;rw [hs];omega))).trans ?_
 refine (asTT hcf).trans ?_
 have e:=setV R y x B
 show ybb _ _ _ _ _ _ _ _ _ _ _ l0 l1 (List.set (List.set ((R.reverse++y::x::B).map encV) (R.length+1) (encV y)) R.length (encV x)) _ _ _ _ _ _=_
 rw [e]
theorem yJs (l0 l1:List PV) (x:Nat) (B:List Nat) (N:Nat) (b c:Int) {a0 a1 a2 a3 a4 a5 a6 a7 a8 x1} (n:Nat) :
  ybb a0 a1 a2 a3 a4 a5 a6 a7 a8 x1 (n+1) l0 l1 ((x::B).map encV) N N 0 b c 0=x1 l0 l1 ((x::B).map encV) N N 0 b c 0 false:=by
 conv=>lhs;unfold ybb
 dsimp only [lt,Go.Pf.jn]
 rw [cbF (by omega),yab]
theorem in95 (l0 l1:List PV) {a0 a1 a2 a3 a4 a5 a6 a7 x1} (b c:Int) {N:Nat} (hl:N<4611686018427387904) {Y:List PV→Prop} (hX:∀ v j,x1 l0 l1 v N N 0 b c j false=Y v):∀ (R:List Nat) (x:Nat) (B:List Nat),R.length+(B.length+1)=N →
  (∃ n,ybb a0 a1 a2 a3 a4 a5 a6 a7 yao x1 n l0 l1 ((R.reverse++x::B).map encV) N N 0 b c (R.length:Int))=Y (((insV ltV R x).reverse++B).map encV)
 | [],x,B,hN=>by
  rw [exS3 rfl (R:=fun _=>x1 l0 l1 ((x::B).map encV) N N 0 b c 0 false) (fun n=>yJs l0 l1 x B N b c n),exC3,hX]
  rfl
 | y::R,x,B,hN=>by
  have e1:(y::R).reverse++x::B=R.reverse++y::x::B:=by rw [qBi,qAh];rfl
  have e2:(((y::R).length:Nat):Int)=(R.length:Int)+1:=by simp
  rw [qAl] at hN
  rw [e1,e2]
  have ih:=in95 (a0:=a0) (a1:=a1) (a2:=a2) (a3:=a3) (a4:=a4) (a5:=a5) (a6:=a6) (a7:=a7) l0 l1 b c hl hX R x (y::B) (by rw [qAl];omega)
  cases ht:ltV x y with
  | true =>
   rw [exS3 rfl (R:=fun n=>ybb a0 a1 a2 a3 a4 a5 a6 a7 yao x1 n l0 l1 ((R.reverse++x::y::B).map encV) N N 0 b c (R.length:Int)) (fun n=>by rw [yIx l0 l1 R y x B (by omega) hl b c n,ht,yag]),ih]
   rw [show insV ltV (y::R) x=y::insV ltV R x by (show (bif ltV x y then _ else _)=_;rw [ht];rfl),qBi,qAh]
   rfl
  | false =>
   rw [exS3 rfl (R:=fun _=>x1 l0 l1 ((R.reverse++y::x::B).map encV) N N 0 b c ((R.length:Int)+1) false) (fun n=>by rw [yIx l0 l1 R y x B (by omega) hl b c n,ht,yab]),exC3,hX]
   rw [show insV ltV (y::R) x=x::y::R by (show (bif ltV x y then _ else _)=_;rw [ht];rfl),qBi,qBi,qAh,qAh]
   rfl
theorem yIy (l0 l1:List PV) {a0 a1 a2 a3 a4 a5 a6 a7 x1} {Y:List PV→Prop} {N:Nat} (hN:N<4611686018427387904) (hX:∀ v j,x1 l0 l1 v N N 0 (N:Int) j false=Y v):∀ (B R:List Nat),R.length+B.length=N →
  (∃ n,ybd a0 a1 a2 a3 a4 a5 a6 a7 yao x1 n l0 l1 ((R.reverse++B).map encV) N N 0 (N:Int) (R.length:Int))=Y ((allV ltV R B).reverse.map encV)
 | [],R,hl=>by
  have e:∀ n,ybd a0 a1 a2 a3 a4 a5 a6 a7 yao x1 (n+1) l0 l1 ((R.reverse++[]).map encV) N N 0 (N:Int) (R.length:Int)=Y ((allV ltV R []).reverse.map encV):=fun n=>by
   conv=>lhs;unfold ybd
   rw [cbF (by simp only [qBo] at hl;omega),hX,qBt]
   rfl
  rw [exS3 rfl (R:=fun _=>_) e,exC3]
 | x::B,R,hl=>by
  have hl':R.length+(B.length+1)=N:=hl
  have ih:=yIy (a0:=a0) (a1:=a1) (a2:=a2) (a3:=a3) (a4:=a4) (a5:=a5) (a6:=a6) (a7:=a7) l0 l1 hN hX B (insV ltV R x) (by rw [yhf];omega)
  rw [yhf] at ih
  have w:IntKind.i64.wrap ((R.length:Int)+1)=(((R.length+1:Nat)):Int):=by rw [wib (by omega) (by omega)];omega
  have e:∀ n,ybd a0 a1 a2 a3 a4 a5 a6 a7 yao x1 (n+1) l0 l1 ((R.reverse++x::B).map encV) N N 0 (N:Int) (R.length:Int)=ybd a0 a1 a2 a3 a4 a5 a6 a7 yao x1 n l0 l1 (((insV ltV R x).reverse++B).map encV) N N 0 (N:Int) ((R.length+1:Nat):Int):=fun n=>by
   conv=>lhs;unfold ybd
   dsimp only [lt]
   rw [cbT (by omega)]
   refine (in95 l0 l1 (N:Int) (R.length:Int) hN (Y:=fun v=>ybd a0 a1 a2 a3 a4 a5 a6 a7 yao x1 n l0 l1 v N N 0 (N:Int) ((R.length+1:Nat):Int)) (fun v j=>by rw [w]) R x B hl')
  rw [exS3 rfl (R:=fun n=>ybd a0 a1 a2 a3 a4 a5 a6 a7 yao x1 n l0 l1 (((insV ltV R x).reverse++B).map encV) N N 0 (N:Int) ((R.length+1:Nat):Int)) e,ih]
  rfl
theorem yH5 (l0 l1:List PV) {a0 a1 a2 a3 a4 a5 a6 a7 X} (x:Nat) (B:List Nat) (hN:B.length+1≤12) (h:Int) (b b':Bool) :
  (∃ n,ycc a0 a1 a2 a3 a4 a5 a6 a7 yao X n l0 l1 ((x::B).map encV) (B.length+1) (B.length+1) 0 ((B.length+1:Nat):Int) h b b')=X l0 l1 ((allV ltV [x] B).reverse.map encV):=by
 have e:∀ n,ycc a0 a1 a2 a3 a4 a5 a6 a7 yao X (n+1) l0 l1 ((x::B).map encV) (B.length+1) (B.length+1) 0 ((B.length+1:Nat):Int) h b b'=X l0 l1 ((allV ltV [x] B).reverse.map encV):=fun n=>by
  conv=>lhs;unfold ycc
  dsimp only [lt]
  rw [wib (by omega) (by omega),cbT (by omega),wib (by omega) (by omega)]
  exact yIy l0 l1 (Y:=fun v=>X l0 l1 v) (N:=B.length+1) (by omega) (fun v j=>rfl) B [x] (by simp only [qAl,qBo];omega)
 rw [exS3 rfl (R:=fun _=>_) e,exC3]
set_option maxHeartbeats 1000000
theorem getP {α:Type} (f:α→PV) (P:List α) (x:α) (B:List α) {k:Nat} (h:k=P.length):List.getD ((P++x::B).map f) k .nils=f x:=by
 subst h
 rw [qAa,qBc,List.getElem?_append_right (qAj _),Nat.sub_self]
 rfl
theorem lr3 {a0 a1 a2 a3 a4 a5 a6 a7 a8} (C G:List PV) (i3 i4:Int) {m N:Nat} (hN:N≤100) {x3} (L:List Nat):∀ (Q P:List (Nat×Rat)) (R:List Nat),P.length+Q.length=N→m≤P.length→R.length≤P.length→L.length≤100 →
  (∃ n,yaY a0 a1 a2 a3 a4 a5 a6 a7 a8 x3 n ((P++Q).map encH) (L.map encV) (R.map encV) C G i3 i4 (m:Int) N N N N (N:Int) (P.length:Int)) =
  x3 ((P++Q).map encH) (L.map encV) ((R++Q.map Prod.fst).map encV) C G i3 i4 (m:Int) N N N N (N:Int) (N:Int) false
 | [],P,R,h,hm,hR,hL=>by
  rw [qBo] at h
  have e:∀ n,yaY a0 a1 a2 a3 a4 a5 a6 a7 a8 x3 (n+1) ((P++[]).map encH) (L.map encV) (R.map encV) C G i3 i4 (m:Int) N N N N (N:Int) (P.length:Int)=x3 ((P++[]).map encH) (L.map encV) ((R++([]:List (Nat×Rat)).map Prod.fst).map encV) C G i3 i4 (m:Int) N N N N (N:Int) (N:Int) false:=fun n=>by
   conv=>lhs;unfold yaY
   rw [cbF (by omega),show (P.length:Int)=(N:Int) by omega]
   simp only [List.map_nil,qBt]
  rw [exS3 rfl (R:=fun _=>_) e,exC3]
 | h::Q,P,R,hl,hm,hR,hL=>by
  rw [qAl] at hl
  have ih:=lr3 (a0:=a0) (a1:=a1) (a2:=a2) (a3:=a3) (a4:=a4) (a5:=a5) (a6:=a6) (a7:=a7) (a8:=a8) C G i3 i4 (m:=m) hN (x3:=x3) L Q (P++[h]) (R++[h.1]) (by rw [qAb,qAi];omega) (by rw [qAb,qAi];omega) (by rw [qAb,qAb,qAi,qAi];omega) hL
  rw [qAh,qAh,qAb,qAi] at ih
  have hlen:((P++h::Q).map encH).length=N:=by rw [qAe,qAb,qAl];omega
  have g:List.getD ((P++h::Q).map encH) (0+(P.length:Int).toNat) .nils=encH h:=getP encH P h Q (by omega)
  have w:IntKind.i64.wrap ((P.length:Int)+1)=(((P.length+1:Nat)):Int):=by rw [wib (by omega) (by omega)];omega
  have rl:(R.map encV).length=R.length:=qAe ..
  have e:∀ n,yaY a0 a1 a2 a3 a4 a5 a6 a7 a8 x3 (n+1) ((P++h::Q).map encH) (L.map encV) (R.map encV) C G i3 i4 (m:Int) N N N N (N:Int) (P.length:Int)=yaY a0 a1 a2 a3 a4 a5 a6 a7 a8 x3 n ((P++h::Q).map encH) (L.map encV) ((R++[h.1]).map encV) C G i3 i4 (m:Int) N N N N (N:Int) ((P.length+1:Nat):Int):=fun n=>by
   conv=>lhs;unfold yaY
   dsimp only [lt,Go.Pf.jn]
   rw [cbT (by omega),asT (by omega),asT (by omega),asT hlen,asT (by rw [hlen];omega),g]
   refine (asTT rfl).trans ?_
   rw [cbF (by omega),rl]
   refine (asTT (by simp)).trans ?_
   refine (asTT (by simp)).trans ?_
   refine (asTT (by simp)).trans ?_
   refine (asTT (by simp)).trans ?_
   refine (asTT (decide_eq_true (by unfold room;omega))).trans ?_
   rw [w]
   refine (asTT (by simp)).trans ?_
   rw [show (R++[h.1]).map encV=R.map encV++[encV h.1] from qBv ..]
   rfl
  rw [exS3 rfl (R:=fun n=>yaY a0 a1 a2 a3 a4 a5 a6 a7 a8 x3 n ((P++h::Q).map encH) (L.map encV) ((R++[h.1]).map encV) C G i3 i4 (m:Int) N N N N (N:Int) ((P.length+1:Nat):Int)) e]
  exact ih
theorem lr2 {a0 a1 a2 a3 a4 a5 a6 a7 a8} (C G:List PV) (i3 i4:Int) {m N:Nat} (hN:N≤100) (hmN:m<N) {x2 x3}:∀ (Q P:List (Nat×Rat)) (L:List Nat),P.length+Q.length=N→P.length≤m→L.length=P.length →
  (∃ n,yaZ a0 a1 a2 a3 a4 a5 a6 a7 a8 x2 x3 n ((P++Q).map encH) (L.map encV) C G i3 i4 (m:Int) N N N N (N:Int) (P.length:Int)) =
  x3 ((P++Q).map encH) ((L++(Q.take (m-P.length)).map Prod.fst).map encV) (((Q.drop (m-P.length)).map Prod.fst).map encV) C G i3 i4 (m:Int) N N N N (N:Int) (N:Int) false
 | [],P,L,h,hm,hL=>by
  rw [qBo] at h
  omega
 | h::Q,P,L,hl,hm,hL=>by
  rw [qAl] at hl
  have hlen:((P++h::Q).map encH).length=N:=by rw [qAe,qAb,qAl];omega
  have g:List.getD ((P++h::Q).map encH) (0+(P.length:Int).toNat) .nils=encH h:=getP encH P h Q (by omega)
  have w:IntKind.i64.wrap ((P.length:Int)+1)=(((P.length+1:Nat)):Int):=by rw [wib (by omega) (by omega)];omega
  have ll:(L.map encV).length=L.length:=qAe ..
  by_cases hlt:P.length<m
  ·have ih:=lr2 (a0:=a0) (a1:=a1) (a2:=a2) (a3:=a3) (a4:=a4) (a5:=a5) (a6:=a6) (a7:=a7) (a8:=a8) C G i3 i4 (m:=m) hN hmN (x2:=x2) (x3:=x3) Q (P++[h]) (L++[h.1]) (by rw [qAb,qAi];omega) (by rw [qAb,qAi];omega) (by rw [qAb,qAb,qAi,qAi];omega)
   rw [qAh,qAh,qAb,qAi] at ih
   have e:∀ n,yaZ a0 a1 a2 a3 a4 a5 a6 a7 a8 x2 x3 (n+1) ((P++h::Q).map encH) (L.map encV) C G i3 i4 (m:Int) N N N N (N:Int) (P.length:Int)=yaZ a0 a1 a2 a3 a4 a5 a6 a7 a8 x2 x3 n ((P++h::Q).map encH) ((L++[h.1]).map encV) C G i3 i4 (m:Int) N N N N (N:Int) ((P.length+1:Nat):Int):=fun n=>by
    conv=>lhs;unfold yaZ
    dsimp only [lt,Go.Pf.jn]
    rw [cbT (by omega),asT (by omega),asT (by omega),asT hlen,asT (by rw [hlen];omega),g]
    refine (asTT rfl).trans ?_
    rw [cbT (by omega),ll]
    refine (asTT (by simp)).trans ?_
    refine (asTT (by simp)).trans ?_
    refine (asTT (by simp)).trans ?_
    refine (asTT (by simp)).trans ?_
    refine (asTT (decide_eq_true (by unfold room;omega))).trans ?_
    rw [w]
    refine (asTT (by simp)).trans ?_
    rw [show (L++[h.1]).map encV=L.map encV++[encV h.1] from qBv ..]
    rfl
   rw [exS3 rfl (R:=fun n=>yaZ a0 a1 a2 a3 a4 a5 a6 a7 a8 x2 x3 n ((P++h::Q).map encH) ((L++[h.1]).map encV) C G i3 i4 (m:Int) N N N N (N:Int) ((P.length+1:Nat):Int)) e]
   refine Eq.trans ih ?_
   rw [show m-P.length=(m-(P.length+1))+1 by omega,List.take_succ_cons,List.drop_succ_cons]
   rfl
  ·have em:m=P.length:=by omega
   have e:∀ n,yaZ a0 a1 a2 a3 a4 a5 a6 a7 a8 x2 x3 (n+1) ((P++h::Q).map encH) (L.map encV) C G i3 i4 (m:Int) N N N N (N:Int) (P.length:Int)=yaY a0 a1 a2 a3 a4 a5 a6 a7 a8 x3 n (((P++[h])++Q).map encH) (L.map encV) ([h.1].map encV) C G i3 i4 (m:Int) N N N N (N:Int) (((P++[h]).length:Nat):Int):=fun n=>by
    conv=>lhs;unfold yaZ
    dsimp only [lt,Go.Pf.jn]
    rw [cbT (by omega),asT (by omega),asT (by omega),asT hlen,asT (by rw [hlen];omega),g]
    refine (asTT rfl).trans ?_
    rw [cbF (by omega),w]
    refine (asTT (by simp)).trans ?_
    rw [qAh,qAb]
    rfl
   rw [exS3 rfl (R:=fun n=>yaY a0 a1 a2 a3 a4 a5 a6 a7 a8 x3 n (((P++[h])++Q).map encH) (L.map encV) ([h.1].map encV) C G i3 i4 (m:Int) N N N N (N:Int) (((P++[h]).length:Nat):Int)) e]
   rw [lr3 C G i3 i4 (m:=m) hN L Q (P++[h]) [h.1] (by rw [qAb,qAi];omega) (by rw [qAb];omega) (by rw [qAb,qAi];exact Nat.le_add_left _ _) (by omega),qAh,show m-P.length=0 by omega,List.take_zero,qCc,List.map_nil,qBt]
   rfl
theorem lr1 {a0 a1 a2 a3 a4 a5 a6 a7 a8} (C G:List PV) (i3 i4:Int) {m N:Nat} (hN:N≤100) (hm:1≤m) (hmN:m<N) {x1 x2 x3 x4 x5} (H:List (Nat×Rat)) (hH:H.length=N) :
  (∃ n,ydc a0 a1 a2 a3 a4 a5 a6 a7 a8 x1 x2 x3 x4 x5 n (H.map encH) C G i3 i4 (m:Int) N N N N (N:Int) 0) =
  x3 (H.map encH) (((H.take m).map Prod.fst).map encV) (((H.drop m).map Prod.fst).map encV) C G i3 i4 (m:Int) N N N N (N:Int) (N:Int) false:=by
 obtain ⟨h,Q,rfl⟩:∃ h Q,H=h::Q:=by
  cases H with
  | nil=>simp at hH;omega
  | cons h Q=>exact ⟨h,Q,rfl⟩
 have hl:Q.length+1=N:=hH
 have hlen:((h::Q).map encH).length=N:=by rw [qAe];exact hH
 have e:∀ n,ydc a0 a1 a2 a3 a4 a5 a6 a7 a8 x1 x2 x3 x4 x5 (n+1) ((h::Q).map encH) C G i3 i4 (m:Int) N N N N (N:Int) 0=yaZ a0 a1 a2 a3 a4 a5 a6 a7 a8 x2 x3 n (([h]++Q).map encH) ([h.1].map encV) C G i3 i4 (m:Int) N N N N (N:Int) (([h].length:Nat):Int):=fun n=>by
  conv=>lhs;unfold ydc
  dsimp only [lt,Go.Pf.jn]
  rw [cbT (by omega),asT (by omega),asT (by omega),asT hlen,asT (by rw [hlen];omega)]
  refine (asTT rfl).trans ?_
  rw [cbT (by omega)]
  refine (asTT (by simp)).trans ?_
  rfl
 rw [exS3 rfl (R:=fun n=>yaZ a0 a1 a2 a3 a4 a5 a6 a7 a8 x2 x3 n (([h]++Q).map encH) ([h.1].map encV) C G i3 i4 (m:Int) N N N N (N:Int) (([h].length:Nat):Int)) e]
 rw [lr2 C G i3 i4 (m:=m) hN hmN Q [h] [h.1] (by rw [qAi];omega) (by rw [qAi];omega) rfl]
 rw [show m=(m-1)+1 by omega,List.take_succ_cons,List.drop_succ_cons]
 rfl
set_option maxHeartbeats 1000000
theorem mk11 {l:List Ck} {a0 a1 a2 a3 a4 a6 a7 a8} {q0 q1 p0 p1 r0 r1 z1 z2 m:Int} {M N:Nat} (hN:N≤100) (f:Nat→Rat) (g:Nat→List Qy) (g2:∀ a,(g a).length≤2) {x2 x3}:∀ (Q P:List Nat) (H:List (Nat×Rat)) (lg:List Qy),P.length+Q.length=N→H.length=P.length→lg.length+2*Q.length≤M→(∀ a∈Q,a<1000) →
  (∀ a∈Q,∀ lg:List Qy,lg.length+2≤M→∀ K,yam (cks l) (logs lg) a q0 q1 p0 p1 r0 r1 K=K (cks l) (logs (lg++g a)) (f a).num (f a).den 0) →
  (∃ n,yaB a0 a1 a2 a3 a4 yam a6 a7 a8 x2 x3 n (H.map encH) (cks l) (logs lg) q0 q1 p0 p1 z1 z2 m r0 r1 ((P++Q).map encV) (N:Int) (P.length:Int)) =
  x2 ((H++Q.map fun a=>(a,f a)).map encH) (cks l) (logs (lg++Q.flatMap g)) q0 q1 p0 p1 z1 z2 m r0 r1 ((P++Q).map encV) (N:Int) (N:Int) false
 | [],P,H,lg,h,hH,hL,hA,hM=>by
  rw [qBo] at h
  have e:∀ n,yaB a0 a1 a2 a3 a4 yam a6 a7 a8 x2 x3 (n+1) (H.map encH) (cks l) (logs lg) q0 q1 p0 p1 z1 z2 m r0 r1 ((P++[]).map encV) (N:Int) (P.length:Int)=x2 ((H++([]:List Nat).map fun a=>(a,f a)).map encH) (cks l) (logs (lg++([]:List Nat).flatMap g)) q0 q1 p0 p1 z1 z2 m r0 r1 ((P++[]).map encV) (N:Int) (N:Int) false:=fun n=>by
   conv=>lhs;unfold yaB
   rw [cbF (by omega),show (P.length:Int)=(N:Int) by omega]
   simp only [List.map_nil,qBt,List.flatMap_nil]
  rw [exS3 rfl (R:=fun _=>_) e,exC3]
 | a::Q,P,H,lg,hl,hH,hL,hA,hM=>by
  rw [qAl] at hl hL
  have ga:=g2 a
  have ih:=mk11 (a0:=a0) (a1:=a1) (a2:=a2) (a3:=a3) (a4:=a4) (a6:=a6) (a7:=a7) (a8:=a8) (q0:=q0) (q1:=q1) (p0:=p0) (p1:=p1) (r0:=r0) (r1:=r1) (z1:=z1) (z2:=z2) (m:=m) (M:=M) hN f g g2 (x2:=x2) (x3:=x3) Q (P++[a]) (H++[(a,f a)]) (lg++g a) (by rw [qAb,qAi];omega) (by rw [qAb,qAb,qAi,qAi];omega) (by rw [qAb];omega) (fun b hb=>hA b (qAk _ hb)) (fun b hb=>hM b (qAk _ hb))
  rw [qAh,qAh,qAh,qAb,qAi] at ih
  have gt:List.getD ((P++a::Q).map encV) (P.length:Int).toNat .nils=encV a:=getP encV P a Q (by omega)
  have w:IntKind.i64.wrap ((P.length:Int)+1)=(((P.length+1:Nat)):Int):=by rw [wib (by omega) (by omega)];omega
  have hlen:((P++a::Q).map encV).length=N:=by rw [qAe,qAb,qAl];omega
  have lh:(H.map encH).length=H.length:=qAe ..
  have e:∀ n,yaB a0 a1 a2 a3 a4 yam a6 a7 a8 x2 x3 (n+1) (H.map encH) (cks l) (logs lg) q0 q1 p0 p1 z1 z2 m r0 r1 ((P++a::Q).map encV) (N:Int) (P.length:Int)=yaB a0 a1 a2 a3 a4 yam a6 a7 a8 x2 x3 n ((H++[(a,f a)]).map encH) (cks l) (logs (lg++g a)) q0 q1 p0 p1 z1 z2 m r0 r1 ((P++a::Q).map encV) (N:Int) ((P.length+1:Nat):Int):=fun n=>by
   conv=>lhs;unfold yaB
   dsimp only [lt,Go.Pf.jn]
   rw [cbT (by omega),asT (by omega),asT (by rw [hlen];omega),gt]
   refine (asTT rfl).trans ?_
   refine (hM a (qAt ..) lg (by omega) _).trans ?_
   rw [cnF rfl,lh]
   refine (asTT (by simp)).trans ?_
   refine (asTT (by simp)).trans ?_
   refine (asTT (by simp)).trans ?_
   refine (asTT (by simp)).trans ?_
   refine (asTT (decide_eq_true (by unfold room;omega))).trans ?_
   rw [w]
   refine (asTT (by simp)).trans ?_
   rw [show (H++[(a,f a)]).map encH=H.map encH++[encH (a,f a)] from qBv ..]
   rfl
  rw [exS3 rfl (R:=fun n=>yaB a0 a1 a2 a3 a4 yam a6 a7 a8 x2 x3 n ((H++[(a,f a)]).map encH) (cks l) (logs (lg++g a)) q0 q1 p0 p1 z1 z2 m r0 r1 ((P++a::Q).map encV) (N:Int) ((P.length+1:Nat):Int)) e]
  exact ih
theorem mk10 {l:List Ck} {a0 a1 a2 a3 a4 a6 a7 a8} {q0 q1 p0 p1 r0 r1 z1 z2 m:Int} {M N:Nat} (hN:N≤100) (f:Nat→Rat) (g:Nat→List Qy) (g2:∀ a,(g a).length≤2) {x0 x1 x2 x3} (A:List Nat) (lg:List Qy) (hA:A.length=N) (h1:1≤N) (hL:lg.length+2*N≤M) (hs:∀ a∈A,a<1000)
  (hM:∀ a∈A,∀ lg:List Qy,lg.length+2≤M→∀ K,yam (cks l) (logs lg) a q0 q1 p0 p1 r0 r1 K=K (cks l) (logs (lg++g a)) (f a).num (f a).den 0) :
  (∃ n,ya8 a0 a1 a2 a3 a4 yam a6 a7 a8 x0 x1 x2 x3 n (cks l) (logs lg) q0 q1 p0 p1 z1 z2 m r0 r1 (A.map encV) (N:Int) 0) =
  x2 ((A.map fun a=>(a,f a)).map encH) (cks l) (logs (lg++A.flatMap g)) q0 q1 p0 p1 z1 z2 m r0 r1 (A.map encV) (N:Int) (N:Int) false:=by
 obtain ⟨a,Q,rfl⟩:∃ a Q,A=a::Q:=by
  cases A with
  | nil=>simp at hA;omega
  | cons a Q=>exact ⟨a,Q,rfl⟩
 have ga:=g2 a
 rw [qAl] at hA
 have ih:=mk11 (a0:=a0) (a1:=a1) (a2:=a2) (a3:=a3) (a4:=a4) (a6:=a6) (a7:=a7) (a8:=a8) (q0:=q0) (q1:=q1) (p0:=p0) (p1:=p1) (r0:=r0) (r1:=r1) (z1:=z1) (z2:=z2) (m:=m) (M:=M) hN f g g2 (x2:=x2) (x3:=x3) Q [a] [(a,f a)] (lg++g a) (by rw [qAi];omega) rfl (by rw [qAb];omega) (fun b hb=>hs b (qAk _ hb)) (fun b hb=>hM b (qAk _ hb))
 rw [qAh] at ih
 have hlen:((a::Q).map encV).length=N:=by rw [qAe,qAl];omega
 have e:∀ n,ya8 a0 a1 a2 a3 a4 yam a6 a7 a8 x0 x1 x2 x3 (n+1) (cks l) (logs lg) q0 q1 p0 p1 z1 z2 m r0 r1 ((a::Q).map encV) (N:Int) 0=yaB a0 a1 a2 a3 a4 yam a6 a7 a8 x2 x3 n ([(a,f a)].map encH) (cks l) (logs (lg++g a)) q0 q1 p0 p1 z1 z2 m r0 r1 (([a]++Q).map encV) (N:Int) (([a].length:Nat):Int):=fun n=>by
  conv=>lhs;unfold ya8
  dsimp only [lt,Go.Pf.jn]
  rw [cbT (by omega),asT (by omega),asT (by rw [hlen];omega)]
  refine (asTT rfl).trans ?_
  refine (hM a (qAt ..) lg (by omega) _).trans ?_
  rw [cnF rfl]
  refine (asTT (by simp)).trans ?_
  rfl
 rw [exS3 rfl (R:=fun n=>yaB a0 a1 a2 a3 a4 yam a6 a7 a8 x2 x3 n ([(a,f a)].map encH) (cks l) (logs (lg++g a)) q0 q1 p0 p1 z1 z2 m r0 r1 (([a]++Q).map encV) (N:Int) (([a].length:Nat):Int)) e]
 exact ih
set_option maxHeartbeats 1000000
def yjJ {α:Type} (lt:α→α→Bool):List α→List α
 | []=>[]
 | x::B=>(allV lt [x] B).reverse
theorem yCK {α:Type} (lt:α→α→Bool):∀ B R:List α,(allV lt R B).length=R.length+B.length
 | [],R=>rfl
 | x::B,R=>by
  show (allV lt (insV lt R x) B).length=_
  rw [yCK lt B,yhf,qAl]
  omega
theorem yCL {α:Type} (lt:α→α→Bool) {z:α}:∀ B R:List α,z∈allV lt R B↔z∈R∨z∈B
 | [],R=>by simp [allV]
 | x::B,R=>by
  show z∈allV lt (insV lt R x) B↔_
  rw [yCL lt B,ysp,qAv]
  exact ⟨fun h=>by rcases h with (h | h) | h <;> simp [h],fun h=>by rcases h with h | h | h <;> simp [h]⟩
theorem yh3 {α:Type} (lt:α→α→Bool) (l:List α):(yjJ lt l).length=l.length:=by
 cases l with
 | nil=>rfl
 | cons x B=>show (allV lt [x] B).reverse.length=_;rw [qAy,yCK];simp only [qAl,qBo];omega
theorem ytH {α:Type} (lt:α→α→Bool) {z:α} (l:List α):z∈yjJ lt l↔z∈l:=by
 cases l with
 | nil=>exact Iff.rfl
 | cons x B=>show z∈(allV lt [x] B).reverse↔_;rw [List.mem_reverse,yCL,List.mem_singleton,qAv]
theorem lenH {p:Int} (hp:U64 p) (K:Int→Prop):yc8 p K=K (blen p.toNat:Int):=yB8 _ _ (fun _ h=>yCx hp h) K
theorem getE {A:List Nat} {k:Nat} (h:k<A.length):List.getD (A.map encV) k .nils=encV (A.getD k 0):=by
 rw [qAa,qBc,qAa,qAc h]
 rfl
theorem chk0 {a0 a1 a2 a3 a4 a5 a6 a7 a8 x0} (C G:List PV) {q0 q1 p0 p1 z1 z2:Int} (A:List Nat) (hN:A.length≤100) (hs:∀ i,i+1<A.length→A.getD i 0<A.getD (i+1) 0):∀ (d i:Nat),i+d=A.length→1≤i →
  (∃ n,ybl a0 a1 a2 a3 a4 a5 a6 a7 a8 x0 n (A.map encV) C G q0 q1 p0 p1 z1 z2 true (i:Int))=x0 (A.map encV) C G q0 q1 p0 p1 z1 z2 true (A.length:Int) false
 | 0,i,h,h1=>by
  have e:∀ n,ybl a0 a1 a2 a3 a4 a5 a6 a7 a8 x0 (n+1) (A.map encV) C G q0 q1 p0 p1 z1 z2 true (i:Int)=x0 (A.map encV) C G q0 q1 p0 p1 z1 z2 true (A.length:Int) false:=fun n=>by
   conv=>lhs;unfold ybl
   rw [cbF (by rw [qAe];omega),show (i:Int)=(A.length:Int) by omega]
  rw [exS3 rfl (R:=fun _=>_) e,exC3]
 | d+1,i,h,h1=>by
  have ih:=chk0 (a0:=a0) (a1:=a1) (a2:=a2) (a3:=a3) (a4:=a4) (a5:=a5) (a6:=a6) (a7:=a7) (a8:=a8) (x0:=x0) C G (q0:=q0) (q1:=q1) (p0:=p0) (p1:=p1) (z1:=z1) (z2:=z2) A hN hs d (i+1) (by omega) (by omega)
  have w1:IntKind.i64.wrap ((i:Int)-1)=((i-1:Nat):Int):=by rw [wib (by omega) (by omega)];omega
  have w2:IntKind.i64.wrap ((i:Int)+1)=((i+1:Nat):Int):=by rw [wib (by omega) (by omega)];omega
  have hlt:=hs (i-1) (by omega)
  rw [show i-1+1=i by omega] at hlt
  have e:∀ n,ybl a0 a1 a2 a3 a4 a5 a6 a7 a8 x0 (n+1) (A.map encV) C G q0 q1 p0 p1 z1 z2 true (i:Int)=ybl a0 a1 a2 a3 a4 a5 a6 a7 a8 x0 n (A.map encV) C G q0 q1 p0 p1 z1 z2 true ((i+1:Nat):Int):=fun n=>by
   conv=>lhs;unfold ybl
   dsimp only [lt,Go.Pf.jn]
   rw [cbT (by rw [qAe];omega),yag,w1,asT (by omega),asT (by rw [qAe];omega),qAg,getE (by omega)]
   refine (asTT rfl).trans ?_
   rw [asT (by omega),asT (by rw [qAe];omega),qAg,getE (by omega)]
   refine (asTT rfl).trans ?_
   rw [w2,show decide (yaa (encV (A.getD (i-1) 0))<yaa (encV (A.getD i 0)))=true from decide_eq_true (by show ((A.getD (i-1) 0:Nat):Int)<((A.getD i 0:Nat):Int);omega)]
  rw [exS3 rfl (R:=fun n=>ybl a0 a1 a2 a3 a4 a5 a6 a7 a8 x0 n (A.map encV) C G q0 q1 p0 p1 z1 z2 true ((i+1:Nat):Int)) e]
  exact ih
set_option maxHeartbeats 1000000
theorem l21H {a0 a1 a2 a3 a4 a5 a6 a7 a8 x1} (v:List PV) {N:Nat} (h:N<20):(∃ n,yeh a0 a1 a2 a3 a4 a5 a6 a7 a8 x1 n v (N:Int) 20 0 20)=x1 v (N:Int) 20 0 20 false:=by
 rw [exS3 rfl (R:=fun _=>x1 v (N:Int) 20 0 20 false) (fun n=>by unfold yeh;exact cbF (by omega)),exC3]
theorem l51H {a0 a1 a2 a3 a4 a5 a6 a7 a8 x1} (v:List PV) {N:Nat} (h:N<20):(∃ n,yei a0 a1 a2 a3 a4 a5 a6 a7 a8 x1 n v N N (N:Int) 20)=x1 v N N (N:Int) 20 false:=by
 rw [exS3 rfl (R:=fun _=>x1 v N N (N:Int) 20 false) (fun n=>by unfold yei;exact cbF (by omega)),exC3]
theorem yJt {a0 a1 a2 a3 a4 a5 a6 a8 x1} {Y:List PV→Prop} (H:List (Nat×Rat)) {N:Nat} (hN:N=H.length) (h1:1≤N) (h2:N≤100) (hX:∀ v j,x1 v 0 (N:Int) j false=Y v) (hs:∀ y∈H,small y.2) :
  (∃ n,ya0 a0 a1 a2 a3 a4 a5 a6 yax a8 x1 n (H.map encH) 0 (N:Int) 1)=Y ((yjJ ltH H).map encH):=by
 subst hN
 obtain ⟨x,B,rfl⟩:∃ x B,H=x::B:=by
  cases H with
  | nil=>simp at h1
  | cons x B=>exact ⟨x,B,rfl⟩
 exact out3 (N:=(x::B).length) (by omega) hX B [x] (by simp only [qAl,qBo];omega) (fun y hy=>hs y (by simp only [List.mem_singleton] at hy;rw [hy];exact qAt ..)) (fun y hy=>hs y (qAk _ hy))
theorem yI4 (l0 l2:List PV) {a0 a1 a2 a3 a4 a5 a6 a7 X} (L:List Nat) (h1:1≤L.length) (h2:L.length≤12) (h:Int) (b b':Bool) {M:Nat} (hM:M=L.length) :
  (∃ n,ycb a0 a1 a2 a3 a4 a5 a6 a7 yao X n l0 (L.map encV) l2 M M 0 (M:Int) h b b')=X l0 ((yjJ ltV L).map encV) l2:=by
 subst hM
 obtain ⟨x,B,rfl⟩:∃ x B,L=x::B:=by
  cases L with
  | nil=>simp at h1
  | cons x B=>exact ⟨x,B,rfl⟩
 exact yH4 l0 l2 x B h2 h b b'
theorem yI5 (l0 l1:List PV) {a0 a1 a2 a3 a4 a5 a6 a7 X} (L:List Nat) (h1:1≤L.length) (h2:L.length≤12) (h:Int) (b b':Bool) {M:Nat} (hM:M=L.length) :
  (∃ n,ycc a0 a1 a2 a3 a4 a5 a6 a7 yao X n l0 l1 (L.map encV) M M 0 (M:Int) h b b')=X l0 l1 ((yjJ ltV L).map encV):=by
 subst hM
 obtain ⟨x,B,rfl⟩:∃ x B,L=x::B:=by
  cases L with
  | nil=>simp at h1
  | cons x B=>exact ⟨x,B,rfl⟩
 exact yH5 l0 l1 x B h2 h b b'
def ybA (A:List Nat):Rat:=(((A.length / 2:Nat):Int):Rat) / ((A.length:Int):Rat)
def hsS (A:List Nat) (f:Nat→Rat):List (Nat×Rat):=yjJ ltH (A.map fun a=>(a,f a))
def lftS (A:List Nat) (f:Nat→Rat):List Nat:=yjJ ltV (((hsS A f).take (A.length / 2)).map Prod.fst)
def rgtS (A:List Nat) (f:Nat→Rat):List Nat:=yjJ ltV (((hsS A f).drop (A.length / 2)).map Prod.fst)
def cutH (A:List Nat) (f:Nat→Rat):Rat:=((hsS A f).getD (A.length / 2-1) (0,0)).2
theorem yCM {l:List Ck} (hd:DK l) (A:List Nat) (h2:2≤A.length) (h12:A.length≤12) (hs:∀ i,i+1<A.length→A.getD i 0<A.getD (i+1) 0) (hA:∀ a∈A,a<l.length) {q p:Rat} (sq:small q) (sp:small p) (q0:0≤q) (qp:q<p) (p1:p≤lenR l) (sr:small (ybA A))
  (f:Nat→Rat) (g:Nat→List Qy) (g2:∀ a,(g a).length≤2) (sf:∀ a∈A,small (f a)) {lg:List Qy} {M:Nat} (hm:lg.length+2*A.length≤M) (hM2:M≤2000)
  (hM:∀ a∈A,∀ lg:List Qy,lg.length+2≤M→∀ K,yam (cks l) (logs lg) a q.num q.den p.num p.den (ybA A).num (ybA A).den K=K (cks l) (logs (lg++g a)) (f a).num (f a).den 0) (K) :
  yau (cks l) (logs lg) (A.map encV) q.num q.den p.num p.den K=K (cks l) (logs (lg++A.flatMap g)) (cutH A f).num (cutH A f).den ((lftS A f).map encV) ((rgtS A f).map encV) 0:=by
 have n6:=hd.n6
 have la:(A.map encV).length=A.length:=qAe ..
 have hl0:0<l.length:=Nat.lt_of_le_of_lt (qBh _) (hA (A.getD 0 0) (by rw [qAa,qAc (show 0<A.length by omega)];exact qBl ..))
 have hlast:A.getD (A.length-1) 0<l.length:=hA _ (by rw [qAa,qAc (show A.length-1<A.length by omega)];exact qBl ..)
 have hlen:=(hd.ok 0 hl0).len0
 have hL:lenR l≤1000:=qA0.2 hlen.2
 have hL0:0≤lenR l:=qB5 q0 (qB5 (qA2 qp) p1)
 have sL:small (lenR l):=sm3 (D:=1) (In.int (by decide) _) ⟨by decide,by decide⟩ (by grind) (by grind)
 have lnum:(lenR l).num=(l.getD 0 default).len:=qB9 _
 have lden:(((lenR l).den:Nat):Int)=1:=by unfold lenR;rw [qCa];rfl
 have ord:∀ K,yaK p.num p.den (l.getD 0 default).len 1 K=K (cmpQ p (lenR l)):=fun K=>by
  rw [← lnum,← lden]
  unfold yaK yeC
  rw [ylX sp sL]
 unfold yau ydC
 dsimp only [lt,Go.Pf.jn]
 rw [yfO hd.fin (by omega),hd.err (by rw [ycS];omega),cnF rfl,la,cbT (by omega),asT (by omega),getE (A:=A) (k:=0) (by omega)]
 refine (asTT rfl).trans ?_
 rw [cbT (show yaa (encV (A.getD 0 0))≥0 by show ((A.getD 0 0:Nat):Int)≥0;omega)]
 rw [show IntKind.i64.wrap ((A.length:Int)-1)=((A.length-1:Nat):Int) by rw [wib (by omega) (by omega)];omega]
 refine (asTT (decide_eq_true (by omega))).trans ?_
 refine (asTT (decide_eq_true (by omega))).trans ?_
 rw [qAg,getE (by omega)]
 refine (asTT rfl).trans ?_
 rw [ybg,show decide (yaa (encV (A.getD (A.length-1) 0))<(l.length:Int))=true from decide_eq_true (by show ((A.getD (A.length-1) 0:Nat):Int)<_;omega)]
 refine (chk0 (cks l) (logs lg) A (by omega) hs (A.length-1) 1 (by omega) (by omega)).trans ?_
 rw [ylX sq sp,qAw,yab,cnF rfl,yAZ,decide_eq_true qp,qAw,yab,cbF (by have:=Rat.num_nonneg.2 q0;omega),ybg]
 refine (asTT (decide_eq_true (by omega))).trans ?_
 rw [ydE hl0,asCk,ck0,yiN,ord,yA0,decide_eq_false (by grind),yab,la]
 rw [show IntKind.i64.wrap (Int.tdiv (A.length:Int) 2)=((A.length / 2:Nat):Int) by rw [Int.tdiv_eq_ediv_of_nonneg (by omega),wib (by omega) (by omega)];omega]
 have mkR:∀ K,yaN ((A.length / 2:Nat):Int) (A.length:Int) K=K (ybA A).num (ybA A).den 0:=fun K=>by
  rw [yCC ⟨by omega,by omega⟩ ⟨by omega,by omega⟩ (by omega)]
  show fitK (ybA A) K=_
  rw [ycl,if_pos sr]
 rw [mkR]
 refine (mk10 (M:=M) (N:=A.length) (by omega) f g g2 A lg rfl (by omega) hm (fun a ha=>by have:=hA a ha;omega) hM).trans ?_
 have lH:((A.map fun a=>(a,f a)).map encH).length=A.length:=by simp
 have lS:(hsS A f).length=A.length:=by unfold hsS;rw [yh3,qAe]
 have lL:((((hsS A f).take (A.length / 2)).map Prod.fst).map encV).length=A.length / 2:=by simp only [qAe,qAu];omega
 have lR:((((hsS A f).drop (A.length / 2)).map Prod.fst).map encV).length=A.length-A.length / 2:=by simp only [qAe,qAs];omega
 refine (asTT (by simp)).trans ?_
 rw [lH]
 refine (l21H _ (by omega)).trans ?_
 refine (asTT (by simp)).trans ?_
 refine (yJt (A.map fun a=>(a,f a)) (N:=A.length) (by simp) (by omega) (by omega) (fun v j=>rfl) (fun y hy=>by
  obtain ⟨a,ha,rfl⟩:=List.mem_map.1 hy
  exact sf a ha)).trans ?_
 rw [lH]
 refine (l51H _ (by omega)).trans ?_
 refine (lr1 (cks l) _ 0 0 (m:=A.length / 2) (N:=A.length) (by omega) (by omega) (by omega) (hsS A f) lS).trans ?_
 have lLs:((lftS A f).map encV).length=A.length / 2:=by unfold lftS;rw [qAe,yh3];simp only [qAe,qAu];omega
 have lRs:((rgtS A f).map encV).length=A.length-A.length / 2:=by unfold rgtS;rw [qAe,yh3];simp only [qAe,qAs];omega
 have lHS:((hsS A f).map encH).length=A.length:=by rw [qAe,lS]
 have gH:List.getD ((hsS A f).map encH) (A.length / 2-1) .nils=encH ((hsS A f).getD (A.length / 2-1) (0,0)):=by
  have hk:A.length / 2-1<(hsS A f).length:=by omega
  rw [qAa,qBc,qAa,qAc hk]
  rfl
 rw [lL,wu64 ⟨by omega,by omega⟩,lenH ⟨by omega,by omega⟩]
 refine (yI4 _ _ (((hsS A f).take (A.length / 2)).map Prod.fst) (by simp only [qAe,qAu];omega) (by simp only [qAe,qAu];omega) _ _ _ (M:=A.length / 2) (by simp only [qAe,qAu];omega)).trans ?_
 rw [lR,wu64 ⟨by omega,by omega⟩,lenH ⟨by omega,by omega⟩]
 refine (yI5 _ _ (((hsS A f).drop (A.length / 2)).map Prod.fst) (by simp only [qAe,qAs];omega) (by simp only [qAe,qAs];omega) _ _ _ (M:=A.length-A.length / 2) (by simp only [qAe,qAs];omega)).trans ?_
 rw [show IntKind.i64.wrap (((A.length / 2:Nat):Int)-1)=((A.length / 2-1:Nat):Int) by rw [wib (by omega) (by omega)];omega]
 refine (asTT (decide_eq_true (by omega))).trans ?_
 refine (asTT (decide_eq_true (by omega))).trans ?_
 refine (asTT (decide_eq_true lHS)).trans ?_
 refine (asTT (decide_eq_true (by rw [lHS];omega))).trans ?_
 rw [qAg,qBq,gH]
 refine (asTT rfl).trans ?_
 refine (asTT (decide_eq_true lLs)).trans ?_
 refine (asTT (decide_eq_true (by omega))).trans ?_
 refine (asTT (decide_eq_true lRs)).trans ?_
 refine (asTT (decide_eq_true (by omega))).trans ?_
 have t1:List.take (A.length / 2) ((lftS A f).map encV)=(lftS A f).map encV:=qAz (by omega)
 have t2:List.take (A.length-A.length / 2) ((rgtS A f).map encV)=(rgtS A f).map encV:=qAz (by omega)
 show K _ _ _ _ (List.take (A.length / 2) ((lftS A f).map encV)) (List.take (A.length-A.length / 2) ((rgtS A f).map encV)) 0=_
 rw [t1,t2]
 rfl
set_option maxHeartbeats 1000000
theorem ysq {A:List Nat} (h2:2≤A.length) (h6:A.length≤6):small (ybA A)∧0<ybA A∧ybA A<1:=by
 unfold ybA
 obtain h | h | h | h | h:A.length=2∨A.length=3∨A.length=4∨A.length=5∨A.length=6:=by omega
 all_goals
  rw [h]
  decide +kernel
theorem yH6 {A:List Nat} (h2:2≤A.length) {D:Int} (hD:1≤D) {v:Rat} (h:In D v):In ((A.length:Int)*D) (v*ybA A):=by
 have:=(h.mulI ((A.length / 2:Nat):Int)).div hD (d:=(A.length:Int)) (by omega)
 unfold ybA
 rw [Rat.div_def,← Rat.mul_assoc,← Rat.div_def]
 exact this
structure HV (l:List Ck) (A:List Nat) (q p:Rat) (D:Int):Prop where
 len:1≤A.length∧A.length≤6
 srt:A.Pairwise (fun a b=>a<b)
 mem:∀ a∈A,a<l.length
 q0:0≤q
 p1:p≤lenR l
 D1:1≤D∧D≤100000000
 iq:In D q
 ip:In D p
 qp:q<p
 pos:∀ a∈A,0<vXA l a p-vXA l a q
def fA (l:List Ck) (A:List Nat) (q p:Rat) (a:Nat):Rat:=hAt l a q p (ybA A)
def gA (l:List Ck) (A:List Nat) (q p:Rat) (a:Nat):List Qy:=hLog l a q p (ybA A)
section
variable {l:List Ck} {A:List Nat} {q p:Rat} {D:Int}
theorem HV.sm (hd:DK l) (h:HV l A q p D) (h2:2≤A.length) {a:Nat} (ha:a∈A):small q∧small p∧small (vXA l a p-vXA l a q)∧small ((vXA l a p-vXA l a q)*ybA A)∧MkV l a q ((vXA l a p-vXA l a q)*ybA A) ((A.length:Int)*D):=by
 have D1:=h.D1
 have l6:=h.len.2
 have hal:=h.mem a ha
 have h0:0<l.length:=by omega
 have hL:lenR l≤1000:=qA0.2 (hd.ok 0 h0).len0.2
 have k:=ysq h2 h.len.2
 have q0:=h.q0
 have p1:=h.p1
 have qp:=qA2 h.qp
 have b:0≤vXA l a p-vXA l a q∧vXA l a p-vXA l a q≤totR l a:=yHf hd hal (s:=(q,p)) h.q0 (qA2 h.qp) h.p1
 have t:=yIq hd hal
 have iv:In D (vXA l a p-vXA l a q):=yJo D1.1 (s:=(q,p)) ⟨h.iq,h.ip⟩
 have iw:=yH6 h2 D1.1 iv
 have w0:0≤(vXA l a p-vXA l a q)*ybA A:=Rat.mul_nonneg b.1 (qA2 k.2.1)
 have w1:(vXA l a p-vXA l a q)*ybA A≤vXA l a p-vXA l a q:=by
  have:=qBm (qA2 k.2.2) b.1
  rwa [Rat.mul_one] at this
 have k6:(A.length:Int)*D≤6*D:=qAo (by omega) (by omega)
 have k1:2*D≤(A.length:Int)*D:=qAo (by omega) (by omega)
 have mp:=yxs hd hal p1
 exact ⟨sm3 h.iq ⟨D1.1,by omega⟩ (by grind) (by grind),sm3 h.ip ⟨D1.1,by omega⟩ (by grind) (by grind),sm3 iv ⟨D1.1,by omega⟩ (by grind) (by grind),sm3 iw ⟨by omega,by omega⟩ (by grind) (by grind),yI2 hd hal q0 (qB5 qp p1) w0 (by grind) (by omega) (by omega) (h.iq.up D1.1 (by omega)) iw⟩
theorem HV.mark (hd:DK l) (h:HV l A q p D) (h2:2≤A.length):∀ a∈A,∀ lg:List Qy,lg.length+2≤2000→∀ K,yam (cks l) (logs lg) a q.num q.den p.num p.den (ybA A).num (ybA A).den K=K (cks l) (logs (lg++gA l A q p a)) (fA l A q p a).num (fA l A q p a).den 0:=fun a ha lg hm K=>by
 obtain ⟨s1,s2,s3,s4,m⟩:=h.sm hd h2 ha
 have k:=ysq h2 h.len.2
 have:=h.D1
 exact yJp hd (h.mem a ha) s1 s2 k.1 h.q0 (qA2 h.qp) h.p1 (qA2 k.2.1) ⟨h.D1.1,by omega⟩ h.iq h.ip s3 s4 (qA2 (h.pos a ha)) m (by omega) K
end
section
variable {α:Type} {lt:α→α→Bool}
theorem yy5 (x:α):∀ R:List α,(insV lt R x).Perm (x::R)
 | []=>List.Perm.refl _
 | y::R=>by
  unfold insV
  cases lt x y with
  | true=>rw [cond_true];exact ((yy5 x R).cons y).trans (List.Perm.swap x y R)
  | false=>exact List.Perm.refl _
theorem yy6:∀ B R:List α,(allV lt R B).Perm (R++B)
 | [],R=>by rw [qBt];exact List.Perm.refl _
 | x::B,R=>by
  refine (yy6 B (insV lt R x)).trans ?_
  refine ((yy5 x R).append_right B).trans ?_
  exact List.perm_middle.symm
theorem ylZ (l:List α):(yjJ lt l).Perm l:=by
 cases l with
 | nil=>exact List.Perm.refl _
 | cons x B=>exact (List.reverse_perm _).trans (yy6 B [x])
theorem yCN (h1:∀ a b,lt a b=true→lt b a=false) (h2:∀ a b c,lt a b=false→lt b c=false→lt a c=false) (x:α):∀ R:List α,R.Pairwise (fun a b=>lt a b=false)→(insV lt R x).Pairwise (fun a b=>lt a b=false)
 | [],_=>by unfold insV;exact List.pairwise_singleton _ _
 | y::R,h=>by
  obtain ⟨k1,k2⟩:=List.pairwise_cons.1 h
  unfold insV
  cases hx:lt x y with
  | true =>
   rw [cond_true]
   refine List.pairwise_cons.2 ⟨fun z hz=>?_,yCN h1 h2 x R k2⟩
   rcases (ysp lt x).1 hz with rfl | hz
   ·exact h1 _ _ hx
   ·exact k1 z hz
  | false =>
   rw [cond_false]
   refine List.pairwise_cons.2 ⟨fun z hz=>?_,h⟩
   rcases qAv.1 hz with rfl | hz
   ·exact hx
   ·exact h2 _ _ _ hx (k1 z hz)
theorem yCO (h1:∀ a b,lt a b=true→lt b a=false) (h2:∀ a b c,lt a b=false→lt b c=false→lt a c=false):∀ B R:List α,R.Pairwise (fun a b=>lt a b=false)→(allV lt R B).Pairwise (fun a b=>lt a b=false)
 | [],_,h=>h
 | x::B,R,h=>yCO h1 h2 B (insV lt R x) (yCN h1 h2 x R h)
theorem yy7 (h1:∀ a b,lt a b=true→lt b a=false) (h2:∀ a b c,lt a b=false→lt b c=false→lt a c=false) (l:List α):(yjJ lt l).Pairwise (fun a b=>lt b a=false):=by
 cases l with
 | nil=>exact List.Pairwise.nil
 | cons x B=>exact List.pairwise_reverse.2 (yCO h1 h2 B [x] (List.pairwise_singleton _ _))
end
theorem yH7 {x y:Nat}:ltV x y=true↔x<y:=by unfold ltV;rw [decide_eq_true_eq];omega
theorem ysr {x y:Nat}:ltV x y=false↔y≤x:=by unfold ltV;rw [decide_eq_false_iff_not];omega
theorem yH8 {x y:Nat×Rat}:ltH x y=true↔x.2<y.2:=by unfold ltH;rw [yCI,decide_eq_true_eq]
theorem yss {x y:Nat×Rat}:ltH x y=false↔y.2≤x.2:=by unfold ltH;rw [yCI,decide_eq_false_iff_not];exact Rat.not_lt
theorem yHg (l:List Nat):(yjJ ltV l).Pairwise (fun a b=>a≤b):=by
 have:=yy7 (lt:=ltV) (fun a b h=>ysr.2 (Nat.le_of_lt (yH7.1 h))) (fun a b c h k=>ysr.2 (qBk (ysr.1 k) (ysr.1 h))) l
 exact this.imp (S:=fun a b=>a≤b) fun h=>ysr.1 h
theorem yCP (l:List (Nat×Rat)):(yjJ ltH l).Pairwise (fun a b=>a.2≤b.2):=by
 have:=yy7 (lt:=ltH) (fun a b h=>yss.2 (qA2 (yH8.1 h))) (fun a b c h k=>yss.2 (qB5 (yss.1 k) (yss.1 h))) l
 exact this.imp (S:=fun a b=>a.2≤b.2) fun h=>yss.1 h
theorem yst {l:List Nat} (h:l.Nodup):(yjJ ltV l).Pairwise (fun a b=>a<b):=by
 have hn:(yjJ ltV l).Nodup:=(ylZ l).nodup_iff.2 h
 exact ((yHg l).and hn).imp (S:=fun a b=>a<b) fun h=>Nat.lt_of_le_of_ne h.1 h.2
theorem yvn {l:List Nat} (h:l.Pairwise (fun a b=>a<b)) (i:Nat) (hi:i+1<l.length):l.getD i 0<l.getD (i+1) 0:=by
 rw [qAa,qAa,qAc (by omega),qAc hi]
 exact List.pairwise_iff_getElem.1 h i (i+1) (by omega) hi (by omega)
set_option maxHeartbeats 1000000
section
variable {l:List Ck} {A:List Nat} {q p:Rat} {D:Int}
theorem yEb {f:Nat→Rat} {h:Nat×Rat} (hh:h∈hsS A f):h.1∈A∧h.2=f h.1:=by
 unfold hsS at hh
 rw [ytH] at hh
 obtain ⟨a,ha,rfl⟩:=List.mem_map.1 hh
 exact ⟨ha,rfl⟩
theorem yvo (f:Nat→Rat):((hsS A f).map Prod.fst).Perm A:=by
 have:=(ylZ (lt:=ltH) (A.map fun a=>(a,f a))).map Prod.fst
 rw [List.map_map] at this
 exact this.trans (by rw [show (Prod.fst ∘ fun a=>(a,f a))=id from rfl,List.map_id])
theorem yl6 (f:Nat→Rat):(hsS A f).length=A.length:=by unfold hsS;rw [yh3,qAe]
theorem HV.nodup (h:HV l A q p D) (f:Nat→Rat):((hsS A f).map Prod.fst).Nodup:=(yvo f).nodup_iff.2 (h.srt.imp fun k=>Nat.ne_of_lt k)
theorem yH9 {f:Nat→Rat} {a:Nat}:a∈lftS A f↔a∈((hsS A f).take (A.length / 2)).map Prod.fst:=ytH ltV _
theorem yIa {f:Nat→Rat} {a:Nat}:a∈rgtS A f↔a∈((hsS A f).drop (A.length / 2)).map Prod.fst:=ytH ltV _
theorem yfk (f:Nat→Rat):(lftS A f).length=A.length / 2:=by unfold lftS;rw [yh3,qAe,qAu,yl6];omega
theorem yg6 (f:Nat→Rat):(rgtS A f).length=A.length-A.length / 2:=by unfold rgtS;rw [yh3,qAe,qAs,yl6]
theorem HV.lsrt (h:HV l A q p D) (f:Nat→Rat):(lftS A f).Pairwise (fun a b=>a<b):=by
 unfold lftS
 refine yst ?_
 rw [List.map_take]
 exact (h.nodup f).sublist (List.take_sublist _ _)
theorem HV.rsrt (h:HV l A q p D) (f:Nat→Rat):(rgtS A f).Pairwise (fun a b=>a<b):=by
 unfold rgtS
 refine yst ?_
 rw [List.map_drop]
 exact (h.nodup f).sublist (List.drop_sublist _ _)
theorem yA5 {f:Nat→Rat} (h2:2≤A.length):∃ b∈A,cutH A f=f b:=by
 have hk:A.length / 2-1<(hsS A f).length:=by rw [yl6];omega
 have e:(hsS A f).getD (A.length / 2-1) (0,0)=(hsS A f)[A.length / 2-1]:=by rw [qAa,qAc hk];rfl
 have:=yEb (qBl hk)
 refine ⟨_,this.1,?_⟩
 unfold cutH
 rw [e]
 exact this.2
theorem yxt {f:Nat→Rat} (h2:2≤A.length) {a:Nat} (ha:a∈lftS A f):a∈A∧f a≤cutH A f:=by
 obtain ⟨h,hh,rfl⟩:=List.mem_map.1 (yH9.1 ha)
 obtain ⟨i,hi,rfl⟩:=List.getElem_of_mem hh
 rw [qAu,yl6] at hi
 have hi':i<(hsS A f).length:=by rw [yl6];omega
 rw [List.getElem_take]
 have k:=yEb (qBl hi')
 have hk:A.length / 2-1<(hsS A f).length:=by rw [yl6];omega
 refine ⟨k.1,?_⟩
 rw [← k.2]
 unfold cutH
 rw [qAa,qAc hk]
 show _≤((hsS A f)[A.length / 2-1]).2
 by_cases e:i=A.length / 2-1
 ·subst e;exact qBz
 ·exact List.pairwise_iff_getElem.1 (yCP _) i (A.length / 2-1) hi' hk (by omega)
theorem yxu {f:Nat→Rat} (h2:2≤A.length) {a:Nat} (ha:a∈rgtS A f):a∈A∧cutH A f≤f a:=by
 obtain ⟨h,hh,rfl⟩:=List.mem_map.1 (yIa.1 ha)
 obtain ⟨i,hi,rfl⟩:=List.getElem_of_mem hh
 rw [qAs,yl6] at hi
 have hi':A.length / 2+i<(hsS A f).length:=by rw [yl6];omega
 rw [List.getElem_drop]
 have k:=yEb (qBl hi')
 have hk:A.length / 2-1<(hsS A f).length:=by rw [yl6];omega
 refine ⟨k.1,?_⟩
 rw [← k.2]
 unfold cutH
 rw [qAa,qAc hk]
 exact List.pairwise_iff_getElem.1 (yCP _) (A.length / 2-1) (A.length / 2+i) hk hi' (by omega)
end
set_option maxHeartbeats 1000000
section
variable {l:List Ck} {A:List Nat} {q p:Rat} {D:Int}
theorem HV.split (hd:DK l) (h:HV l A q p D) (h2:2≤A.length) (hD:72*D≤100000000):∃ D',D'≤72*D∧HV l (lftS A (fA l A q p)) q (cutH A (fA l A q p)) D'∧HV l (rgtS A (fA l A q p)) (cutH A (fA l A q p)) p D':=by
 have D1:=h.D1
 have l6:=h.len.2
 obtain ⟨b,hb,eb⟩:=yA5 (f:=fA l A q p) h2
 have k:=ysq h2 l6
 have M:∀ a∈A,MkV l a q ((vXA l a p-vXA l a q)*ybA A) ((A.length:Int)*D):=fun a ha=>(h.sm hd h2 ha).2.2.2.2
 have ef:∀ a,fA l A q p a=mkV l a q ((vXA l a p-vXA l a q)*ybA A):=fun a=>rfl
 have w0:∀ a∈A,0<(vXA l a p-vXA l a q)*ybA A:=fun a ha=>Rat.mul_pos (h.pos a ha) k.2.1
 have w1:∀ a∈A,(vXA l a p-vXA l a q)*ybA A<vXA l a p-vXA l a q:=fun a ha=>by
  have:=Rat.mul_lt_mul_of_pos_left k.2.2 (h.pos a ha)
  rwa [Rat.mul_one] at this
 obtain ⟨d,hd12,hc⟩:=(M b hb).d
 rw [← ef,← eb] at hc
 have k6:(A.length:Int)*D≤6*D:=qAo (by omega) (by omega)
 have k1:2*D≤(A.length:Int)*D:=qAo (by omega) (by omega)
 have d6:d*((A.length:Int)*D)≤12*((A.length:Int)*D):=qAo (by omega) (by omega)
 have d1:1*((A.length:Int)*D)≤d*((A.length:Int)*D):=qAo (by omega) (by omega)
 have iq:=(h.iq.up D1.1 (d:=(A.length:Int)) (by omega)).up (by omega) hd12.1
 have ip:=(h.ip.up D1.1 (d:=(A.length:Int)) (by omega)).up (by omega) hd12.1
 have cl:cutH A (fA l A q p)≤lenR l:=by rw [eb,ef];exact (M b hb).le
 have cq:q≤cutH A (fA l A q p):=by rw [eb,ef];exact (M b hb).ge
 have posL:∀ a∈lftS A (fA l A q p),0<vXA l a (cutH A (fA l A q p))-vXA l a q:=fun a ha=>by
  obtain ⟨m,hle⟩:=yxt h2 ha
  have:=yxs hd (h.mem a m) hle
  rw [ef,(M a m).eqv] at this
  have:=w0 a m
  grind
 have posR:∀ a∈rgtS A (fA l A q p),0<vXA l a p-vXA l a (cutH A (fA l A q p)):=fun a ha=>by
  obtain ⟨m,hle⟩:=yxu h2 ha
  have:=yxs hd (h.mem a m) hle
  rw [ef a,(M a m).eqv] at this
  have:=w1 a m
  grind
 have exL:∃ a,a∈lftS A (fA l A q p):=List.exists_mem_of_length_pos (by rw [yfk];omega)
 have exR:∃ a,a∈rgtS A (fA l A q p):=List.exists_mem_of_length_pos (by rw [yg6];omega)
 have qc:q<cutH A (fA l A q p):=by
  obtain ⟨a,ha⟩:=exL
  have:=posL a ha
  exact lt3 hd (h.mem a (yxt h2 ha).1) (by grind)
 have cp:cutH A (fA l A q p)<p:=by
  obtain ⟨a,ha⟩:=exR
  have:=posR a ha
  exact lt3 hd (h.mem a (yxu h2 ha).1) (by grind)
 refine ⟨d*((A.length:Int)*D),by omega,?_,?_⟩
 ·exact ⟨by rw [yfk];omega,h.lsrt _,fun a ha=>h.mem a (yxt h2 ha).1,h.q0,cl,⟨by omega,by omega⟩,iq,hc,qc,posL⟩
 ·exact ⟨by rw [yg6];omega,h.rsrt _,fun a ha=>h.mem a (yxu h2 ha).1,qB5 h.q0 cq,h.p1,⟨by omega,by omega⟩,hc,ip,cp,posR⟩
theorem yJu (hd:DK l) (h:HV l A q p D) (h2:2≤A.length):∀ a∈A,small (fA l A q p a):=fun a ha=>by
 have m:=(h.sm hd h2 ha).2.2.2.2
 have D1:=h.D1
 have l6:=h.len.2
 have k6:(A.length:Int)*D≤6*D:=qAo (by omega) (by omega)
 have k1:2*D≤(A.length:Int)*D:=qAo (by omega) (by omega)
 exact m.sm hd (by omega) (by omega) h.q0
theorem yA6 (a:Nat):(gA l A q p a).length≤2:=by
 unfold gA hLog
 cases hAsk l q p <;> simp
theorem HV.run (hd:DK l) (h:HV l A q p D) (h2:2≤A.length) {lg:List Qy} (hm:lg.length+2*A.length≤2000) (K) :
  yau (cks l) (logs lg) (A.map encV) q.num q.den p.num p.den K=K (cks l) (logs (lg++A.flatMap (gA l A q p))) (cutH A (fA l A q p)).num (cutH A (fA l A q p)).den ((lftS A (fA l A q p)).map encV) ((rgtS A (fA l A q p)).map encV) 0:=by
 obtain ⟨a,ha⟩:=List.exists_mem_of_length_pos (l:=A) (by omega)
 obtain ⟨s1,s2,_⟩:=h.sm hd h2 ha
 exact yCM hd A h2 (by have:=h.len.2;omega) (yvn h.srt) h.mem s1 s2 h.q0 h.qp h.p1 (ysq h2 h.len.2).1 _ _ yA6 (yJu hd h h2) hm (qAj _) (h.mark hd h2) K
end
set_option maxHeartbeats 1000000
def dvM (l:List Ck):Nat→List Nat→Rat→Rat→List (Nat×RS)×List Qy
 | 0,_,_,_=>([],[])
 | n+1,A,q,p =>
  if A.length≤1 then ([(A.getD 0 0,(q,p))],[])
  else
   let L:=dvM l n (lftS A (fA l A q p)) q (cutH A (fA l A q p))
   let R:=dvM l n (rgtS A (fA l A q p)) (cutH A (fA l A q p)) p
   (L.1++R.1,A.flatMap (gA l A q p)++(L.2++R.2))
section
variable {l:List Ck}
theorem ysu {n:Nat} {A:List Nat} {q p:Rat} (h:A.length≤1):dvM l (n+1) A q p=([(A.getD 0 0,(q,p))],[]):=by
 unfold dvM
 rw [if_pos h]
theorem yvp {n:Nat} {A:List Nat} {q p:Rat} (h:2≤A.length):dvM l (n+1) A q p=((dvM l n (lftS A (fA l A q p)) q (cutH A (fA l A q p))).1++(dvM l n (rgtS A (fA l A q p)) (cutH A (fA l A q p)) p).1,A.flatMap (gA l A q p)++((dvM l n (lftS A (fA l A q p)) q (cutH A (fA l A q p))).2++(dvM l n (rgtS A (fA l A q p)) (cutH A (fA l A q p)) p).2)):=by
 conv=>lhs;unfold dvM
 rw [if_neg (by omega)]
theorem yIb {A:List Nat} (f:Nat→Rat):(lftS A f++rgtS A f).Perm A:=by
 have h1:(lftS A f).Perm (((hsS A f).take (A.length / 2)).map Prod.fst):=ylZ _
 have h2:(rgtS A f).Perm (((hsS A f).drop (A.length / 2)).map Prod.fst):=ylZ _
 refine (h1.append h2).trans ?_
 rw [← qBv,List.take_append_drop]
 exact yvo f
end
set_option maxHeartbeats 1000000
section
variable {l:List Ck} {A:List Nat} {q p:Rat} {D:Int}
theorem yIc (h2:2≤A.length):ybA A*(((A.length:Nat):Int):Rat)=(((A.length / 2:Nat):Int):Rat):=by
 unfold ybA
 exact Rat.div_mul_cancel (by
  have:(0:Rat)<(((A.length:Nat):Int):Rat):=Rat.intCast_pos.2 (by omega)
  grind)
end
theorem yvq {α β:Type} (g:α→List β) (c:Nat):∀ A:List α,(∀ a∈A,(g a).length≤c)→(A.flatMap g).length≤c*A.length
 | [],_=>by simp
 | a::A,h=>by
  have ih:=yvq g c A fun b hb=>h b (qAk _ hb)
  have:=h a (qAt ..)
  rw [List.flatMap_cons,qAb,qAl,Nat.mul_add,Nat.mul_one]
  omega
section
variable {l:List Ck}
theorem yvr:∀ (n:Nat) (A:List Nat) (q p:Rat),A.length≤2 ^ n→1≤A.length→(dvM l (n+1) A q p).2.length≤2*A.length*n
 | 0,A,q,p,h,h1=>by
  have h:A.length≤1:=h
  rw [ysu h]
  simp
 | n+1,A,q,p,h,h1=>by
  by_cases h2:A.length≤1
  ·rw [ysu h2];exact qBh _
  ·have e2:2 ^ (n+1)=2*2 ^ n:=by rw [Nat.pow_succ,Nat.mul_comm]
   have f1:=yvq (gA l A q p) 2 A fun a _=>yA6 a
   have k1:=yvr n (lftS A (fA l A q p)) q (cutH A (fA l A q p)) (by rw [yfk];omega) (by rw [yfk];omega)
   have k2:=yvr n (rgtS A (fA l A q p)) (cutH A (fA l A q p)) p (by rw [yg6];omega) (by rw [yg6];omega)
   rw [yfk] at k1
   rw [yg6] at k2
   rw [yvp (by omega)]
   simp only [qAb]
   have e:2*A.length*(n+1)=2*(A.length / 2)*n+2*(A.length-A.length / 2)*n+2*A.length:=by
    rw [← qAq,Nat.mul_add,Nat.mul_one]
    congr 2
    omega
   omega
end
set_option maxHeartbeats 1000000
theorem cbYY {c:Bool} {P Q:Prop} (h:c=true):cbr c P Q=P:=by rw [h,yag]
theorem cbNN {c:Bool} {P Q:Prop} (h:c=false):cbr c P Q=Q:=by rw [h,yab]
def encT (t:List Nat×RS):PV:=.agg [.data (t.1.map encV),.int .i64 t.2.1.num,.int .i64 (t.2.1.den:Int),.int .i64 t.2.2.num,.int .i64 (t.2.2.den:Int)]
def setP:List (List RS)→List (Nat×RS)→List (List RS)
 | X,[]=>X
 | X,x::r=>setP (X.set x.1 [x.2]) r
theorem yxv:∀ (a b:List (Nat×RS)) (X:List (List RS)),setP X (a++b)=setP (setP X a) b
 | [],_,_=>rfl
 | x::a,b,X=>yxv a b (X.set x.1 [x.2])
theorem ysv:∀ (a:List (Nat×RS)) (X:List (List RS)),(setP X a).length=X.length
 | [],_=>rfl
 | x::a,X=>by
  show (setP (X.set x.1 [x.2]) a).length=_
  rw [ysv a,qB1]
theorem yHh (X:List (List RS)) (a:Nat) (s:RS):List.set (rspL X) a (.data (rsp [s]))=rspL (X.set a [s]):=by
 unfold rspL
 rw [List.map_set]
theorem topT (S:List (List Nat×RS)) (t:List Nat×RS) (J:List PV) {k:Nat} (h:k=S.length):List.getD ((S++[t]).map encT++J) k .nils=encT t:=by
 subst h
 rw [qAa,qBv,qAh,List.getElem?_append_right (by rw [qAe];exact qAj _),qAe,Nat.sub_self]
 rfl
theorem h13o {a0 a1 a2 x6 x7} (l0 l2 C G:List PV) (S:List (List Nat×RS)) (a:Nat) (s:RS) (J:List PV) (X:List (List RS)) {N M:Nat} (hX:X.length=N) (ha:a<N) (hN:N≤100) (hS:S.length≤100) (hM:((S++[([a],s)]).map encT++J).length=M) (n:Nat) :
  yaD a0 a1 a2 x6 x7 (n+1) l0 (rspL X) l2 ((S++[([a],s)]).map encT++J) N N N C G (S.length+1) M=yaD a0 a1 a2 x6 x7 n l0 (rspL (X.set a [s])) l2 (S.map encT++(encT ([a],s)::J)) N N N C G S.length M:=by
 have gt:List.getD ((S++[([a],s)]).map encT++J) (0+(S.length:Int).toNat) .nils=encT ([a],s):=topT S _ J (by omega)
 have w:IntKind.i64.wrap (((S.length+1:Nat):Int)-1)=(S.length:Int):=by rw [wib (by omega) (by omega)];omega
 have hl:S.length+(J.length+1)=M:=by rw [← hM,qAb,qAe,qAb,qAi];omega
 have lX:(rspL X).length=N:=by rw [yCJ,hX]
 have gx:List.getD (rspL X) (0+(a:Int).toNat) .nils=.data (rsp (X.getD a [])):=by rw [show 0+(a:Int).toNat=a by omega];exact yH3 (by omega)
 conv=>lhs;unfold yaD
 dsimp only [lt,Go.Pf.jn]
 rw [cbT (by omega),w,gt]
 refine (asTT (decide_eq_true (by omega))).trans ?_
 refine (asTT (decide_eq_true (by omega))).trans ?_
 refine (asTT (decide_eq_true hM)).trans ?_
 refine (asTT (decide_eq_true (by rw [hM];omega))).trans ?_
 refine (asTT rfl).trans ?_
 refine (asTT (decide_eq_true (by omega))).trans ?_
 refine (asTT (by rw [decide_eq_true (by omega)];rfl)).trans ?_
 refine (cbYY rfl).trans ?_
 refine (asTT rfl).trans ?_
 refine (asTT rfl).trans ?_
 refine (asTT (decide_eq_true (show (0:Int)≤(a:Int) by omega))).trans ?_
 refine (asTT (decide_eq_true (show (a:Int)<(N:Int) by omega))).trans ?_
 refine (asTT (decide_eq_true lX)).trans ?_
 refine (asTT (decide_eq_true (show 0+(a:Int).toNat<_ by rw [lX];omega))).trans ?_
 refine (asTT (show conf zD (List.getD (rspL X) (0+(a:Int).toNat) .nils)=true by rw [gx];rfl)).trans ?_
 show yaD a0 a1 a2 x6 x7 n l0 (List.set (rspL X) (0+(a:Int).toNat) (.data (rsp [s]))) l2 ((S++[([a],s)]).map encT++J) N N N C G (((S.length:Int)-0).toNat) M=_
 rw [show 0+(a:Int).toNat=a by omega,yHh,show ((S.length:Int)-0).toNat=S.length by omega,qBv,qAh]
 rfl
theorem h13t {a0 a1 x6 x7} (l0 l1 l2 C G C' G':List PV) (S:List (List Nat×RS)) (A L R:List Nat) (q p c:Rat) (J:List PV) {N M:Nat} (hS:S.length≤100) (hM:((S++[(A,(q,p))]).map encT++J).length=M) (h2:2≤A.length)
  (hs:∀ K,yau C G (A.map encV) q.num q.den p.num p.den K=K C' G' c.num c.den (L.map encV) (R.map encV) 0) :
  ∃ J' M',((S++[(R,(c,p)),(L,(q,c))]).map encT++J').length=M'∧∀ n,yaD a0 a1 yau x6 x7 (n+1) l0 l1 l2 ((S++[(A,(q,p))]).map encT++J) N N N C G (S.length+1) M=yaD a0 a1 yau x6 x7 n l0 l1 l2 ((S++[(R,(c,p)),(L,(q,c))]).map encT++J') N N N C' G' (S.length+2) M':=by
 have gt:List.getD ((S++[(A,(q,p))]).map encT++J) (0+(S.length:Int).toNat) .nils=encT (A,(q,p)):=topT S _ J (by omega)
 have w:IntKind.i64.wrap (((S.length+1:Nat):Int)-1)=(S.length:Int):=by rw [wib (by omega) (by omega)];omega
 have hl:S.length+(J.length+1)=M:=by rw [← hM,qAb,qAe,qAb,qAi];omega
 have z:((S.length:Int)-0).toNat=S.length:=by omega
 have tk:List.take S.length ((S++[(A,(q,p))]).map encT++J)=S.map encT:=by
  rw [qBv,qAh,List.take_append_of_le_length (by rw [qAe];exact qAj _),qAz (by rw [qAe];exact qAj _)]
 have e2:(S++[(R,(c,p)),(L,(q,c))]).map encT=S.map encT++[encT (R,(c,p)),encT (L,(q,c))]:=by rw [qBv];rfl
 have red:∀ n,yaD a0 a1 yau x6 x7 (n+1) l0 l1 l2 ((S++[(A,(q,p))]).map encT++J) N N N C G (S.length+1) M =
   cbr (decide (0+S.length+2≤M))
    (yaD a0 a1 yau x6 x7 n l0 l1 l2 (List.take (0+S.length) ((S++[(A,(q,p))]).map encT++J)++([encT (R,(c,p)),encT (L,(q,c))]++List.drop (0+S.length+2) ((S++[(A,(q,p))]).map encT++J))) N N N C' G' (S.length+2) M)
    (yaD a0 a1 yau x6 x7 n l0 l1 l2 (List.take S.length ((S++[(A,(q,p))]).map encT++J)++[encT (R,(c,p)),encT (L,(q,c))]) N N N C' G' (S.length+2) (S.length+2)):=fun n=>by
  conv=>lhs;unfold yaD
  dsimp only [lt,Go.Pf.jn]
  rw [cbT (by omega),w,gt,z]
  refine (asTT (decide_eq_true (by omega))).trans ?_
  refine (asTT (decide_eq_true (by omega))).trans ?_
  refine (asTT (decide_eq_true hM)).trans ?_
  refine (asTT (decide_eq_true (by rw [hM];omega))).trans ?_
  refine (asTT rfl).trans ?_
  refine (asTT (decide_eq_true (by omega))).trans ?_
  refine (asTT (by rw [decide_eq_true (by omega)];rfl)).trans ?_
  refine (cbNN (show ((((A.map encV).length:Nat):Int) == 1)=false from beq_eq_false_iff_ne.2 (by rw [qAe];omega))).trans ?_
  refine (hs _).trans ?_
  rw [cnF rfl]
  refine (asTT (decide_eq_true hM)).trans ?_
  refine (asTT (decide_eq_true (by omega))).trans ?_
  refine congrArg (fun z=>cbr (decide (0+S.length+2≤M)) _ z) ?_
  refine (asTT (decide_eq_true (by omega))).trans ?_
  exact (asTT (decide_eq_true (by unfold room;omega)))
 by_cases hf:0+S.length+2≤M
 ·refine ⟨List.drop (0+S.length+2) ((S++[(A,(q,p))]).map encT++J),M,?_,fun n=>?_⟩
  ·rw [e2,qAb,qAb,qAs,hM,qAe]
   simp only [qAl,qBo]
   omega
  ·rw [red n,cbT hf,qBq,tk,e2,qAh]
 ·refine ⟨[],S.length+2,?_,fun n=>?_⟩
  ·rw [e2,qBt,qAb,qAe]
   rfl
  ·rw [red n,cbF hf,tk,e2,qBt]
set_option maxHeartbeats 1000000
theorem h13 {a0 a1 x6 x7} {l:List Ck} (hd:DK l) (l0 l2:List PV):∀ (n:Nat) (A:List Nat) (q p:Rat) (D:Int),HV l A q p D→A.length≤2 ^ n→(72:Int) ^ n*D≤100000000→∀ (S:List (List Nat×RS)) (J:List PV) (X:List (List RS)) (lg:List Qy) (M:Nat),X.length=l.length→S.length+n≤100→lg.length+2*A.length*n≤2000→((S++[(A,(q,p))]).map encT++J).length=M →
  ∃ J' M',(S.map encT++J').length=M' ∧
  (∃ k,yaD a0 a1 yau x6 x7 k l0 (rspL X) l2 ((S++[(A,(q,p))]).map encT++J) l.length l.length l.length (cks l) (logs lg) (S.length+1) M) =
  (∃ k,yaD a0 a1 yau x6 x7 k l0 (rspL (setP X (dvM l (n+1) A q p).1)) l2 (S.map encT++J') l.length l.length l.length (cks l) (logs (lg++(dvM l (n+1) A q p).2)) S.length M')
 | n,A,q,p,D,hv,hA,hD,S,J,X,lg,M,hX,hS,hlg,hM=>by
  have n6:=hd.n6
  have h1:=hv.len.1
  by_cases h2:A.length≤1
  ·obtain ⟨a,rfl⟩:∃ a,A=[a]:=by
    match A,h1,h2 with
    | [a],_,_=>exact ⟨a,rfl⟩
   rw [ysu h2]
   refine ⟨encT ([a],(q,p))::J,M,?_,?_⟩
   ·rw [← hM,qBv,qAh]
    rfl
   ·rw [exS3 rfl (R:=fun k=>_) (h13o l0 l2 (cks l) (logs lg) S a (q,p) J X hX (hv.mem a qAt) (by omega) (by omega) hM),qBt]
    rfl
  ·match n,hA,hD,hS,hlg with
   | 0,hA,_,_,_=>exact absurd hA (by rw [Nat.pow_zero];omega)
   | n+1,hA,hD,hS,hlg =>
   have e2:2 ^ (n+1)=2*2 ^ n:=by rw [Nat.pow_succ,Nat.mul_comm]
   have e72:(72:Int) ^ (n+1)*D=72 ^ n*(72*D):=by rw [Int.pow_succ,Int.mul_assoc]
   have p72:(1:Int)≤72 ^ n:=by
    have:(0:Int)<72 ^ n:=Int.pow_pos (by omega)
    omega
   have D1:=hv.D1.1
   have d72:1*(72*D)≤72 ^ n*(72*D):=qAo p72 (by omega)
   obtain ⟨D',hD',hl,hr⟩:=hv.split hd (by omega) (by omega)
   have d':(72:Int) ^ n*D'≤72 ^ n*(72*D):=Int.mul_le_mul_of_nonneg_left hD' (by omega)
   have eL:=yfk (A:=A) (fA l A q p)
   have eR:=yg6 (A:=A) (fA l A q p)
   have hg:(A.flatMap (gA l A q p)).length≤2*A.length:=yvq _ 2 A fun a _=>yA6 a
   have eA:2*A.length*(n+1)=2*A.length*n+2*A.length:=Nat.mul_succ ..
   have eS:2*A.length*n=2*(lftS A (fA l A q p)).length*n+2*(rgtS A (fA l A q p)).length*n:=by rw [← qAq,eL,eR];congr 1;omega
   have run:=fun K=>hv.run hd (by omega) (lg:=lg) (by omega) K
   obtain ⟨J1,M1,hM1,st⟩:=h13t (a0:=a0) (a1:=a1) (x6:=x6) (x7:=x7) l0 (rspL X) l2 _ _ _ _ S A _ _ q p _ J (N:=l.length) (by omega) hM (by omega) run
   obtain ⟨J2,M2,hM2,i1⟩:=h13 (a0:=a0) (a1:=a1) (x6:=x6) (x7:=x7) hd l0 l2 n (lftS A (fA l A q p)) q (cutH A (fA l A q p)) D' hl (by rw [eL];omega) (by omega) (S++[(rgtS A (fA l A q p),(cutH A (fA l A q p),p))]) J1 X (lg++A.flatMap (gA l A q p)) M1 hX (by rw [qAb,qAi];omega) (by rw [qAb];omega) (by rw [qAh];exact hM1)
   have hlL:(dvM l (n+1) (lftS A (fA l A q p)) q (cutH A (fA l A q p))).2.length≤2*(lftS A (fA l A q p)).length*n:=yvr n _ _ _ (by rw [eL];omega) (by rw [eL];omega)
   obtain ⟨J3,M3,hM3,i2⟩:=h13 (a0:=a0) (a1:=a1) (x6:=x6) (x7:=x7) hd l0 l2 n (rgtS A (fA l A q p)) (cutH A (fA l A q p)) p D' hr (by rw [eR];omega) (by omega) S J2 (setP X (dvM l (n+1) (lftS A (fA l A q p)) q (cutH A (fA l A q p))).1) (lg++A.flatMap (gA l A q p)++(dvM l (n+1) (lftS A (fA l A q p)) q (cutH A (fA l A q p))).2) M2 (by rw [ysv];exact hX) (by omega) (by rw [qAb,qAb];omega) hM2
   refine ⟨J3,M3,hM3,?_⟩
   rw [exS3 rfl (R:=fun k=>_) st,yvp (by omega),yxv,← qAh,← qAh]
   rw [qAb,qAi,qAh] at i1
   exact i1.trans i2
set_option maxHeartbeats 1000000
theorem hr01 {a0 a1 a2 x1} {N:Nat} (hN:N≤100) (l1 l2 l3:List PV) (i6 i7 i8 i9:Int):∀ (d i:Nat),i+d=N→1≤i →
  (∃ n,ybE a0 a1 a2 x1 n ((List.range i).map encV) l1 l2 l3 i6 i7 i8 i9 (N:Int) (i:Int))=x1 ((List.range N).map encV) l1 l2 l3 i6 i7 i8 i9 (N:Int) (N:Int) false
 | 0,i,h,h1=>by
  have h:i=N:=h
  subst h
  have e:∀ n,ybE a0 a1 a2 x1 (n+1) ((List.range i).map encV) l1 l2 l3 i6 i7 i8 i9 (i:Int) (i:Int)=x1 ((List.range i).map encV) l1 l2 l3 i6 i7 i8 i9 (i:Int) (i:Int) false:=fun n=>by
   conv=>lhs;unfold ybE
   rw [cbF (by omega)]
  rw [exS3 rfl (R:=fun _=>_) e,exC3]
 | d+1,i,h,h1=>by
  have ih:=hr01 (a0:=a0) (a1:=a1) (a2:=a2) (x1:=x1) hN l1 l2 l3 i6 i7 i8 i9 d (i+1) (by omega) (by omega)
  have w:IntKind.i64.wrap ((i:Int)+1)=((i+1:Nat):Int):=by rw [wib (by omega) (by omega)];omega
  have lr:((List.range i).map encV).length=i:=by rw [qAe,List.length_range]
  have e:∀ n,ybE a0 a1 a2 x1 (n+1) ((List.range i).map encV) l1 l2 l3 i6 i7 i8 i9 (N:Int) (i:Int)=ybE a0 a1 a2 x1 n ((List.range (i+1)).map encV) l1 l2 l3 i6 i7 i8 i9 (N:Int) ((i+1:Nat):Int):=fun n=>by
   conv=>lhs;unfold ybE
   dsimp only [lt,Go.Pf.jn]
   rw [cbT (by omega),w,lr]
   refine (asTT (by simp)).trans ?_
   refine (asTT (by simp)).trans ?_
   refine (asTT (by simp)).trans ?_
   refine (asTT (by simp)).trans ?_
   refine (asTT (decide_eq_true (by unfold room;omega))).trans ?_
   refine (asTT (by simp)).trans ?_
   rw [List.range_succ,qBv]
   rfl
  rw [exS3 rfl (R:=fun _=>_) e,ih]
theorem hr00 {a0 a1 a2 x0 x1} {N:Nat} (h0:1≤N) (hN:N≤100) (l1 l2 l3:List PV) (i6 i7 i8 i9:Int) :
  (∃ n,yd1 a0 a1 a2 x0 x1 n l1 l2 l3 i6 i7 i8 i9 (N:Int) 0)=x1 ((List.range N).map encV) l1 l2 l3 i6 i7 i8 i9 (N:Int) (N:Int) false:=by
 have e:∀ n,yd1 a0 a1 a2 x0 x1 (n+1) l1 l2 l3 i6 i7 i8 i9 (N:Int) 0=ybE a0 a1 a2 x1 n ((List.range 1).map encV) l1 l2 l3 i6 i7 i8 i9 (N:Int) ((1:Nat):Int):=fun n=>by
  conv=>lhs;unfold yd1
  dsimp only [lt,Go.Pf.jn]
  rw [cbT (by omega)]
  exact (asTT (by simp)).trans rfl
 rw [exS3 rfl (R:=fun _=>_) e,hr01 hN l1 l2 l3 i6 i7 i8 i9 (N-1) 1 (by omega) (by omega)]
theorem HV.top {l:List Ck} (hd:DK l):HV l (List.range l.length) 0 (lenR l) 1:=by
 have n0:=hd.n0
 have n6:=hd.n6
 have c0:=(hd.ok 0 (by omega)).len0
 refine ⟨by rw [List.length_range];omega,List.pairwise_lt_range,fun a ha=>List.mem_range.1 ha,qBz,qBz,by decide,In.int (Int.le_refl 1) 0,In.int (Int.le_refl 1) _,?_,fun a ha=>?_⟩
 ·exact Rat.intCast_pos.2 (by omega)
 ·rw [tot3 hd (List.mem_range.1 ha)]
  exact tot0 hd (List.mem_range.1 ha)
def dvX (l:List Ck):List (List RS):=setP (List.replicate l.length []) (dvM l 4 (List.range l.length) 0 (lenR l)).1
def dvL (l:List Ck):List Qy:=(dvM l 4 (List.range l.length) 0 (lenR l)).2
theorem yId (l:List Ck):(dvX l).length=l.length:=by unfold dvX;rw [ysv,qA9]
theorem yHi (n:Nat):List.replicate n (.data []:PV)=rspL (List.replicate n []):=by unfold rspL;rw [List.map_replicate];rfl
section
variable {l:List Ck}
abbrev t0T (l:List Ck):List Nat×RS:=(List.range l.length,((0:Rat),lenR l))
theorem x12a {a0 a1 x6 x7 x8 x9} (h1:l.length=1) (l0:List PV) :
  (∃ k,ya1 a0 a1 yau x6 x7 x8 x9 k l0 (rspL (List.replicate l.length [])) [encT (t0T l)] l.length l.length l.length (cks l) [] 1 1) =
  x6 l0 (rspL (dvX l)) [encT (t0T l)] l.length l.length l.length (cks l) (logs (dvL l)) 0 1 false:=by
 have er:List.range l.length=[0]:=by rw [h1];rfl
 have eX:dvX l=[[(0,lenR l)]]:=by unfold dvX;rw [ysu (by rw [List.length_range];omega),er,h1];rfl
 have eL:dvL l=[]:=by unfold dvL;rw [ysu (by rw [List.length_range];omega)]
 rw [eX,eL,t0T,er,h1]
 have e:∀ n,ya1 a0 a1 yau x6 x7 x8 x9 (n+1) l0 (rspL (List.replicate 1 [])) [encT ([0],((0:Rat),lenR l))] 1 1 1 (cks l) [] 1 1=ya1 a0 a1 yau x6 x7 x8 x9 n l0 (rspL [[(0,lenR l)]]) [encT ([0],((0:Rat),lenR l))] 1 1 1 (cks l) [] 0 1:=fun n=>by
  conv=>lhs;unfold ya1
  rfl
 have e':∀ n,ya1 a0 a1 yau x6 x7 x8 x9 (n+1) l0 (rspL [[(0,lenR l)]]) [encT ([0],((0:Rat),lenR l))] 1 1 1 (cks l) [] 0 1=x6 l0 (rspL [[(0,lenR l)]]) [encT ([0],((0:Rat),lenR l))] 1 1 1 (cks l) [] 0 1 false:=fun n=>by
  conv=>lhs;unfold ya1
  rfl
 rw [exS3 rfl (R:=fun _=>_) e,exS3 rfl (R:=fun _=>_) e',exC3]
 rfl
theorem x12s {a0 a1 x6 x7 x8 x9} (l0 l1 C G C' G':List PV) (A L R:List Nat) (q p c:Rat) (N:Nat) (h2:2≤A.length)
  (hs:∀ K,yau C G (A.map encV) q.num q.den p.num p.den K=K C' G' c.num c.den (L.map encV) (R.map encV) 0) (n:Nat) :
  ya1 a0 a1 yau x6 x7 x8 x9 (n+1) l0 l1 [encT (A,(q,p))] N N N C G 1 1=yaD a0 a1 yau x8 x9 n l0 l1 [encT (A,(q,p))] ((([]++[(R,(c,p))])++[(L,(q,c))]).map encT++[]) N N N C' G' ((([]:List (List Nat×RS))++[(R,(c,p))]).length+1) 2:=by
 conv=>lhs;unfold ya1
 dsimp only [lt,Go.Pf.jn]
 have w:IntKind.i64.wrap (((1:Nat):Int)-1)=0:=by decide
 rw [cbT (by omega),w]
 refine (asTT rfl).trans ?_
 refine (asTT rfl).trans ?_
 refine (asTT rfl).trans ?_
 refine (asTT rfl).trans ?_
 refine (asTT rfl).trans ?_
 refine (asTT rfl).trans ?_
 refine (asTT rfl).trans ?_
 refine (cbNN (show ((((A.map encV).length:Nat):Int) == 1)=false from beq_eq_false_iff_ne.2 (by rw [qAe];omega))).trans ?_
 refine (hs _).trans ?_
 rw [cnF rfl]
 refine (asTT rfl).trans ?_
 refine (asTT rfl).trans ?_
 refine (cbNN rfl).trans ?_
 refine (asTT rfl).trans ?_
 rfl
theorem x12b {a0 a1 x6 x7 x8 x9} (hd:DK l) (h2:2≤l.length) (l0:List PV):∃ J M,J.length=M ∧
  (∃ k,ya1 a0 a1 yau x6 x7 x8 x9 k l0 (rspL (List.replicate l.length [])) [encT (t0T l)] l.length l.length l.length (cks l) [] 1 1) =
  x8 l0 (rspL (dvX l)) [encT (t0T l)] J l.length l.length l.length (cks l) (logs (dvL l)) 0 M false:=by
 have n6:=hd.n6
 have hv:=HV.top hd
 have hA:(List.range l.length).length=l.length:=List.length_range
 obtain ⟨D',hD',hl,hr⟩:=hv.split hd (by omega) (by decide)
 generalize hAe:List.range l.length=A at *
 have eL:=yfk (A:=A) (fA l A 0 (lenR l))
 have eR:=yg6 (A:=A) (fA l A 0 (lenR l))
 have hg:(A.flatMap (gA l A 0 (lenR l))).length≤2*A.length:=yvq _ 2 A fun a _=>yA6 a
 have run:=fun K=>hv.run hd (by omega) (lg:=[]) (by rw [qBo];omega) K
 obtain ⟨J2,M2,hM2,i1⟩:=h13 (a0:=a0) (a1:=a1) (x6:=x8) (x7:=x9) hd l0 [encT (A,((0:Rat),lenR l))] 2 (lftS A (fA l A 0 (lenR l))) 0 (cutH A (fA l A 0 (lenR l))) D' hl (by rw [eL];omega) (by omega) ([]++[(rgtS A (fA l A 0 (lenR l)),(cutH A (fA l A 0 (lenR l)),lenR l))]) [] (List.replicate l.length []) ([]++A.flatMap (gA l A 0 (lenR l))) 2 qA9 (by simp) (by rw [List.nil_append];omega) rfl
 have hlL:(dvM l 3 (lftS A (fA l A 0 (lenR l))) 0 (cutH A (fA l A 0 (lenR l)))).2.length≤2*(lftS A (fA l A 0 (lenR l))).length*2:=yvr 2 _ _ _ (by rw [eL];omega) (by rw [eL];omega)
 obtain ⟨J3,M3,hM3,i2⟩:=h13 (a0:=a0) (a1:=a1) (x6:=x8) (x7:=x9) hd l0 [encT (A,((0:Rat),lenR l))] 2 (rgtS A (fA l A 0 (lenR l))) (cutH A (fA l A 0 (lenR l))) (lenR l) D' hr (by rw [eR];omega) (by omega) [] J2 (setP (List.replicate l.length []) (dvM l 3 (lftS A (fA l A 0 (lenR l))) 0 (cutH A (fA l A 0 (lenR l)))).1) ([]++A.flatMap (gA l A 0 (lenR l))++(dvM l 3 (lftS A (fA l A 0 (lenR l))) 0 (cutH A (fA l A 0 (lenR l)))).2) M2 (by rw [ysv];exact qA9) (by decide) (by rw [qAb,List.nil_append];omega) hM2
 have hM3:J3.length=M3:=hM3
 refine ⟨J3,M3,hM3,?_⟩
 have e':∀ n,yaD a0 a1 yau x8 x9 (n+1) l0 (rspL (dvX l)) [encT (A,((0:Rat),lenR l))] J3 l.length l.length l.length (cks l) (logs (dvL l)) 0 M3=x8 l0 (rspL (dvX l)) [encT (A,((0:Rat),lenR l))] J3 l.length l.length l.length (cks l) (logs (dvL l)) 0 M3 false:=fun n=>by
  conv=>lhs;unfold yaD
  rfl
 have eX:dvX l=setP (setP (List.replicate l.length []) (dvM l 3 (lftS A (fA l A 0 (lenR l))) 0 (cutH A (fA l A 0 (lenR l)))).1) (dvM l 3 (rgtS A (fA l A 0 (lenR l))) (cutH A (fA l A 0 (lenR l))) (lenR l)).1:=by
  unfold dvX
  rw [hAe,yvp (by omega),yxv]
 have eG:dvL l=[]++A.flatMap (gA l A 0 (lenR l))++(dvM l 3 (lftS A (fA l A 0 (lenR l))) 0 (cutH A (fA l A 0 (lenR l)))).2++(dvM l 3 (rgtS A (fA l A 0 (lenR l))) (cutH A (fA l A 0 (lenR l))) (lenR l)).2:=by
  unfold dvL
  rw [hAe,yvp (by omega),List.nil_append,qAh]
 have z:=(exS3 (P:=fun k=>yaD a0 a1 yau x8 x9 k l0 (rspL (dvX l)) [encT (A,((0:Rat),lenR l))] J3 l.length l.length l.length (cks l) (logs (dvL l)) 0 M3) rfl (R:=fun _=>_) e').trans exC3
 unfold t0T
 rw [hAe]
 refine Eq.trans ?_ z
 rw [← eX,← eG] at i2
 refine (exS3 (P:=fun k=>ya1 a0 a1 yau x6 x7 x8 x9 k l0 (rspL (List.replicate l.length [])) [encT (A,((0:Rat),lenR l))] l.length l.length l.length (cks l) [] 1 1) rfl (x12s l0 (rspL (List.replicate l.length [])) (cks l) [] (cks l) _ A _ _ 0 (lenR l) _ l.length (by omega) run)).trans ?_
 exact i1.trans i2
theorem yIe (hd:DK l) (K:List PV→List PV→Int→Prop):yjH (cks l) K=K (rspL (dvX l)) (logs (dvL l)) 0:=by
 have n0:=hd.n0
 have n6:=hd.n6
 unfold yjH ylT
 rw [yG3 hd.fin (by omega),if_pos (hd.err (by omega))]
 dsimp only [lt,Go.Pf.jn]
 rw [cnF rfl,ybg]
 refine (asTT (decide_eq_true (by omega))).trans ?_
 rw [ydE n0]
 refine (asTT rfl).trans ?_
 rw [yiN,yiN]
 refine (hr00 n0 (by omega) (cks l) (cks l) [] 0 1 _ 1).trans ?_
 have lr:((List.range l.length).map encV).length=l.length:=by rw [qAe,List.length_range]
 rw [ybg,lr,qAz (by rw [lr];exact qAj _),yHi]
 refine (asTT (decide_eq_true (by omega))).trans ?_
 refine (asTT (decide_eq_true (by omega))).trans ?_
 refine (asTT (decide_eq_true (by unfold room;omega))).trans ?_
 refine (asTT (by simp)).trans ?_
 refine (asTT (by simp)).trans ?_
 refine (asTT rfl).trans ?_
 have lX:(rspL (dvX l)).length=l.length:=by rw [yCJ,yId]
 by_cases h1:l.length=1
 ·refine (x12a h1 ((List.range l.length).map encV)).trans ?_
  refine (asTT (decide_eq_true lX)).trans ?_
  refine (asTT (by simp)).trans ?_
  rw [qAz (by omega)]
 ·obtain ⟨J,M,hJ,e⟩:=x12b hd (by omega) ((List.range l.length).map encV)
  refine e.trans ?_
  refine (asTT (decide_eq_true lX)).trans ?_
  refine (asTT (by simp)).trans ?_
  rw [qAz (by omega)]
end
set_option maxHeartbeats 1000000
section
variable {l:List Ck} {A:List Nat} {q p:Rat} {D:Int}
theorem rOf9 (n:Int) (K:Int→Int→Prop):yco n K=K n 1:=rfl
end
set_option maxHeartbeats 1000000
def bnd9 (n:Int):Int×Int:=if n<1∨n>6 then (0,2) else (bif n == 1 then 0 else bif n == 2 then 2 else bif n == 3 then 9 else bif n == 4 then 12 else bif n == 5 then 25 else 30,0)
theorem in6 {n:Int} (h:¬(n<1∨n>6)):n=1∨n=2∨n=3∨n=4∨n=5∨n=6:=by omega
theorem yIf (n:Int) (K:Int→Int→Prop):yg4 n K=K (bnd9 n).1 (bnd9 n).2:=by
 unfold yg4 yiI bnd9
 dsimp only [lt,Go.Pf.jn]
 by_cases h:n<1∨n>6
 ·rw [if_pos h]
  by_cases h1:n<1
  ·rw [cbT h1,yag]
  ·rw [cbF h1,decide_eq_true (by omega),yag]
 ·rw [if_neg h,cbF (by omega),decide_eq_false (by omega),yab]
  rcases in6 h with rfl | rfl | rfl | rfl | rfl | rfl
  ·rfl
  all_goals
   refine (cbNN rfl).trans ?_
   refine (lenH ⟨by decide,by decide⟩ _).trans ?_
   rfl
def thr9:List Ck:=[⟨6,[0,6],[1]⟩,⟨6,[0,4,6],[1,4]⟩,⟨6,[0,2,6],[2,0]⟩]
theorem dk9:DK thr9:=(yiM (l:=thr9) (m:=0) (by decide +kernel)).1
theorem dvX9:dvX thr9=[[(mkRat 2 3,mkRat 10 3)],[(mkRat 10 3,6)],[(0,mkRat 2 3)]]:=by decide +kernel
theorem dvL9:(dvL thr9).length=7:=by decide +kernel
theorem cut9:cutH [0,1,2] (fA thr9 [0,1,2] 0 (lenR thr9))=mkRat 2 3∧lftS [0,1,2] (fA thr9 [0,1,2] 0 (lenR thr9))=[2]∧rgtS [0,1,2] (fA thr9 [0,1,2] 0 (lenR thr9))=[0,1]:=by decide +kernel
theorem yHj (K:List PV→Prop):ynI K=K (cks thr9):=rfl
theorem btw9 (a b c d:Int) (K:List PV→Prop):ykd a b c d K=K [(.agg [(.int .i64 a),(.int .i64 b),(.int .i64 c),(.int .i64 d)])]:=rfl
theorem yJv (K:Bool→Prop):yfq (rspL [[(mkRat 2 3,mkRat 10 3)],[(mkRat 10 3,6)],[(0,mkRat 2 3)]]) [(.data [(.agg [(.int .i64 (2:Int)),(.int .i64 (3:Int)),(.int .i64 (10:Int)),(.int .i64 (3:Int))])]),(.data [(.agg [(.int .i64 (10:Int)),(.int .i64 (3:Int)),(.int .i64 (6:Int)),(.int .i64 (1:Int))])]),(.data [(.agg [(.int .i64 (0:Int)),(.int .i64 (1:Int)),(.int .i64 (2:Int)),(.int .i64 (3:Int))])])] K=K true:=by
 have h:=yD9 (l:=[[⟨2,3,10,3⟩],[⟨10,3,6,1⟩],[⟨0,1,2,3⟩]]) (fun i hi=>by
  have hi:i<3:=hi
  obtain rfl | rfl | rfl:i=0∨i=1∨i=2:=by omega
  all_goals decide) (by decide) K
 have e:rspL [[(mkRat 2 3,mkRat 10 3)],[(mkRat 10 3,(6:Rat))],[((0:Rat),mkRat 2 3)]]=ynS [[⟨2,3,10,3⟩],[⟨10,3,6,1⟩],[⟨0,1,2,3⟩]]:=by kernel_rfl
 rw [e]
 exact h
theorem yHk {A:List Nat} (h:A.length≤1000) (K:Bool→Prop):yfr (A.map encV) (A.map encV) K=K true:=by
 have e:A.map encV=ints (A.map fun (a:Nat)=>(a:Int)):=by unfold ints;rw [List.map_map];rfl
 rw [e]
 exact yEa (by rw [qAe];omega) K
theorem yFU (K:Bool→Prop):ydd K=K true:=by
 obtain ⟨c1,c2,c3⟩:=cut9
 have run:∀ K,yau (cks thr9) (logs []) ([0,1,2].map encV) (0:Rat).num (0:Rat).den (lenR thr9).num (lenR thr9).den K=K (cks thr9) (logs ([]++[0,1,2].flatMap (gA thr9 [0,1,2] 0 (lenR thr9)))) (mkRat 2 3).num (mkRat 2 3).den ([2].map encV) ([0,1].map encV) 0:=fun K=>by
  have:=(HV.top dk9).run dk9 (by decide) (lg:=[]) (by decide) K
  rw [show List.range thr9.length=[0,1,2] from rfl,c1,c2,c3] at this
  exact this
 unfold ydd ylV
 dsimp only [Go.Pf.jn]
 refine (rOf9 _ _).trans ?_
 refine (rOf9 _ _).trans ?_
 rw [yHj,yIe dk9,yHj]
 refine (run _).trans ?_
 rw [yIf]
 refine (cbYY rfl).trans ?_
 refine (btw9 _ _ _ _ _).trans ?_
 refine (btw9 _ _ _ _ _).trans ?_
 refine (btw9 _ _ _ _ _).trans ?_
 rw [dvX9,yJv,yag,ycS,dvL9]
 refine (cbYY rfl).trans ?_
 refine (cbYY rfl).trans ?_
 refine (cbYY (by decide +kernel)).trans ?_
 refine (yHk (A:=[2]) (by decide) _).trans ?_
 rw [yag]
 refine (yHk (A:=[0,1]) (by decide) _).trans ?_
 rw [yag]
 refine (cbYY rfl).trans ?_
 rfl
set_option maxHeartbeats 1000000
theorem yur {α:Type} {q:Rat} {k:Rat→Except Int α} {e:Int} (h:fit q k=.error e):e=16∨(small q∧k q=.error e):=by
 unfold fit at h
 split at h
 ·rename_i s
  exact .inr ⟨s,h⟩
 ·cases h
  exact .inl rfl
theorem yxw (cuts dens:List Int) (b:Rat):∀ (r i:Nat) (p sum:Rat) (e:Int),valS cuts dens b r i p sum=.error e→e=16
 | 0,_,_,_,_,h=>by cases h
 | r+1,i,p,sum,e,h=>by
  unfold valS at h
  dsimp only at h
  generalize (if b<((cuts.getD (i+1) 0:Int):Rat) then b else ((cuts.getD (i+1) 0:Int):Rat))=en at h
  split at h
  ·exact yxw cuts dens b r (i+1) _ _ e h
  ·rcases yur h with k | ⟨_,h⟩
   ·exact k
   rcases yur h with k | ⟨_,h⟩
   ·exact k
   rcases yur h with k | ⟨_,h⟩
   ·exact k
   exact yxw cuts dens b r (i+1) _ _ e h
section
variable {len:Int} {cuts dens:List Int}
theorem yA7 (h:VC len cuts dens):∀ (r i:Nat) (p v:Rat) (e:Int),i+r=dens.length→((cuts.getD i 0:Int):Rat)≤p→p≤(len:Rat)→0<v→v≤vu cuts dens (len:Rat) r i-vu cuts dens p r i→mrkS cuts dens r i p v=.error e→e=16
 | 0,i,p,v,e,hi,_,_,v0,v1,_=>by
  unfold vu at v1
  grind
 | r+1,i,p,v,e,hi,hp,p1,v0,v1,he=>by
  have l1:=h.l1
  have hl:=yA3 h
  have hd:=yA4 h (i:=i) (by omega)
  have hd2:=h.den (i:=i) (by omega)
  have hst:((cuts.getD i 0:Int):Rat)<((cuts.getD (i+1) 0:Int):Rat):=qB7.2 (h.step (i:=i) (by omega))
  have hc1:((cuts.getD (i+1) 0:Int):Rat)≤(len:Rat):=by rw [← h.last];exact ysn h (by omega) (qAj _)
  have low:=ytF h r (i+1) (x:=p) (y:=((cuts.getD (i+1) 0:Int):Rat)) (by omega)
  have m1:=ydp p (cuts.getD i 0:Int)
  have m2:=ydp (len:Rat) (cuts.getD i 0:Int)
  have n1:=yek (maxR p (cuts.getD i 0:Int)) (cuts.getD (i+1) 0:Int)
  have n2:=yek (maxR (len:Rat) (cuts.getD i 0:Int)) (cuts.getD (i+1) 0:Int)
  have el:uC cuts i (len:Rat)=((cuts.getD (i+1) 0:Int):Rat):=by unfold uC;grind
  unfold vu at v1
  rw [el] at v1
  unfold mrkS at he
  by_cases c1:p<((cuts.getD (i+1) 0:Int):Rat)
  case neg =>
   rw [if_pos c1] at he
   have ep:uC cuts i p=((cuts.getD (i+1) 0:Int):Rat):=by unfold uC;grind
   rw [ep] at v1
   exact yA7 h r (i+1) p v e (by omega) (Rat.not_lt.1 c1) p1 v0 (by grind) he
  rw [if_neg (fun k=>k c1)] at he
  have ep:uC cuts i p=p:=by unfold uC;grind
  rw [ep,low (qA2 c1) qBz] at v1
  by_cases cz:dens.getD i 0=0
  ·rw [if_pos cz] at he
   rw [cz] at v1
   have e0:((0:Int):Rat)=0:=rfl
   exact yA7 h r (i+1) ((cuts.getD (i+1) 0:Int):Rat) v e (by omega) qBz hc1 v0 (by grind) he
  rw [if_neg cz] at he
  rcases yur he with k | ⟨_,he⟩
  ·exact k
  rcases yur he with k | ⟨_,he⟩
  ·exact k
  split at he
  ·rename_i c3
   rcases yur he with k | ⟨_,he⟩
   ·exact k
   exact yA7 h r (i+1) ((cuts.getD (i+1) 0:Int):Rat) (v-(((cuts.getD (i+1) 0:Int):Rat)-p)*((dens.getD i 0:Int):Rat)) e (by omega) qBz hc1 (by grind) (by grind) he
  ·rcases yur he with k | ⟨_,he⟩
   ·exact k
   rcases yur he with k | ⟨_,he⟩
   ·exact k
   cases he
theorem yI6 (h:VC len cuts dens) {p v:Rat} {e:Int} (p0:0≤p) (p1:p≤(len:Rat)) (v0:0≤v) (hv:v≤vX cuts dens (len:Rat)-vX cuts dens p) (he:mrkC cuts dens p v=.error e):e=16:=by
 have c0:cuts.getD 0 0=0:=h.2.2.2.2.2.1
 unfold mrkC at he
 split at he
 ·cases he
 ·rename_i hz
  exact yA7 h dens.length 0 p v e (by omega) (by rw [c0];exact p0) p1 (by grind) hv he
end
theorem yCQ {cuts dens:List Int} {p v q:Rat} (hp:small p) (h:mrkC cuts dens p v=.ok q):small q:=by
 unfold mrkC at h
 split at h
 ·cases h;exact hp
 ·exact ylY _ _ _ _ _ h
section
variable {l:List Ck}
theorem q9v (hd:DK l) {a m:Nat} (ha:a<l.length) (hm:m<2000) {q p:Rat} (hs:small q) (hp:small p) (q0:0≤q) (qp:q≤p) (p1:p≤lenR l):qryR l m (a:Int) (Ck.value q.num q.den p.num p.den)=valC (l.getD a default).cuts (l.getD a default).dens q p:=by
 have hok:=hd.ok a ha
 have e1:valR (l.getD a default).len (l.getD a default).cuts (l.getD a default).dens q.num q.den p.num p.den=valC (l.getD a default).cuts (l.getD a default).dens q p:=by
  unfold valR
  rw [if_pos hok.ck,if_pos ⟨yuo hs q0 (by rw [hd.len a ha];exact qB5 qp p1),yuo hp (qB5 q0 qp) (by rw [hd.len a ha];exact p1),by rw [ydo,ydo];exact Rat.not_lt.2 qp⟩,ydo,ydo]
 unfold qryR
 rw [if_pos (hd.err (by omega)),if_pos ⟨by omega,by omega⟩,qAg]
 have:Ck.value q.num q.den p.num p.den (l.getD a default)=valC (l.getD a default).cuts (l.getD a default).dens q p:=e1
 rw [this]
 cases valC (l.getD a default).cuts (l.getD a default).dens q p with
 | ok p=>show (if m≥2000 then _ else _)=_;rw [if_neg (by omega)]
 | error e=>rfl
theorem q9m (hd:DK l) {a m:Nat} (ha:a<l.length) (hm:m<2000) {q v:Rat} (hs:small q) (q0:0≤q) (q1:q≤lenR l) (hv:small v) (v0:0≤v):qryR l m (a:Int) (Ck.mark q.num q.den v.num v.den)=mrkC (l.getD a default).cuts (l.getD a default).dens q v:=by
 have hok:=hd.ok a ha
 have e1:mrkR (l.getD a default).len (l.getD a default).cuts (l.getD a default).dens q.num q.den v.num v.den=mrkC (l.getD a default).cuts (l.getD a default).dens q v:=by
  unfold mrkR
  rw [if_pos hok.ck,if_pos ⟨yuo hs q0 (by rw [hd.len a ha];exact q1),hv.rv,Rat.num_nonneg.2 v0⟩,ydo,ydo]
 unfold qryR
 rw [if_pos (hd.err (by omega)),if_pos ⟨by omega,by omega⟩,qAg]
 have:Ck.mark q.num q.den v.num v.den (l.getD a default)=mrkC (l.getD a default).cuts (l.getD a default).dens q v:=e1
 rw [this]
 cases mrkC (l.getD a default).cuts (l.getD a default).dens q v with
 | ok p=>show (if m≥2000 then _ else _)=_;rw [if_neg (by omega)]
 | error e=>rfl
def nq9 (l:List Ck) (q p:Rat):Nat:=bif hAsk l q p then 2 else 1
def Mk9 (l:List Ck) (a:Nat) (q p r:Rat):Prop :=
 (∃ (g:List Qy) (x:Rat),g.length=nq9 l q p∧small x∧vXA l a x=vXA l a q+(vXA l a p-vXA l a q)*r∧q≤x∧x≤p∧∀ lg:List Qy,lg.length+2≤2000→∀ K,yam (cks l) (logs lg) a q.num q.den p.num p.den r.num r.den K=K (cks l) (logs (lg++g)) x.num x.den 0) ∨
 (∀ lg:List Qy,lg.length+2≤2000→∃ (C G:List PV) (x y:Int),∀ K,yam (cks l) (logs lg) a q.num q.den p.num p.den r.num r.den K=K C G x y 16)
theorem yJw (hd:DK l) {a:Nat} (ha:a<l.length) {q p r:Rat} (hs:small q) (hp:small p) (hr:small r) (q0:0≤q) (qp:q≤p) (p1:p≤lenR l) (r0:0≤r) (r1:r≤1):Mk9 l a q p r:=by
 have n6:=hd.n6
 have h0:0<l.length:=by omega
 have hok:=hd.ok a ha
 have hlen:=hd.len a ha
 have q1:q≤lenR l:=qB5 qp p1
 have q1':q≤(((l.getD a default).len:Int):Rat):=by rw [hlen];exact q1
 have v0:0≤vXA l a p-vXA l a q:=by
  have:vXA l a q≤vXA l a p:=yhU hok qp
  grind
 have w0:0≤(vXA l a p-vXA l a q)*r:=Rat.mul_nonneg v0 r0
 have w1:(vXA l a p-vXA l a q)*r≤vXA l a p-vXA l a q:=by
  have:=qBm r1 v0
  rwa [Rat.mul_one] at this
 have tot:∀ lg:List Qy,lg.length≤2000→∀ K,yfE (cks l) (logs lg) a K=K (totC (l.getD a default).cuts (l.getD a default).dens) 0:=fun lg h K=>yIs hd ha (by rw [ycS];exact h) K
 have lnum:(lenR l).num=(l.getD 0 default).len:=qB9 _
 have lden:(((lenR l).den:Nat):Int)=1:=by unfold lenR;rw [qCa];rfl
 have e1:((p.num ==(l.getD 0 default).len)&&(((p.den:Int) == 1)&&true))=decide (p=lenR l):=by
  have:=yIr (q:=p) (r:=lenR l)
  rw [lnum,lden] at this
  exact this
 have MK:∀ (v:Rat),v=vXA l a p-vXA l a q→small v→(∃ (y:Qy) (x:Rat),small x∧vXA l a x=vXA l a q+(vXA l a p-vXA l a q)*r∧q≤x∧x≤p∧∀ lg:List Qy,lg.length<2000→∀ K:List PV→List PV→Int→Int→Int→Prop,(yaI v.num v.den r.num r.den fun y0 y1 y2=>cbr (y2 != 0) (K (cks l) (logs lg) 0 0 y2) (ybj (cks l) (logs lg) a q.num q.den y0 y1 K))=K (cks l) (logs (lg++[y])) x.num x.den 0)∨(∀ lg:List Qy,lg.length<2000→∃ (C G:List PV) (x y:Int),∀ K:List PV→List PV→Int→Int→Int→Prop,(yaI v.num v.den r.num r.den fun y0 y1 y2=>cbr (y2 != 0) (K (cks l) (logs lg) 0 0 y2) (ybj (cks l) (logs lg) a q.num q.den y0 y1 K))=K C G x y 16):=fun v ev sv=>by
  by_cases sw:small (v*r)
  ·have mul:∀ K,yaI v.num v.den r.num r.den K=K (v*r).num (v*r).den 0:=fun K=>(yog sv hr K).trans (by rw [ycl,if_pos sw])
   rw [← ev] at w0 w1 ⊢
   have mka:∀ (lg:List Qy),lg.length<2000→∀ K,ybj (cks l) (logs lg) a q.num q.den (v*r).num (v*r).den K=qryK l (logs lg) (fun x=>qrow a 2 q.num q.den (v*r).num (v*r).den x.num x.den) (mrkC (l.getD a default).cuts (l.getD a default).dens q (v*r)) K:=fun lg hm K=>by
    rw [yCH hd.fin (by omega) (yoi lg) hs.i1 hs.i2 sw.i1 sw.i2,ycS,q9m hd ha hm hs q0 q1 sw w0]
   cases em:mrkC (l.getD a default).cuts (l.getD a default).dens q (v*r) with
   | ok x =>
    obtain ⟨a1,a2,a3,a4,a5⟩:=yEX hok q0 q1' w0 em
    have hx:x≤p:=by
     by_cases hz:v*r=0
     ·rw [← a4 hz]
      exact qp
     ·refine Rat.not_lt.1 fun k=>?_
      have k2:vXA l a p<vXA l a x:=a5 hz p k
      have a1:vXA l a x=vXA l a q+v*r:=a1
      grind
    refine .inl ⟨⟨a,2,q.num,q.den,(v*r).num,(v*r).den,x.num,x.den⟩,x,yCQ hs em,a1,a2,hx,fun lg hm K=>?_⟩
    rw [mul,cnF rfl,mka lg hm,em]
    show K (cks l) (logs lg++[_]) _ _ _=K (cks l) (logs (lg++[_])) _ _ _
    rw [ysm]
    rfl
   | error e =>
    have hl:vX (l.getD a default).cuts (l.getD a default).dens p≤vX (l.getD a default).cuts (l.getD a default).dens (((l.getD a default).len:Int):Rat):=yhU hok (by rw [hlen];exact p1)
    have e16:=yI6 hok q0 q1' w0 (by
     have ev2:v=vX (l.getD a default).cuts (l.getD a default).dens p-vX (l.getD a default).cuts (l.getD a default).dens q:=ev
     grind) em
    refine .inr fun lg hm=>⟨[],[],0,0,fun K=>?_⟩
    rw [mul,cnF rfl,mka lg hm,em,e16]
    rfl
  ·refine .inr fun lg hm=>⟨cks l,logs lg,0,0,fun K=>?_⟩
   rw [yog sv hr,ycl,if_neg sw]
   exact cnT (by decide)
 have VA:hAsk l q p=true→(∃ (g:List Qy) (x:Rat),g.length=nq9 l q p∧small x∧vXA l a x=vXA l a q+(vXA l a p-vXA l a q)*r∧q≤x∧x≤p∧∀ lg:List Qy,lg.length+2≤2000→∀ K':List PV→List PV→Int→Int→Int→Prop,(ybH (cks l) (logs lg) a q.num q.den p.num p.den fun c g e0 e1 e2=>cbr (e2 == 0) (yaI e0 e1 r.num r.den fun y0 y1 y2=>cbr (y2 != 0) (K' c g 0 0 y2) (ybj c g a q.num q.den y0 y1 fun c g z0 z1 z2=>K' c g z0 z1 z2)) (cbr (e2 != 0) (K' c g 0 0 e2) (ybj c g a q.num q.den e0 e1 fun c g z0 z1 z2=>K' c g z0 z1 z2)))=K' (cks l) (logs (lg++g)) x.num x.den 0)∨(∀ lg:List Qy,lg.length+2≤2000→∃ (C G:List PV) (x y:Int),∀ K':List PV→List PV→Int→Int→Int→Prop,(ybH (cks l) (logs lg) a q.num q.den p.num p.den fun c g e0 e1 e2=>cbr (e2 == 0) (yaI e0 e1 r.num r.den fun y0 y1 y2=>cbr (y2 != 0) (K' c g 0 0 y2) (ybj c g a q.num q.den y0 y1 fun c g z0 z1 z2=>K' c g z0 z1 z2)) (cbr (e2 != 0) (K' c g 0 0 e2) (ybj c g a q.num q.den e0 e1 fun c g z0 z1 z2=>K' c g z0 z1 z2)))=K' C G x y 16):=fun hh=>by
  have va:∀ (lg:List Qy),lg.length<2000→∀ K,ybH (cks l) (logs lg) a q.num q.den p.num p.den K=qryK l (logs lg) (fun x=>qrow a 1 q.num q.den p.num p.den x.num x.den) (valC (l.getD a default).cuts (l.getD a default).dens q p) K:=fun lg hm K=>by
   rw [yy2 hd.fin (by omega) (yoi lg) hs.i1 hs.i2 hp.i1 hp.i2,ycS,q9v hd ha hm hs hp q0 qp p1]
  cases ev:valC (l.getD a default).cuts (l.getD a default).dens q p with
  | ok v =>
   have hv:v=vXA l a p-vXA l a q:=yvl hok q0 qp ev
   have sv:small v:=yqv _ _ _ _ _ _ _ _ (by decide) ev
   have vq:∀ (lg:List Qy),lg.length<2000→∀ K,ybH (cks l) (logs lg) a q.num q.den p.num p.den K=K (cks l) (logs (lg++[⟨a,1,q.num,q.den,p.num,p.den,v.num,v.den⟩])) v.num v.den 0:=fun lg hm K=>by
    rw [va lg hm,ev]
    show K (cks l) (logs lg++[_]) _ _ _=K (cks l) (logs (lg++[_])) _ _ _
    rw [ysm]
    rfl
   rcases MK v hv sv with ⟨y,x,b1,b2,b3,b4,b5⟩ | b
   ·refine .inl ⟨[⟨a,1,q.num,q.den,p.num,p.den,v.num,v.den⟩,y],x,by unfold nq9;rw [hh];rfl,b1,b2,b3,b4,fun lg hm K'=>?_⟩
    rw [vq lg (by omega),show ((0:Int) == 0)=true from rfl,yag]
    refine (b5 _ (by rw [qAb,qAi];omega) K').trans ?_
    rw [qAh]
    rfl
   ·refine .inr fun lg hm=>?_
    obtain ⟨C,G,x,y,e⟩:=b (lg++[⟨a,1,q.num,q.den,p.num,p.den,v.num,v.den⟩]) (by rw [qAb,qAi];omega)
    refine ⟨C,G,x,y,fun K'=>?_⟩
    rw [vq lg (by omega),show ((0:Int) == 0)=true from rfl,yag]
    exact e K'
  | error e =>
   have e16:e=16:=yxw _ _ _ _ _ _ _ _ ev
   refine .inr fun lg hm=>⟨[],[],0,0,fun K'=>?_⟩
   rw [va lg (by omega),ev,e16]
   rfl
 have HM:∀ (lg:List Qy),lg.length+2≤2000→hAsk l q p=true→∀ K,yam (cks l) (logs lg) a q.num q.den p.num p.den r.num r.den K=(ybH (cks l) (logs lg) a q.num q.den p.num p.den fun c g e0 e1 e2=>cbr (e2 == 0) (yaI e0 e1 r.num r.den fun y0 y1 y2=>cbr (y2 != 0) (K c g 0 0 y2) (ybj c g a q.num q.den y0 y1 fun c g z0 z1 z2=>K c g z0 z1 z2)) (cbr (e2 != 0) (K c g 0 0 e2) (ybj c g a q.num q.den e0 e1 fun c g z0 z1 z2=>K c g z0 z1 z2))):=fun lg hm hh K=>by
  unfold yam yfc
  dsimp only [lt,Go.Pf.jn]
  rw [tot lg (by omega),yiN,show ((0:Int) == 0)=true from rfl,yag]
  by_cases hq0:q.num>0
  ·rw [cbT hq0,yag]
  ·rw [cbF hq0,ybg,asT (by omega),ydE h0,asCk,ck0,yiN,e1]
   have he:¬p=lenR l:=fun k=>by
    unfold hAsk at hh
    rw [decide_eq_false hq0,decide_eq_true k] at hh
    cases hh
   rw [decide_eq_false he,qA7,yag]
 unfold Mk9
 by_cases hh:hAsk l q p=true
 ·rcases VA hh with ⟨g,x,b1,b2,b3,b4,b5,b6⟩ | b
  ·exact .inl ⟨g,x,b1,b2,b3,b4,b5,fun lg hm K=>(HM lg hm hh K).trans (b6 lg hm K)⟩
  ·refine .inr fun lg hm=>?_
   obtain ⟨C,G,x,y,e⟩:=b lg hm
   exact ⟨C,G,x,y,fun K=>(HM lg hm hh K).trans (e K)⟩
 ·have hh:hAsk l q p=false:=by simpa using hh
  have h2:=hh
  unfold hAsk at h2
  rw [qBy] at h2
  have hq0:¬q.num>0:=of_decide_eq_false h2.1
  have he:p=lenR l:=by simpa using h2.2
  have hz:q=0:=Rat.num_eq_zero.1 (by have:=Rat.num_nonneg.2 q0;omega)
  have ev:vXA l a p-vXA l a q=totR l a:=by rw [he,hz,tot3 hd ha]
  have t12:=yIq hd ha
  have t0:=tot0 hd ha
  have st:small (totR l a):=sm3 (D:=1) (In.int (by decide) _) ⟨by decide,by decide⟩ (by grind) (by grind)
  have en:(totR l a).num=totC (l.getD a default).cuts (l.getD a default).dens:=qB9 _
  have ed:(((totR l a).den:Nat):Int)=1:=by unfold totR;rw [qCa];rfl
  have HN:∀ (lg:List Qy),lg.length+2≤2000→∀ K,yam (cks l) (logs lg) a q.num q.den p.num p.den r.num r.den K=(yaI (totR l a).num (totR l a).den r.num r.den fun y0 y1 y2=>cbr (y2 != 0) (K (cks l) (logs lg) 0 0 y2) (ybj (cks l) (logs lg) a q.num q.den y0 y1 K)):=fun lg hm K=>by
   unfold yam yfc
   dsimp only [lt,Go.Pf.jn]
   rw [tot lg (by omega),yiN,show ((0:Int) == 0)=true from rfl,yag,cbF hq0,ybg,asT (by omega),ydE h0,asCk,ck0,yiN,e1,decide_eq_true he,qAw,yab,en,ed]
   rfl
  rcases MK (totR l a) ev.symm st with ⟨y,x,b1,b2,b3,b4,b5⟩ | b
  ·exact .inl ⟨[y],x,by unfold nq9;rw [hh];rfl,b1,b2,b3,b4,fun lg hm K=>(HN lg hm K).trans (b5 lg (by omega) K)⟩
  ·refine .inr fun lg hm=>?_
   obtain ⟨C,G,x,y,e⟩:=b lg (by omega)
   exact ⟨C,G,x,y,fun K=>(HN lg hm K).trans (e K)⟩
end
set_option maxHeartbeats 1000000
section
variable {l:List Ck}
def okA (N:Nat) (xs:List Int) (i:Nat):Bool:=decide (0≤xs.getD i 0∧xs.getD i 0<(N:Int))&&(decide (i=0)||decide (xs.getD (i-1) 0<xs.getD i 0))
def allA (N:Nat) (xs:List Int):Nat→Nat→Bool
 | 0,_=>true
 | r+1,i=>okA N xs i&&allA N xs r (i+1)
theorem set0 (lg:List PV) {x0 x1} (xs:List Int) (hl:xs.length≤9223372036854775807):∀ (r i:Nat),i+r=xs.length →
  (∃ n,ybX ybi x0 x1 n (ints xs) (cks l) lg (i:Int))=bif allA l.length xs r i then x0 (ints xs) (cks l) lg (xs.length:Int) false else x1 false
 | 0,i,h=>by
  have e:∀ n,ybX ybi x0 x1 (n+1) (ints xs) (cks l) lg (i:Int)=x0 (ints xs) (cks l) lg (xs.length:Int) false:=fun n=>by
   conv=>lhs;unfold ybX
   rw [yaQ,cbF (by omega),show (i:Int)=(xs.length:Int) by omega]
  rw [exS3 rfl (R:=fun _=>_) e,exC3]
  rfl
 | r+1,i,h=>by
  have ih:=set0 lg (x0:=x0) (x1:=x1) xs hl r (i+1) (by omega)
  have w:IntKind.i64.wrap ((i:Int)+1)=((i+1:Nat):Int):=by rw [wib (by omega) (by omega)];omega
  have e:∀ n,ybX ybi x0 x1 (n+1) (ints xs) (cks l) lg (i:Int)=bif okA l.length xs i then ybX ybi x0 x1 n (ints xs) (cks l) lg ((i+1:Nat):Int) else x1 false:=fun n=>by
   conv=>lhs;unfold ybX
   dsimp only [lt,Go.Pf.jn]
   rw [yaQ,cbT (by omega),w,qAg,yvg (l:=xs) (i:=i) (by omega)]
   refine (asTT (decide_eq_true (by omega))).trans ?_
   refine (asTT (decide_eq_true (by omega))).trans ?_
   refine (asTT rfl).trans ?_
   refine (yAY _ _ _).trans ?_
   show cbr (!decide (0≤xs.getD i 0∧xs.getD i 0<(l.length:Int))) _ _=_
   unfold okA
   by_cases c:0≤xs.getD i 0∧xs.getD i 0<(l.length:Int)
   ·rw [decide_eq_true c,qAw,yab,Bool.true_and]
    by_cases hi:i=0
    ·rw [cbF (by omega),yab,decide_eq_true hi,Bool.true_or]
     rfl
    ·have w1:IntKind.i64.wrap ((i:Int)-1)=((i-1:Nat):Int):=by rw [wib (by omega) (by omega)];omega
     rw [cbT (by omega),w1,qAg,yvg (l:=xs) (i:=i-1) (by omega),decide_eq_false hi,Bool.false_or]
     refine (asTT (decide_eq_true (by omega))).trans ?_
     refine (asTT (decide_eq_true (by omega))).trans ?_
     refine (asTT rfl).trans ?_
     refine (asTT (decide_eq_true (by omega))).trans ?_
     refine (asTT (decide_eq_true (by omega))).trans ?_
     refine (asTT rfl).trans ?_
     show cbr (decide (xs.getD i 0≤xs.getD (i-1) 0)) _ _=_
     by_cases c2:xs.getD (i-1) 0<xs.getD i 0
     ·rw [cbF (by omega),decide_eq_true c2]
      rfl
     ·rw [cbT (by omega),decide_eq_false c2]
      rfl
   ·rw [decide_eq_false c,qA7,yag,Bool.false_and]
    rfl
  cases ho:okA l.length xs i with
  | true =>
   rw [exS3 rfl (R:=fun n=>ybX ybi x0 x1 n (ints xs) (cks l) lg ((i+1:Nat):Int)) (fun n=>by rw [e n,ho];rfl),ih]
   show _=bif okA l.length xs i&&allA l.length xs r (i+1) then _ else _
   rw [ho,Bool.true_and]
  | false =>
   rw [exS3 rfl (R:=fun _=>x1 false) (fun n=>by rw [e n,ho];rfl),exC3]
   show _=bif okA l.length xs i&&allA l.length xs r (i+1) then _ else _
   rw [ho,Bool.false_and]
   rfl
theorem yEc (lg:List PV) (xs:List Int) (hl:xs.length≤9223372036854775807) (K:Bool→Prop):yd8 (cks l) lg (ints xs) K=K (decide (0<xs.length)&&allA l.length xs xs.length 0):=by
 unfold yd8 yqe
 refine (set0 lg xs hl xs.length 0 (by omega)).trans ?_
 cases h:allA l.length xs xs.length 0 with
 | true =>
  rw [cond_true,Bool.and_true,yaQ]
  refine congrArg K ?_
  rw [decide_eq_decide]
  omega
 | false=>rw [cond_false,Bool.and_false]
theorem yxx {N:Nat} {xs:List Int}:∀ (r i:Nat),allA N xs r i=true↔∀ j,i≤j→j<i+r→okA N xs j=true
 | 0,i=>⟨fun _ j h1 h2=>by omega,fun _=>rfl⟩
 | r+1,i=>by
  have ih:=yxx (N:=N) (xs:=xs) r (i+1)
  show (okA N xs i&&allA N xs r (i+1))=true↔_
  rw [qAf,ih]
  constructor
  ·rintro ⟨h1,h2⟩ j hj1 hj2
   by_cases k:j=i
   ·rw [k];exact h1
   ·exact h2 j (by omega) (by omega)
  ·intro h
   exact ⟨h i (qAj _) (by omega),fun j h1 h2=>h j (by omega) (by omega)⟩
def toI (A:List Nat):List Int:=A.map fun (a:Nat)=>(a:Int)
theorem yA8 (A:List Nat):A.map encV=ints (toI A):=by unfold ints toI;rw [List.map_map];rfl
theorem yHl {A:List Nat} {i:Nat} (h:i<A.length):(toI A).getD i 0=((A.getD i 0:Nat):Int):=by
 unfold toI
 rw [qAa,qBc,qAa,qAc h]
 rfl
theorem yEZ {N:Nat} {A:List Nat} (hs:A.Pairwise (fun a b=>a<b)) (hm:∀ a∈A,a<N):allA N (toI A) (toI A).length 0=true:=by
 have hl:(toI A).length=A.length:=qAe ..
 rw [yxx]
 intro j _ hj
 rw [qBq,hl] at hj
 have m:A.getD j 0∈A:=by
  rw [qAa,qAc hj]
  exact qBl hj
 unfold okA
 rw [yHl hj,decide_eq_true ⟨by omega,by have:=hm _ m;omega⟩,Bool.true_and]
 by_cases h0:j=0
 ·rw [decide_eq_true h0,Bool.true_or]
 ·have:=yvn hs (j-1) (by omega)
  rw [show j-1+1=j by omega] at this
  rw [yHl (i:=j-1) (by omega),qBu]
  exact .inr (decide_eq_true (by omega))
theorem A_of {N:Nat} {xs:List Int} (h:allA N xs xs.length 0=true):∃ A:List Nat,xs=toI A∧A.Pairwise (fun a b=>a<b)∧∀ a∈A,a<N:=by
 rw [yxx] at h
 have ok:∀ j,j<xs.length→(0≤xs.getD j 0∧xs.getD j 0<(N:Int))∧(j=0∨xs.getD (j-1) 0<xs.getD j 0):=fun j hj=>by
  have:=h j (qBh _) (by omega)
  unfold okA at this
  rw [qAf,qBu] at this
  obtain ⟨a,b⟩:=this
  exact ⟨of_decide_eq_true a,b.imp of_decide_eq_true of_decide_eq_true⟩
 have ge:∀ j (hj:j<xs.length),xs.getD j 0=xs[j]:=fun j hj=>by rw [qAa,qAc hj];rfl
 have ex:xs=toI (xs.map Int.toNat):=by
  unfold toI
  rw [List.map_map]
  refine (List.ext_getElem (by rw [qAe]) fun j h1 h2=>?_).symm
  rw [List.getElem_map]
  rw [qAe] at h1
  have:=(ok j h1).1.1
  rw [ge j h1] at this
  show ((xs[j].toNat:Nat):Int)=xs[j]
  omega
 have st:∀ d i,i+d<xs.length→0<d→xs.getD i 0<xs.getD (i+d) 0:=fun d=>by
  induction d with
  | zero=>intro i _ h;omega
  | succ d ih =>
   intro i hi _
   have k:=(ok (i+(d+1)) hi).2
   rw [show i+(d+1)-1=i+d by omega] at k
   rcases k with k | k
   ·omega
   ·by_cases d0:d=0
    ·subst d0;exact k
    ·exact Int.lt_trans (ih i (by omega) (by omega)) k
 refine ⟨xs.map Int.toNat,ex,?_,fun a ha=>?_⟩
 ·rw [List.pairwise_iff_getElem]
  intro i j hi hj hij
  rw [qAe] at hi hj
  rw [List.getElem_map,List.getElem_map,← ge i hi,← ge j hj]
  have:=st (j-i) i (by omega) (by omega)
  rw [show i+(j-i)=j by omega] at this
  have:=(ok i hi).1
  omega
 ·obtain ⟨x,hx,rfl⟩:=List.mem_map.1 ha
  obtain ⟨j,hj,rfl⟩:=List.mem_iff_getElem.1 hx
  have:=(ok j hj).1
  rw [ge j hj] at this
  omega
end
set_option maxHeartbeats 1000000
section
variable {l:List Ck}
theorem yIz {a0 a1 a2 a3 a4 a6 a7 a8} {q0 q1 p0 p1 r0 r1 z1 z2 m:Int} {N:Nat} (hN:N≤100) {x2 x3}:∀ (Q P:List Nat) (H:List (Nat×Rat)) (lg:List Qy),P.length+Q.length=N→H.length=P.length→lg.length+2*Q.length≤2000→(∀ a∈Q,a<1000) →
  (∀ a∈Q,(∃ (g:List Qy) (x:Rat),g.length≤2∧∀ lg:List Qy,lg.length+2≤2000→∀ K,yam (cks l) (logs lg) a q0 q1 p0 p1 r0 r1 K=K (cks l) (logs (lg++g)) x.num x.den 0)∨∀ lg:List Qy,lg.length+2≤2000→∃ (C G:List PV) (x y:Int),∀ K,yam (cks l) (logs lg) a q0 q1 p0 p1 r0 r1 K=K C G x y 16) →
  (∃ a∈Q,¬∃ (g:List Qy) (x:Rat),g.length≤2∧∀ lg:List Qy,lg.length+2≤2000→∀ K,yam (cks l) (logs lg) a q0 q1 p0 p1 r0 r1 K=K (cks l) (logs (lg++g)) x.num x.den 0) →
  ∃ H',(∃ n,yaB a0 a1 a2 a3 a4 yam a6 a7 a8 x2 x3 n (H.map encH) (cks l) (logs lg) q0 q1 p0 p1 z1 z2 m r0 r1 ((P++Q).map encV) (N:Int) (P.length:Int))=x3 H' 0 0 16
 | [],P,H,lg,h,hH,hL,hA,hM,hB=>by
  obtain ⟨a,ha,_⟩:=hB
  cases ha
 | a::Q,P,H,lg,hl,hH,hL,hA,hM,hB=>by
  rw [qAl] at hl hL
  have gt:List.getD ((P++a::Q).map encV) (P.length:Int).toNat .nils=encV a:=getP encV P a Q (by omega)
  have w:IntKind.i64.wrap ((P.length:Int)+1)=(((P.length+1:Nat)):Int):=by rw [wib (by omega) (by omega)];omega
  have hlen:((P++a::Q).map encV).length=N:=by rw [qAe,qAb,qAl];omega
  have lh:(H.map encH).length=H.length:=qAe ..
  by_cases good:∃ (g:List Qy) (x:Rat),g.length≤2∧∀ lg:List Qy,lg.length+2≤2000→∀ K,yam (cks l) (logs lg) a q0 q1 p0 p1 r0 r1 K=K (cks l) (logs (lg++g)) x.num x.den 0
  ·obtain ⟨g,x,g2,hg⟩:=good
   have hB2:∃ b∈Q,¬∃ (g:List Qy) (x:Rat),g.length≤2∧∀ lg:List Qy,lg.length+2≤2000→∀ K,yam (cks l) (logs lg) b q0 q1 p0 p1 r0 r1 K=K (cks l) (logs (lg++g)) x.num x.den 0:=by
    obtain ⟨b,hb,k⟩:=hB
    rcases qAv.1 hb with rfl | hb
    ·exact absurd ⟨g,x,g2,hg⟩ k
    ·exact ⟨b,hb,k⟩
   obtain ⟨H',ih⟩:=yIz (a0:=a0) (a1:=a1) (a2:=a2) (a3:=a3) (a4:=a4) (a6:=a6) (a7:=a7) (a8:=a8) (q0:=q0) (q1:=q1) (p0:=p0) (p1:=p1) (r0:=r0) (r1:=r1) (z1:=z1) (z2:=z2) (m:=m) hN (x2:=x2) (x3:=x3) Q (P++[a]) (H++[(a,x)]) (lg++g) (by rw [qAb,qAi];omega) (by rw [qAb,qAb,qAi,qAi];omega) (by rw [qAb];omega) (fun b hb=>hA b (qAk _ hb)) (fun b hb=>hM b (qAk _ hb)) hB2
   rw [qAh,qAb,qAi] at ih
   have e:∀ n,yaB a0 a1 a2 a3 a4 yam a6 a7 a8 x2 x3 (n+1) (H.map encH) (cks l) (logs lg) q0 q1 p0 p1 z1 z2 m r0 r1 ((P++a::Q).map encV) (N:Int) (P.length:Int)=yaB a0 a1 a2 a3 a4 yam a6 a7 a8 x2 x3 n ((H++[(a,x)]).map encH) (cks l) (logs (lg++g)) q0 q1 p0 p1 z1 z2 m r0 r1 ((P++a::Q).map encV) (N:Int) ((P.length+1:Nat):Int):=fun n=>by
    conv=>lhs;unfold yaB
    dsimp only [lt,Go.Pf.jn]
    rw [cbT (by omega),asT (by omega),asT (by rw [hlen];omega),gt]
    refine (asTT rfl).trans ?_
    refine (hg lg (by omega) _).trans ?_
    rw [cnF rfl,lh]
    refine (asTT (by simp)).trans ?_
    refine (asTT (by simp)).trans ?_
    refine (asTT (by simp)).trans ?_
    refine (asTT (by simp)).trans ?_
    refine (asTT (decide_eq_true (by unfold room;omega))).trans ?_
    rw [w]
    refine (asTT (by simp)).trans ?_
    rw [show (H++[(a,x)]).map encH=H.map encH++[encH (a,x)] from qBv ..]
    rfl
   exact ⟨H',by rw [exS3 rfl (R:=fun _=>_) e];exact ih⟩
  ·rcases hM a qAt with k | bad
   ·exact absurd k good
   ·obtain ⟨C,G,x,y,hb⟩:=bad lg (by omega)
    refine ⟨H.map encH,?_⟩
    have e:∀ n,yaB a0 a1 a2 a3 a4 yam a6 a7 a8 x2 x3 (n+1) (H.map encH) (cks l) (logs lg) q0 q1 p0 p1 z1 z2 m r0 r1 ((P++a::Q).map encV) (N:Int) (P.length:Int)=x3 (H.map encH) 0 0 16:=fun n=>by
     conv=>lhs;unfold yaB
     dsimp only [lt,Go.Pf.jn]
     rw [cbT (by omega),asT (by omega),asT (by rw [hlen];omega),gt]
     refine (asTT rfl).trans ?_
     refine (hb _).trans ?_
     exact cnT (by decide)
    rw [exS3 rfl (R:=fun _=>_) e,exC3]
theorem yJx {a0 a1 a2 a3 a4 a6 a7 a8} {q0 q1 p0 p1 r0 r1 z1 z2 m:Int} {N:Nat} (hN:N≤100) {x0 x1 x2 x3} (A:List Nat) (lg:List Qy) (hA:A.length=N) (hL:lg.length+2*N≤2000) (hs:∀ a∈A,a<1000)
  (hM:∀ a∈A,(∃ (g:List Qy) (x:Rat),g.length≤2∧∀ lg:List Qy,lg.length+2≤2000→∀ K,yam (cks l) (logs lg) a q0 q1 p0 p1 r0 r1 K=K (cks l) (logs (lg++g)) x.num x.den 0)∨∀ lg:List Qy,lg.length+2≤2000→∃ (C G:List PV) (x y:Int),∀ K,yam (cks l) (logs lg) a q0 q1 p0 p1 r0 r1 K=K C G x y 16)
  (hB:∃ a∈A,¬∃ (g:List Qy) (x:Rat),g.length≤2∧∀ lg:List Qy,lg.length+2≤2000→∀ K,yam (cks l) (logs lg) a q0 q1 p0 p1 r0 r1 K=K (cks l) (logs (lg++g)) x.num x.den 0) :
  (∃ n,ya8 a0 a1 a2 a3 a4 yam a6 a7 a8 x0 x1 x2 x3 n (cks l) (logs lg) q0 q1 p0 p1 z1 z2 m r0 r1 (A.map encV) (N:Int) 0)=x1 0 0 16 ∨
  ∃ H',(∃ n,ya8 a0 a1 a2 a3 a4 yam a6 a7 a8 x0 x1 x2 x3 n (cks l) (logs lg) q0 q1 p0 p1 z1 z2 m r0 r1 (A.map encV) (N:Int) 0)=x3 H' 0 0 16:=by
 obtain ⟨a,Q,rfl⟩:∃ a Q,A=a::Q:=by
  obtain ⟨a,ha,_⟩:=hB
  cases A with
  | nil=>cases ha
  | cons a Q=>exact ⟨a,Q,rfl⟩
 rw [qAl] at hA
 have hlen:((a::Q).map encV).length=N:=by rw [qAe,qAl];omega
 by_cases good:∃ (g:List Qy) (x:Rat),g.length≤2∧∀ lg:List Qy,lg.length+2≤2000→∀ K,yam (cks l) (logs lg) a q0 q1 p0 p1 r0 r1 K=K (cks l) (logs (lg++g)) x.num x.den 0
 ·obtain ⟨g,x,g2,hg⟩:=good
  have hB2:∃ b∈Q,¬∃ (g:List Qy) (x:Rat),g.length≤2∧∀ lg:List Qy,lg.length+2≤2000→∀ K,yam (cks l) (logs lg) b q0 q1 p0 p1 r0 r1 K=K (cks l) (logs (lg++g)) x.num x.den 0:=by
   obtain ⟨b,hb,k⟩:=hB
   rcases qAv.1 hb with rfl | hb
   ·exact absurd ⟨g,x,g2,hg⟩ k
   ·exact ⟨b,hb,k⟩
  obtain ⟨H',ih⟩:=yIz (l:=l) (a0:=a0) (a1:=a1) (a2:=a2) (a3:=a3) (a4:=a4) (a6:=a6) (a7:=a7) (a8:=a8) (q0:=q0) (q1:=q1) (p0:=p0) (p1:=p1) (r0:=r0) (r1:=r1) (z1:=z1) (z2:=z2) (m:=m) hN (x2:=x2) (x3:=x3) Q [a] [(a,x)] (lg++g) (by rw [qAi];omega) rfl (by rw [qAb];omega) (fun b hb=>hs b (qAk _ hb)) (fun b hb=>hM b (qAk _ hb)) hB2
  have e:∀ n,ya8 a0 a1 a2 a3 a4 yam a6 a7 a8 x0 x1 x2 x3 (n+1) (cks l) (logs lg) q0 q1 p0 p1 z1 z2 m r0 r1 ((a::Q).map encV) (N:Int) 0=yaB a0 a1 a2 a3 a4 yam a6 a7 a8 x2 x3 n ([(a,x)].map encH) (cks l) (logs (lg++g)) q0 q1 p0 p1 z1 z2 m r0 r1 (([a]++Q).map encV) (N:Int) (([a].length:Nat):Int):=fun n=>by
   conv=>lhs;unfold ya8
   dsimp only [lt,Go.Pf.jn]
   rw [cbT (by omega),asT (by omega),asT (by rw [hlen];omega)]
   refine (asTT rfl).trans ?_
   refine (hg lg (by omega) _).trans ?_
   rw [cnF rfl]
   refine (asTT (by simp)).trans ?_
   rfl
  exact .inr ⟨H',by rw [exS3 rfl (R:=fun _=>_) e];exact ih⟩
 ·rcases hM a qAt with k | bad
  ·exact absurd k good
  ·obtain ⟨C,G,x,y,hb⟩:=bad lg (by omega)
   have e:∀ n,ya8 a0 a1 a2 a3 a4 yam a6 a7 a8 x0 x1 x2 x3 (n+1) (cks l) (logs lg) q0 q1 p0 p1 z1 z2 m r0 r1 ((a::Q).map encV) (N:Int) 0=x1 0 0 16:=fun n=>by
    conv=>lhs;unfold ya8
    dsimp only [lt,Go.Pf.jn]
    rw [cbT (by omega),asT (by omega),asT (by rw [hlen];omega)]
    refine (asTT rfl).trans ?_
    refine (hb _).trans ?_
    exact cnT (by decide)
   exact .inl (by rw [exS3 rfl (R:=fun _=>_) e,exC3])
inductive SpO (l:List Ck) (lg:List Qy) (A:List Nat) (a b c d:Int):Prop where
 | bad (e:Int) (he:e=2∨e=16) (h:∀ K,yau (cks l) (logs lg) (A.map encV) a b c d K=K [] [] 0 0 [] [] e):SpO l lg A a b c d
 | ok (q p:Rat) (sq:small q) (sp:small p) (eq:q.num=a∧(q.den:Int)=b∧p.num=c∧(p.den:Int)=d) (q0:0≤q) (qp:q<p) (p1:p≤lenR l) (f:Nat→Rat) (g:Nat→List Qy)
  (hm:∀ x∈A,(g x).length=nq9 l q p∧small (f x)∧vXA l x (f x)=vXA l x q+(vXA l x p-vXA l x q)*ybA A∧q≤f x∧f x≤p)
  (h:∀ K,yau (cks l) (logs lg) (A.map encV) a b c d K=K (cks l) (logs (lg++A.flatMap g)) (cutH A f).num (cutH A f).den ((lftS A f).map encV) ((rgtS A f).map encV) 0):SpO l lg A a b c d
theorem yFV (hd:DK l) {A:List Nat} (h2:2≤A.length) (h6:A.length≤6) (hs:A.Pairwise (fun a b=>a<b)) (hA:∀ a∈A,a<l.length) {lg:List Qy} (hm:lg.length≤100) {a b c d:Int} (ia:I64 a) (ib:I64 b) (ic:I64 c) (id:I64 d):SpO l lg A a b c d:=by
 have n6:=hd.n6
 have la:(A.map encV).length=A.length:=qAe ..
 have hl0:0<l.length:=by obtain ⟨a,ha⟩:=List.exists_mem_of_length_pos (l:=A) (by omega);have:=hA a ha;omega
 have hlast:A.getD (A.length-1) 0<l.length:=hA _ (by rw [qAa,qAc (by omega)];exact qBl _)
 have hst:=yvn hs
 have cmp:∀ K,yaS a b c d K=K (if chk2 a b c d=0 then cmpR a b c d else 0) (chk2 a b c d):=fun K=>yoU _ _ _ _ _ _ (fun K k=>yGJ ia ib ic id k) K
 by_cases hc:chk2 a b c d=0
 case neg =>
  refine .bad 2 (.inl rfl) fun K=>?_
  unfold yau ydC
  dsimp only [lt,Go.Pf.jn]
  rw [yfO hd.fin (by omega),hd.err (by rw [ycS];omega),cnF rfl,la,cbT (by omega),asT (by omega),getE (A:=A) (k:=0) (by omega)]
  refine (asTT rfl).trans ?_
  rw [cbT (show yaa (encV (A.getD 0 0))≥0 by show ((A.getD 0 0:Nat):Int)≥0;omega)]
  rw [show IntKind.i64.wrap ((A.length:Int)-1)=((A.length-1:Nat):Int) by rw [wib (by omega) (by omega)];omega]
  refine (asTT (decide_eq_true (by omega))).trans ?_
  refine (asTT (decide_eq_true (by omega))).trans ?_
  rw [qAg,getE (by omega)]
  refine (asTT rfl).trans ?_
  rw [ybg,show decide (yaa (encV (A.getD (A.length-1) 0))<(l.length:Int))=true from decide_eq_true (by show ((A.getD (A.length-1) 0:Nat):Int)<_;omega)]
  refine (chk0 (cks l) (logs lg) A (by omega) hst (A.length-1) 1 (by omega) (by omega)).trans ?_
  rw [cmp,qAw,yab]
  exact cnT hc
 obtain ⟨rv1,rv2⟩:=ydD.1 hc
 obtain ⟨q,sq,e1,e2⟩:=ytB rv1
 obtain ⟨p,sp,e3,e4⟩:=ytB rv2
 subst e1 e2 e3 e4
 have hL0:0≤lenR l:=by
  have:=(hd.ok 0 hl0).len0
  exact Rat.intCast_nonneg.2 (by omega)
 have sL:small (lenR l):=sm3 (D:=1) (In.int (by decide) _) ⟨by decide,by decide⟩ (by grind) (by have:lenR l≤1000:=qA0.2 (hd.ok 0 hl0).len0.2;grind)
 have lnum:(lenR l).num=(l.getD 0 default).len:=qB9 _
 have lden:(((lenR l).den:Nat):Int)=1:=by unfold lenR;rw [qCa];rfl
 have ord:∀ K,yaK p.num p.den (l.getD 0 default).len 1 K=K (cmpQ p (lenR l)):=fun K=>by
  rw [← lnum,← lden]
  unfold yaK yeC
  rw [ylX sp sL]
 by_cases hv:0≤q∧q<p∧p≤lenR l
 case neg =>
  refine .bad 2 (.inl rfl) fun K=>?_
  unfold yau ydC
  dsimp only [lt,Go.Pf.jn]
  rw [yfO hd.fin (by omega),hd.err (by rw [ycS];omega),cnF rfl,la,cbT (by omega),asT (by omega),getE (A:=A) (k:=0) (by omega)]
  refine (asTT rfl).trans ?_
  rw [cbT (show yaa (encV (A.getD 0 0))≥0 by show ((A.getD 0 0:Nat):Int)≥0;omega)]
  rw [show IntKind.i64.wrap ((A.length:Int)-1)=((A.length-1:Nat):Int) by rw [wib (by omega) (by omega)];omega]
  refine (asTT (decide_eq_true (by omega))).trans ?_
  refine (asTT (decide_eq_true (by omega))).trans ?_
  rw [qAg,getE (by omega)]
  refine (asTT rfl).trans ?_
  rw [ybg,show decide (yaa (encV (A.getD (A.length-1) 0))<(l.length:Int))=true from decide_eq_true (by show ((A.getD (A.length-1) 0:Nat):Int)<_;omega)]
  refine (chk0 (cks l) (logs lg) A (by omega) hst (A.length-1) 1 (by omega) (by omega)).trans ?_
  rw [ylX sq sp,qAw,yab,cnF rfl,yAZ]
  by_cases hqp:q<p
  ·rw [decide_eq_true hqp,qAw,yab]
   by_cases hq0:q.num<0
   ·rw [cbT hq0,yag]
   ·rw [cbF hq0,ybg]
    refine (asTT (decide_eq_true (by omega))).trans ?_
    have hq0':0≤q:=Rat.num_nonneg.1 (by omega)
    rw [ydE hl0,asCk,ck0,yiN,ord,yA0,decide_eq_true (by grind),yag]
  ·rw [decide_eq_false hqp,qA7,yag,yag]
 obtain ⟨q0,qp,p1⟩:=hv
 have hpt:=ysq h2 h6
 have mks:∀ x∈A,Mk9 l x q p (ybA A):=fun x hx=>yJw hd (hA x hx) sq sp hpt.1 q0 (qA2 qp) p1 (qA2 hpt.2.1) (qA2 hpt.2.2)
 have nq:nq9 l q p≤2:=by unfold nq9;cases hAsk l q p <;> decide
 by_cases all:∀ x∈A,∃ (g:List Qy) (y:Rat),g.length≤2∧∀ lg:List Qy,lg.length+2≤2000→∀ K,yam (cks l) (logs lg) x q.num q.den p.num p.den (ybA A).num (ybA A).den K=K (cks l) (logs (lg++g)) y.num y.den 0
 ·have ch:∀ x,∃ y:List Qy×Rat,x∈A→y.1.length=nq9 l q p∧small y.2∧vXA l x y.2=vXA l x q+(vXA l x p-vXA l x q)*ybA A∧q≤y.2∧y.2≤p∧∀ lg:List Qy,lg.length+2≤2000→∀ K,yam (cks l) (logs lg) x q.num q.den p.num p.den (ybA A).num (ybA A).den K=K (cks l) (logs (lg++y.1)) y.2.num y.2.den 0:=fun x=>by
   by_cases hx:x∈A
   ·rcases mks x hx with ⟨g,y,b⟩ | b
    ·exact ⟨(g,y),fun _=>b⟩
    ·exfalso
     obtain ⟨g,y,_,k⟩:=all x hx
     obtain ⟨C,G,u,v,e⟩:=b [] (by decide)
     have t:((0:Int)=0)=((16:Int)=0):=(k [] (by decide) (fun _ _ _ _ e=>e=0)).symm.trans (e (fun _ _ _ _ e=>e=0))
     exact absurd (t.mp rfl) (by decide)
   ·exact ⟨([],0),fun h=>absurd h hx⟩
  obtain ⟨F,hF⟩:=Classical.axiomOfChoice ch
  let f:Nat→Rat:=fun x=>(F x).2
  let g:Nat→List Qy:=fun x=>if x∈A then (F x).1 else []
  have g2:∀ x,(g x).length≤2:=fun x=>by
   show (if x∈A then (F x).1 else []).length≤2
   by_cases hx:x∈A
   ·rw [if_pos hx,(hF x hx).1];exact nq
   ·rw [if_neg hx];exact qBh _
  have ge:∀ x∈A,g x=(F x).1:=fun x hx=>if_pos hx
  refine .ok q p sq sp ⟨rfl,rfl,rfl,rfl⟩ q0 qp p1 f g (fun x hx=>?_) (fun K=>?_)
  ·obtain ⟨b1,b2,b3,b4,b5,_⟩:=hF x hx
   exact ⟨by rw [ge x hx];exact b1,b2,b3,b4,b5⟩
  ·exact yCM hd A h2 (by omega) hst hA sq sp q0 qp p1 hpt.1 f g g2 (fun x hx=>(hF x hx).2.1) (M:=2000) (by omega) (qAj _) (fun x hx lg hl K=>by rw [ge x hx];exact (hF x hx).2.2.2.2.2 lg hl K) K
 ·have hB:∃ x∈A,¬∃ (g:List Qy) (y:Rat),g.length≤2∧∀ lg:List Qy,lg.length+2≤2000→∀ K,yam (cks l) (logs lg) x q.num q.den p.num p.den (ybA A).num (ybA A).den K=K (cks l) (logs (lg++g)) y.num y.den 0 :=
   Classical.byContradiction fun k=>all fun x hx=>Classical.byContradiction fun k2=>k ⟨x,hx,k2⟩
  have hM:∀ x∈A,(∃ (g:List Qy) (y:Rat),g.length≤2∧∀ lg:List Qy,lg.length+2≤2000→∀ K,yam (cks l) (logs lg) x q.num q.den p.num p.den (ybA A).num (ybA A).den K=K (cks l) (logs (lg++g)) y.num y.den 0)∨∀ lg:List Qy,lg.length+2≤2000→∃ (C G:List PV) (u v:Int),∀ K,yam (cks l) (logs lg) x q.num q.den p.num p.den (ybA A).num (ybA A).den K=K C G u v 16:=fun x hx=>by
   rcases mks x hx with ⟨g,y,b1,_,_,_,_,b⟩ | b
   ·exact .inl ⟨g,y,by omega,b⟩
   ·exact .inr b
  refine .bad 16 (.inr rfl) fun K=>?_
  unfold yau ydC
  dsimp only [lt,Go.Pf.jn]
  rw [yfO hd.fin (by omega),hd.err (by rw [ycS];omega),cnF rfl,la,cbT (by omega),asT (by omega),getE (A:=A) (k:=0) (by omega)]
  refine (asTT rfl).trans ?_
  rw [cbT (show yaa (encV (A.getD 0 0))≥0 by show ((A.getD 0 0:Nat):Int)≥0;omega)]
  rw [show IntKind.i64.wrap ((A.length:Int)-1)=((A.length-1:Nat):Int) by rw [wib (by omega) (by omega)];omega]
  refine (asTT (decide_eq_true (by omega))).trans ?_
  refine (asTT (decide_eq_true (by omega))).trans ?_
  rw [qAg,getE (by omega)]
  refine (asTT rfl).trans ?_
  rw [ybg,show decide (yaa (encV (A.getD (A.length-1) 0))<(l.length:Int))=true from decide_eq_true (by show ((A.getD (A.length-1) 0:Nat):Int)<_;omega)]
  refine (chk0 (cks l) (logs lg) A (by omega) hst (A.length-1) 1 (by omega) (by omega)).trans ?_
  rw [ylX sq sp,qAw,yab,cnF rfl,yAZ,decide_eq_true qp,qAw,yab,cbF (by have:=Rat.num_nonneg.2 q0;omega),ybg]
  refine (asTT (decide_eq_true (by omega))).trans ?_
  rw [ydE hl0,asCk,ck0,yiN,ord,yA0,decide_eq_false (by grind),yab,la]
  rw [show IntKind.i64.wrap (Int.tdiv (A.length:Int) 2)=((A.length / 2:Nat):Int) by rw [Int.tdiv_eq_ediv_of_nonneg (by omega),wib (by omega) (by omega)];omega]
  have mkR:∀ K,yaN ((A.length / 2:Nat):Int) (A.length:Int) K=K (ybA A).num (ybA A).den 0:=fun K=>by
   rw [yCC ⟨by omega,by omega⟩ ⟨by omega,by omega⟩ (by omega)]
   show fitK (ybA A) K=_
   rw [ycl,if_pos hpt.1]
  rw [mkR]
  refine (yJx (l:=l) (N:=A.length) (by omega) A lg rfl (by omega) (fun a ha=>by have:=hA a ha;omega) hM hB).elim (fun k=>k.trans rfl) fun ⟨H',k⟩=>k.trans rfl
end
set_option maxHeartbeats 1000000
section
variable {l:List Ck}
theorem yJy {A:List Nat} (hs:A.Pairwise (fun a b=>a<b)) (f:Nat→Rat):(lftS A f).Pairwise (fun a b=>a<b):=by
 unfold lftS
 refine yst ?_
 rw [List.map_take]
 exact (((yvo f).nodup_iff.2 (hs.imp fun k=>Nat.ne_of_lt k)):((hsS A f).map Prod.fst).Nodup).sublist (List.take_sublist _ _)
theorem yJz {A:List Nat} (hs:A.Pairwise (fun a b=>a<b)) (f:Nat→Rat):(rgtS A f).Pairwise (fun a b=>a<b):=by
 unfold rgtS
 refine yst ?_
 rw [List.map_drop]
 exact (((yvo f).nodup_iff.2 (hs.imp fun k=>Nat.ne_of_lt k)):((hsS A f).map Prod.fst).Nodup).sublist (List.drop_sublist _ _)
theorem ynT {a b c d:Int} (ha:I64 a) (hb:I64 b) (hc:I64 c) (hd:I64 d) (h:chk2 a b c d≠0) (K:Int→Int→Int→Prop):ybn a b c d K=K 0 0 (chk2 a b c d):=by
 unfold ybn ylG
 rw [ynO ha hb hc hd,cnT h,ynO ha hb hc hd]
theorem mul9 {q r:Rat} (hq:small q) (hr:small r) (K:Int→Int→Int→Prop):ybn q.num q.den r.num r.den K=if small (q*r) then K (q*r).num (q*r).den 0 else K 0 0 16:=(yEM hq hr K).trans ycl
theorem val9 (hd:DK l) {a:Nat} (ha:a<l.length) {q p:Rat} (hs:small q) (hp:small p) (q0:0≤q) (qp:q≤p) (p1:p≤lenR l) (K:Int→Int→Int→Prop) :
  ya7 (l.getD a default).len (ints (l.getD a default).cuts) (ints (l.getD a default).dens) q.num q.den p.num p.den K=exK (valC (l.getD a default).cuts (l.getD a default).dens q p) K:=by
 have hok:=hd.ok a ha
 have e1:valR (l.getD a default).len (l.getD a default).cuts (l.getD a default).dens q.num q.den p.num p.den=valC (l.getD a default).cuts (l.getD a default).dens q p:=by
  unfold valR
  rw [if_pos hok.ck,if_pos ⟨yuo hs q0 (by rw [hd.len a ha];exact qB5 qp p1),yuo hp (qB5 q0 qp) (by rw [hd.len a ha];exact p1),by rw [ydo,ydo];exact Rat.not_lt.2 qp⟩,ydo,ydo]
 rw [yFK (by have:=(hd.fin a ha).1;omega) (by have:=(hd.fin a ha).2;omega) hs.i1 hs.i2 hp.i1 hp.i2,e1]
theorem one9 {k:Nat} (h2:2≤k) (h6:k≤6):∃ u:Rat,small u∧u.num=1∧(u.den:Int)=(k:Int)∧u*((k:Int):Rat)=1:=by
 obtain rfl | rfl | rfl | rfl | rfl:k=2∨k=3∨k=4∨k=5∨k=6:=by omega
 ·exact ⟨mkRat 1 2,by decide +kernel⟩
 ·exact ⟨mkRat 1 3,by decide +kernel⟩
 ·exact ⟨mkRat 1 4,by decide +kernel⟩
 ·exact ⟨mkRat 1 5,by decide +kernel⟩
 ·exact ⟨mkRat 1 6,by decide +kernel⟩
theorem chk9 (hd:DK l) {x:Nat} (hx:x<l.length) {q p a b:Rat} (sq:small q) (sp:small p) (sa:small a) (sb:small b) (q0:0≤q) (qp:q≤p) (p1:p≤lenR l) (a0:0≤a) (ab:a≤b) (b1:b≤lenR l) {k m:Nat} (h2:2≤k) (h6:k≤6) (hm:m≤6)
  (hv:(vXA l x p-vXA l x q)*((m:Int):Rat)≤(vXA l x b-vXA l x a)*((k:Int):Rat)) (Y N:Prop) :
  (ya7 (l.getD x default).len (ints (l.getD x default).cuts) (ints (l.getD x default).dens) q.num q.den p.num p.den fun y0 y1 y2 =>
   ya7 (l.getD x default).len (ints (l.getD x default).cuts) (ints (l.getD x default).dens) a.num a.den b.num b.den fun z0 z1 z2 =>
   ybn y0 y1 1 (k:Int) fun u0 u1 u2=>yco (m:Int) fun m0 m1=>ybn u0 u1 m0 m1 fun v0 v1 v2 =>
   cbr (y2 == 0) (cbr (z2 == 0) (cbr (u2 == 0) (cbr (v2 == 0) (yaV z0 z1 v0 v1 fun t=>cbr t Y N) (cbr false Y N)) (cbr false Y N)) (cbr false Y N)) (cbr false Y N))=N:=by
 obtain ⟨u,su,un,ud,uk⟩:=one9 h2 h6
 have hok:=hd.ok x hx
 have sm:small ((m:Int):Rat):=ykQ (by omega)
 have mn:(((m:Int):Rat)).num=(m:Int):=qB9 _
 have md:((((m:Int):Rat).den:Nat):Int)=1:=by rw [qCa];rfl
 have c8:∀ c d:Int,chk2 0 0 c d≠0:=fun c d h=>by
  have:=(ydD.1 h).1
  exact absurd this.1 (by decide)
 have z64:I64 0:=⟨by decide,by decide⟩
 have k64:I64 (k:Int):=⟨by omega,by omega⟩
 have m64:I64 (m:Int):=⟨by omega,by omega⟩
 have o64:I64 1:=⟨by decide,by decide⟩
 rw [val9 hd hx sq sp q0 qp p1]
 cases ev:valC (l.getD x default).cuts (l.getD x default).dens q p with
 | error e =>
  have e16:e=16:=yxw _ _ _ _ _ _ _ _ ev
  subst e16
  show (ya7 _ _ _ _ _ _ _ fun z0 z1 z2=>_)=_
  rw [val9 hd hx sa sb a0 ab b1]
  cases valC (l.getD x default).cuts (l.getD x default).dens a b with
  | error e =>
   show (ybn 0 0 1 (k:Int) _)=_
   rw [ynT z64 z64 o64 k64 (c8 _ _)]
   refine (rOf9 _ _).trans ?_
   rw [ynT z64 z64 m64 o64 (c8 _ _)]
   rfl
  | ok w =>
   show (ybn 0 0 1 (k:Int) _)=_
   rw [ynT z64 z64 o64 k64 (c8 _ _)]
   refine (rOf9 _ _).trans ?_
   rw [ynT z64 z64 m64 o64 (c8 _ _)]
   rfl
 | ok v =>
  have hve:v=vXA l x p-vXA l x q:=yvl hok q0 qp ev
  have sv:small v:=yqv _ _ _ _ _ _ _ _ (by decide) ev
  show (ya7 _ _ _ _ _ _ _ fun z0 z1 z2=>_)=_
  rw [val9 hd hx sa sb a0 ab b1]
  have S:∀ (z0 z1 z2:Int),(z2=0→∃ w:Rat,small w∧w.num=z0∧(w.den:Int)=z1∧w=vXA l x b-vXA l x a)→(ybn v.num v.den 1 (k:Int) fun u0 u1 u2=>yco (m:Int) fun m0 m1=>ybn u0 u1 m0 m1 fun v0 v1 v2 =>
    cbr ((0:Int) == 0) (cbr (z2 == 0) (cbr (u2 == 0) (cbr (v2 == 0) (yaV z0 z1 v0 v1 fun t=>cbr t Y N) (cbr false Y N)) (cbr false Y N)) (cbr false Y N)) (cbr false Y N))=N:=fun z0 z1 z2 hz=>by
   rw [← un,← ud,mul9 sv su]
   by_cases s1:small (v*u)
   ·rw [if_pos s1]
    refine (rOf9 _ _).trans ?_
    rw [← mn,← md,mul9 s1 sm]
    by_cases s2:small (v*u*((m:Int):Rat))
    ·rw [if_pos s2]
     by_cases hz0:z2=0
     ·obtain ⟨w,sw,wn,wd,we⟩:=hz hz0
      subst hz0
      refine (cbYY rfl).trans ?_
      refine (cbYY rfl).trans ?_
      refine (cbYY rfl).trans ?_
      refine (cbYY rfl).trans ?_
      rw [← wn,← wd,yhd sw s2]
      have:¬w<v*u*((m:Int):Rat):=fun k'=>by
       have hk:(0:Rat)<((k:Int):Rat):=Rat.intCast_pos.2 (by omega)
       have:=Rat.mul_lt_mul_of_pos_right k' hk
       rw [we] at this
       rw [← hve] at hv
       have e:v*u*((m:Int):Rat)*((k:Int):Rat)=v*((m:Int):Rat)*(u*((k:Int):Rat)):=by grind
       rw [e,uk,Rat.mul_one] at this
       grind
      rw [decide_eq_false this,yab]
     ·show cbr (z2 == 0) _ _=_
      rw [show (z2 == 0)=false from beq_eq_false_iff_ne.2 hz0]
      rfl
    ·rw [if_neg s2]
     show cbr (z2 == 0) (cbr false Y N) (cbr false Y N)=N
     cases (z2 == 0) <;> rfl
   ·rw [if_neg s1]
    refine (rOf9 _ _).trans ?_
    rw [ynT z64 z64 m64 o64 (c8 _ _)]
    show cbr (z2 == 0) (cbr false Y N) (cbr false Y N)=N
    cases (z2 == 0) <;> rfl
  cases ew:valC (l.getD x default).cuts (l.getD x default).dens a b with
  | error e =>
   have e16:e=16:=yxw _ _ _ _ _ _ _ _ ew
   subst e16
   exact S 0 0 16 (fun h=>absurd h (by decide))
  | ok w=>exact S w.num w.den 0 fun _=>⟨w,yqv _ _ _ _ _ _ _ _ (by decide) ew,rfl,rfl,yvl hok a0 ab ew⟩
theorem hp1 {a0 a1 a2 a3 a4 a5 a6 a7 a8 a9 x0} (l1 l2:List PV) (i3 i4 i5 i6 i7 i8 i10:Int) {A L:List Nat} {i:Nat} (hi:i<A.length) (hA:A.length≤100) (hL:L.length≤100) {m:Nat} (hm:m=L.length):∀ (d n:Nat) (b:Bool),n+d=L.length →
  (∃ k,ybe a0 a1 a2 a3 a4 a5 a6 a7 a8 a9 x0 k (A.map encV) l1 l2 i3 i4 i5 i6 i7 i8 (L.map encV) i10 (m:Int) (i:Int) b (n:Int))=x0 (A.map encV) l1 l2 i3 i4 i5 i6 i7 i8 (L.map encV) i10 (m:Int) (i:Int) (b||(L.drop n).any (fun y=>decide (y=A.getD i 0))) (m:Int) false
 | 0,n,b,h=>by
  have e:∀ k,ybe a0 a1 a2 a3 a4 a5 a6 a7 a8 a9 x0 (k+1) (A.map encV) l1 l2 i3 i4 i5 i6 i7 i8 (L.map encV) i10 (m:Int) (i:Int) b (n:Int)=x0 (A.map encV) l1 l2 i3 i4 i5 i6 i7 i8 (L.map encV) i10 (m:Int) (i:Int) b (m:Int) false:=fun k=>by
   conv=>lhs;unfold ybe
   rw [cbF (by omega),show (n:Int)=(m:Int) by omega]
  rw [exS3 rfl (R:=fun _=>_) e,exC3,qBe (by omega)]
  simp
 | d+1,n,b,h=>by
  have ih:=fun b=>hp1 (a0:=a0) (a1:=a1) (a2:=a2) (a3:=a3) (a4:=a4) (a5:=a5) (a6:=a6) (a7:=a7) (a8:=a8) (a9:=a9) (x0:=x0) l1 l2 i3 i4 i5 i6 i7 i8 i10 hi hA hL hm d (n+1) b (by omega)
  have w:IntKind.i64.wrap ((n:Int)+1)=((n+1:Nat):Int):=by rw [wib (by omega) (by omega)];omega
  have gL:List.getD (L.map encV) ((n:Int).toNat) .nils=encV (L.getD n 0):=by rw [qAg];exact getE (by omega)
  have gA:List.getD (A.map encV) ((i:Int).toNat) .nils=encV (A.getD i 0):=by rw [qAg];exact getE hi
  have lL:(L.map encV).length=L.length:=qAe ..
  have lA:(A.map encV).length=A.length:=qAe ..
  have e:∀ k,ybe a0 a1 a2 a3 a4 a5 a6 a7 a8 a9 x0 (k+1) (A.map encV) l1 l2 i3 i4 i5 i6 i7 i8 (L.map encV) i10 (m:Int) (i:Int) b (n:Int)=ybe a0 a1 a2 a3 a4 a5 a6 a7 a8 a9 x0 k (A.map encV) l1 l2 i3 i4 i5 i6 i7 i8 (L.map encV) i10 (m:Int) (i:Int) (b||decide (L.getD n 0=A.getD i 0)) ((n+1:Nat):Int):=fun k=>by
   conv=>lhs;unfold ybe
   dsimp only [lt,Go.Pf.jn]
   rw [cbT (by omega),w,gL,gA,lL,lA]
   cases b with
   | true=>rfl
   | false =>
    rw [yab]
    refine (asTT (decide_eq_true (by omega))).trans ?_
    refine (asTT (decide_eq_true (by omega))).trans ?_
    refine (asTT rfl).trans ?_
    refine (asTT (decide_eq_true (by omega))).trans ?_
    refine (asTT (decide_eq_true (by omega))).trans ?_
    refine (asTT rfl).trans ?_
    have eb:(yaa (encV (L.getD n 0)) == yaa (encV (A.getD i 0)))=decide (L.getD n 0=A.getD i 0):=by
     show (((L.getD n 0:Nat):Int) ==((A.getD i 0:Nat):Int))=_
     rw [Bool.eq_iff_iff,beq_iff_eq,decide_eq_true_iff]
     omega
    rw [eb,Bool.false_or]
  rw [exS3 rfl (R:=fun _=>_) e,ih,yfN 0 (by omega:n<L.length),List.any_cons,Bool.or_assoc]
theorem hp0 {a0 a1 a2 a3 a4 a5 x0 x1} (hd:DK l) {lg:List PV} {A:List Nat} (h2:2≤A.length) (h6:A.length≤6) (hs:A.Pairwise (fun a b=>a<b)) (hA:∀ a∈A,a<l.length) {q p:Rat} (sq:small q) (sp:small p) (q0:0≤q) (qp:q<p) (p1:p≤lenR l) {f:Nat→Rat}
  (hf:∀ x∈A,small (f x)∧vXA l x (f x)=vXA l x q+(vXA l x p-vXA l x q)*ybA A∧q≤f x∧f x≤p):∀ (d i:Nat),i+d=A.length →
  (∃ k,yaW a0 a1 a2 a3 a4 a5 yaV ya7 ybn yco x0 x1 k (A.map encV) (cks l) lg q.num q.den p.num p.den (cutH A f).num (cutH A f).den ((lftS A f).map encV) (A.length:Int) ((A.length / 2:Nat):Int) (i:Int)) =
  x0 (A.map encV) (cks l) lg q.num q.den p.num p.den (cutH A f).num (cutH A f).den ((lftS A f).map encV) (A.length:Int) ((A.length / 2:Nat):Int) (A.length:Int) false
 | 0,i,h=>by
  have e:∀ k,yaW a0 a1 a2 a3 a4 a5 yaV ya7 ybn yco x0 x1 (k+1) (A.map encV) (cks l) lg q.num q.den p.num p.den (cutH A f).num (cutH A f).den ((lftS A f).map encV) (A.length:Int) ((A.length / 2:Nat):Int) (i:Int)=x0 (A.map encV) (cks l) lg q.num q.den p.num p.den (cutH A f).num (cutH A f).den ((lftS A f).map encV) (A.length:Int) ((A.length / 2:Nat):Int) (A.length:Int) false:=fun k=>by
   conv=>lhs;unfold yaW
   rw [cbF (by omega),show (i:Int)=(A.length:Int) by omega]
  rw [exS3 rfl (R:=fun _=>_) e,exC3]
 | d+1,i,h=>by
  have ih:=hp0 (a0:=a0) (a1:=a1) (a2:=a2) (a3:=a3) (a4:=a4) (a5:=a5) (x0:=x0) (x1:=x1) hd (lg:=lg) h2 h6 hs hA sq sp q0 qp p1 hf d (i+1) (by omega)
  have hi:i<A.length:=by omega
  have w:IntKind.i64.wrap ((i:Int)+1)=((i+1:Nat):Int):=by rw [wib (by omega) (by omega)];omega
  have wm:IntKind.i64.wrap ((A.length:Int)-((A.length / 2:Nat):Int))=((A.length-A.length / 2:Nat):Int):=by rw [wib (by omega) (by omega)];omega
  have gA:List.getD (A.map encV) ((i:Int).toNat) .nils=encV (A.getD i 0):=by rw [qAg];exact getE hi
  have lA:(A.map encV).length=A.length:=qAe ..
  have hm:A.getD i 0∈A:=by
   rw [qAa,qAc hi]
   exact qBl hi
  generalize hxe:A.getD i 0=x at *
  have hx:=hA x hm
  obtain ⟨c1,c2,c3,c4⟩:=hf x hm
  have gc:List.getD (cks l) ((yaa (encV x)).toNat) .nils=encC (l.getD x default):=ydE (i:=(yaa (encV x)).toNat) (show (x:Int).toNat<l.length by omega)
  obtain ⟨b,hb,eb⟩:=yA5 (f:=f) h2
  have sc:small (cutH A f):=by rw [eb];exact (hf b hb).1
  have qc:q≤cutH A f:=by rw [eb];exact (hf b hb).2.2.1
  have cp:cutH A f≤p:=by rw [eb];exact (hf b hb).2.2.2
  have kpos:(0:Rat)<((A.length:Int):Rat):=Rat.intCast_pos.2 (by omega)
  have pk:ybA A*((A.length:Int):Rat)=(((A.length / 2:Nat):Int):Rat):=yIc h2
  have kk:(((A.length / 2:Nat):Int):Rat)+(((A.length-A.length / 2:Nat):Int):Rat)=((A.length:Int):Rat):=by rw [← Rat.intCast_add];congr 1;omega
  have lL:(lftS A f).length≤100:=by rw [yfk];omega
  have e:∀ k,yaW a0 a1 a2 a3 a4 a5 yaV ya7 ybn yco x0 x1 (k+1) (A.map encV) (cks l) lg q.num q.den p.num p.den (cutH A f).num (cutH A f).den ((lftS A f).map encV) (A.length:Int) ((A.length / 2:Nat):Int) (i:Int)=yaW a0 a1 a2 a3 a4 a5 yaV ya7 ybn yco x0 x1 k (A.map encV) (cks l) lg q.num q.den p.num p.den (cutH A f).num (cutH A f).den ((lftS A f).map encV) (A.length:Int) ((A.length / 2:Nat):Int) ((i+1:Nat):Int):=fun k=>by
   conv=>lhs;unfold yaW
   dsimp only [lt,Go.Pf.jn]
   rw [cbT (by omega)]
   refine (hp1 (cks l) lg _ _ _ _ _ _ _ hi (by omega) lL (m:=A.length / 2) (by rw [yfk]) (lftS A f).length 0 false (by omega)).trans ?_
   rw [Bool.false_or,qCc,gA,lA,w,wm]
   rw [hxe]
   cases ho:(lftS A f).any (fun y=>decide (y=x)) with
   | true =>
    obtain ⟨y,hy,ye⟩:=List.any_eq_true.1 ho
    have ye:y=x:=of_decide_eq_true ye
    rw [ye] at hy
    have le:=(yxt h2 hy).2
    have mono:vXA l x (f x)≤vXA l x (cutH A f):=yhU (hd.ok x hx) le
    rw [qAw,yab]
    refine (asTT (decide_eq_true (by omega))).trans ?_
    refine (asTT (decide_eq_true (by omega))).trans ?_
    refine (asTT rfl).trans ?_
    refine (asTT (decide_eq_true (show (0:Int)≤(x:Int) by omega))).trans ?_
    refine (asTT (decide_eq_true (show (x:Int)<(((cks l).length:Nat):Int) by rw [ybg];omega))).trans ?_
    rw [gc]
    refine (asTT rfl).trans ?_
    refine chk9 hd hx sq sp sq sc q0 (qA2 qp) p1 q0 qc (qB5 cp p1) h2 h6 (m:=A.length / 2) (by omega) ?_ _ _
    have:(vXA l x p-vXA l x q)*ybA A≤vXA l x (cutH A f)-vXA l x q:=by grind
    have:=qB4 this (qA2 kpos)
    rw [Rat.mul_assoc,pk] at this
    exact this
   | false =>
    have hr:x∈rgtS A f:=by
     have:=(yIb (A:=A) f).mem_iff.2 hm
     rcases qA4.1 this with k | k
     ·exfalso
      have:(lftS A f).any (fun y=>decide (y=x))=true:=List.any_eq_true.2 ⟨x,k,decide_eq_true rfl⟩
      rw [ho] at this
      cases this
     ·exact k
    have ge:=(yxu h2 hr).2
    have mono:vXA l x (cutH A f)≤vXA l x (f x):=yhU (hd.ok x hx) ge
    rw [qA7,yag]
    refine (asTT (decide_eq_true (by omega))).trans ?_
    refine (asTT (decide_eq_true (by omega))).trans ?_
    refine (asTT rfl).trans ?_
    refine (asTT (decide_eq_true (show (0:Int)≤(x:Int) by omega))).trans ?_
    refine (asTT (decide_eq_true (show (x:Int)<(((cks l).length:Nat):Int) by rw [ybg];omega))).trans ?_
    rw [gc]
    refine (asTT rfl).trans ?_
    refine chk9 hd hx sq sp sc sp q0 (qA2 qp) p1 (qB5 q0 qc) cp p1 h2 h6 (m:=A.length-A.length / 2) (by omega) ?_ _ _
    have:(vXA l x p-vXA l x q)-(vXA l x p-vXA l x q)*ybA A≤vXA l x p-vXA l x (cutH A f):=by grind
    have:=qB4 this (qA2 kpos)
    have e3:((vXA l x p-vXA l x q)-(vXA l x p-vXA l x q)*ybA A)*((A.length:Int):Rat)=(vXA l x p-vXA l x q)*((A.length:Int):Rat)-(vXA l x p-vXA l x q)*(ybA A*((A.length:Int):Rat)):=by grind
    rw [e3,pk,← kk] at this
    rw [← kk]
    grind
  rw [exS3 rfl (R:=fun _=>_) e]
  exact ih
theorem yvs (A:List Nat):(toI A).length=A.length:=qAe ..
theorem yIg {A:List Nat} {N:Nat} (hs:A.Pairwise (fun a b=>a<b)) (hA:∀ a∈A,a<N):A.length≤N:=by
 have h:∀ i,i<A.length→i≤A.getD i 0:=fun i=>by
  induction i with
  | zero=>intro _;exact qBh _
  | succ i ih=>intro hi;have:=yvn hs i hi;have:=ih (by omega);omega
 by_cases h0:A.length=0
 ·omega
 ·have k:=h (A.length-1) (by omega)
  have m:A.getD (A.length-1) 0∈A:=by
   rw [qAa,qAc (by omega)]
   exact qBl _
  have:=hA _ m
  omega
theorem yCR {α β:Type} (g:α→List β) (c:Nat):∀ A:List α,(∀ a∈A,(g a).length=c)→(A.flatMap g).length=c*A.length
 | [],_=>by simp
 | a::A,h=>by
  have ih:=yCR g c A fun b hb=>h b (qAk _ hb)
  have:=h a (qAt ..)
  rw [List.flatMap_cons,qAb,qAl,Nat.mul_add,Nat.mul_one]
  omega
theorem yyn (hl:l.length≤9223372036854775807) (lg:List Qy) (xs:List Int) (hx:xs.length≤9223372036854775807) {a b c d:Int} (ia:I64 a) (ib:I64 b) (ic:I64 c) (id:I64 d):yeU (cks l) (logs lg) (ints xs) a b c d (fun b=>b=true):=by
 unfold yeU ygm
 dsimp only [lt,Go.Pf.jn]
 have al:∀ K,ydd K=K true:=yFU
 simp only [al]
 rw [yG8 hl]
 cases hg:(ytE l||(decide ((logs lg).length>40∧(logs lg).length<1999)||decide ((logs lg).length>2010))) with
 | true=>rw [yag,yag];trivial
 | false =>
  rw [qBy] at hg
  obtain ⟨g1,g2,g3⟩:=yD7 hg.1
  rw [yab,ycS,yaQ]
  by_cases hlg:(lg.length:Int)>40
  ·rw [cbT hlg,yag];trivial
  rw [cbF hlg,yFL g3 (by omega),ycS]
  by_cases hz:yhe l lg.length=0
  case neg=>rw [cnT hz,yag];trivial
  rw [cnF hz]
  have hd:=(yiM hz).1
  have n6:=hd.n6
  by_cases h2:(xs.length:Int)<2
  ·rw [cbT h2,yag];trivial
  rw [cbF h2,yEc _ xs hx]
  cases hS:(decide (0<xs.length)&&allA l.length xs xs.length 0) with
  | false=>exact trivial
  | true =>
   rw [qAf] at hS
   obtain ⟨A,rfl,hs,hA⟩:=A_of hS.2
   have lxs:(toI A).length=A.length:=qAe ..
   have h2:2≤A.length:=by omega
   have nd:A.Nodup:=hs.imp fun k=>Nat.ne_of_lt k
   have h6:A.length≤6:=by
    have:=yIg hs hA
    omega
   rw [qAw,yab,lxs,← yA8]
   cases yFV hd h2 h6 hs hA (lg:=lg) (by omega) ia ib ic id with
   | bad e he h =>
    rw [h]
    rcases he with rfl | rfl
    ·exact trivial
    ·exact trivial
   | ok q p sq sp eq q0 qp p1 f g hm h =>
    obtain ⟨rfl,rfl,rfl,rfl⟩:=eq
    rw [h,cnF rfl]
    obtain ⟨b,hb,eb⟩:=yA5 (f:=f) h2
    have sc:small (cutH A f):=by rw [eb];exact (hm b hb).2.1
    have qc:q≤cutH A f:=by rw [eb];exact (hm b hb).2.2.2.1
    have cp:cutH A f≤p:=by rw [eb];exact (hm b hb).2.2.2.2
    have fl:=yCR g (nq9 l q p) A fun x hx=>(hm x hx).1
    have nq:nq9 l q p=1∨nq9 l q p=2:=by unfold nq9;cases hAsk l q p;exact .inl rfl;exact .inr rfl
    have lL:((lftS A f).map encV).length=A.length / 2:=by rw [qAe,yfk]
    have lR:((rgtS A f).map encV).length=A.length-A.length / 2:=by rw [qAe,yg6]
    have SetL:∀ K,yd8 (cks l) (logs lg) ((lftS A f).map encV) K=K true:=fun K=>by
     rw [yA8,yEc _ _ (by rw [yvs,yfk];omega),yEZ (yJy hs f) (fun x hx=>hA x (yxt h2 hx).1),yvs,yfk,decide_eq_true (show 0<A.length / 2 by omega)]
     rfl
    have SetR:∀ K,yd8 (cks l) (logs lg) ((rgtS A f).map encV) K=K true:=fun K=>by
     rw [yA8,yEc _ _ (by rw [yvs,yg6];omega),yEZ (yJz hs f) (fun x hx=>hA x (yxu h2 hx).1),yvs,yg6,decide_eq_true (show 0<A.length-A.length / 2 by omega)]
     rfl
    have wt:IntKind.i64.wrap (Int.tdiv ((A.length:Nat):Int) 2)=((A.length / 2:Nat):Int):=by rw [show Int.tdiv ((A.length:Nat):Int) 2=((A.length / 2:Nat):Int) from rfl,wib (by omega) (by omega)]
    have wr:IntKind.i64.wrap ((A.length:Int)-((A.length / 2:Nat):Int))=((A.length-A.length / 2:Nat):Int):=by rw [wib (by omega) (by omega)];omega
    have wa:IntKind.i64.wrap ((((logs (lg++A.flatMap g)).length:Nat):Int)-((lg.length:Nat):Int))=((nq9 l q p*A.length:Nat):Int):=by
     rw [ycS,qAb,fl]
     have:nq9 l q p*A.length≤2*6:=Nat.mul_le_mul (by omega) h6
     rw [wib (by omega) (by omega)]
     omega
    have w2:IntKind.i64.wrap ((2:Int)*(A.length:Int))=((2*A.length:Nat):Int):=by rw [wib (by omega) (by omega)];omega
    have chk:∀ K,ycp (cutH A f).num (cutH A f).den K=K 0:=fun K=>by
     rw [ykP sc.i1 sc.i2]
     unfold chk
     rw [if_pos sc.rv]
    rw [wt,wr,wa,w2,lL,lR,cnF rfl,cnF rfl,SetL,qAw,yab,SetR,qAw,yab]
    have fin:(∃ k,yaW ydK ycJ yd8 ydd yau ycp yaV ya7 ybn yco (fun _ _ _ _ _ _ _ _ _ _ _ _ _ _=>True) (fun i=>i=true) k (A.map encV) (cks l) (logs lg) q.num q.den p.num p.den (cutH A f).num (cutH A f).den ((lftS A f).map encV) (A.length:Int) ((A.length / 2:Nat):Int) 0):=by
     refine Eq.mpr (hp0 hd h2 h6 hs hA sq sp q0 qp p1 (fun x hx=>(hm x hx).2) A.length 0 (by omega)) trivial
    have less1:∀ K,yaV (cutH A f).num (cutH A f).den q.num q.den K=K false:=fun K=>by rw [yhd sc sq,decide_eq_false (Rat.not_lt.2 qc)]
    have less2:∀ K,yaV p.num p.den (cutH A f).num (cutH A f).den K=K false:=fun K=>by rw [yhd sp sc,decide_eq_false (Rat.not_lt.2 cp)]
    rcases nq with k | k
    ·rw [k,qBf,cnF rfl,chk,cnF rfl,less1,yab,less2,yab]
     exact fin
    ·rw [k,cnT (show ((2*A.length:Nat):Int)≠(A.length:Int) by omega),cnF rfl,chk,cnF rfl,less1,yab,less2,yab]
     exact fin
end
theorem yI7 {az:List PV} (h:yqY [dsD,.s (.i .i64),dsR,dsR] az):∃ (l:List Ck) (lg:List Qy) (xs:List Int) (a b c d:Int),az=[.agg [.data (cks l),.data (logs lg)],.data (ints xs),.agg [.int .i64 a,.int .i64 b],.agg [.int .i64 c,.int .i64 d]]∧l.length≤9223372036854775807∧xs.length≤9223372036854775807∧I64 a∧I64 b∧I64 c∧I64 d:=by
 simp only [yqY] at h
 obtain ⟨x,r,rfl,x1,x2,y,r2,rfl,y1,y2,z,r3,rfl,z1,z2,u,r4,rfl,u1,u2,rfl⟩:=h
 rw [yxq x1,yxq z1,yxq u1]
 generalize x.cells=cx at x2
 generalize z.cells=cz at z2
 generalize u.cells=cu at u2
 simp only [dsD,HasF,HasL] at x2
 obtain ⟨k1,_,rfl,g1,k2,_,rfl,g2,rfl⟩:=x2
 obtain ⟨l,rfl,hl,_⟩:=yJm (by simp only [HasF];exact g1)
 obtain ⟨lg,rfl,_⟩:=yI1 (by simp only [HasF];exact g2)
 obtain ⟨a,b,rfl,ha,hb⟩:=F_r z2
 obtain ⟨c,d,rfl,hc,hd⟩:=F_r u2
 simp only [HasF] at y2
 obtain ⟨rows,hr,hn,hx⟩:=y2
 obtain ⟨xs,rfl,_⟩:=yvj rows (fun w hw=>⟨(hx w hw).1,by simp only [HasF];exact (hx w hw).2⟩)
 rw [yaQ] at hn
 rw [yFP y1 hr]
 exact ⟨l,lg,xs,a,b,c,d,rfl,hl,hn,ha,hb,hc,hd⟩
end Go.Pf.Vc
