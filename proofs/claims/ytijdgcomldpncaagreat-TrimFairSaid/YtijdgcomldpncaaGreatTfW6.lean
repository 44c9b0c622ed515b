/- Part 6. -/
import Derived.Test.YtijdgcomldpncaaGreatTfW5
namespace Go.Pf.Vc
open Go Go.Pf
section
variable {l:List Ck}
theorem yKl (hd:DK l) {an ad:Int} (ha:I64 an) (ha':I64 ad) {A:List Nat} (hA:∀ a∈A,a<l.length) (hA6:A.length≤900) (h0:A≠[]) (Z:List PV) (c:Nat) {lg:List Qy} (hl:lg.length+2*A.length≤1900) (K)
  (h:match yfc l an ad lg A with
   | .ok s=>K (cks l) (logs s.lg) (s.w:Int) an ad s.p.num s.p.den (s.k:Int) 0 (nts A++Z)
   | .error e=>K [] [] 0 0 0 0 0 0 e (nts A++Z)):ybb (cks l) (logs lg) (nts A++Z) A.length (A.length+Z.length) c an ad K:=by
 have n0:=hd.n0
 obtain ⟨a,r,rfl⟩:∃ a r,A=a::r:=by cases A with | nil=>exact absurd rfl h0 | cons a r=>exact ⟨a,r,rfl⟩
 have hlen:(a::r).length=r.length+1:=rfl
 have hlt:0<(a::r).length:=by omega
 have ham:a<l.length:=hA a qAi
 have hg:(a::r).getD 0 0=a:=rfl
 unfold ybb ylN
 simp only [lt,Go.Pf.jn]
 rw [asT (by omega),yek,asT (by omega),asT (by omega),ygB hlt,hg,ysa,iov,yaX,asT (by omega),yfb (by omega),asCk,ck0]
 rw [yCt]
 cases r with
 | nil =>
  refine ⟨1,?_⟩
  unfold ybk
  simp only [Go.Pf.jn,lt]
  rw [cbT (by simp),asT (by omega),asT (by simp),yek,asT (by omega),asT (by simp;omega),show (0:Nat)+(0:Int).toNat=0 from rfl,ygB hlt,hg]
  simp only [conf,yhl,decide_true,yau,yac]
  rw [ceT (by simp)]
  have e1:((((l.getD 0 default).len:Int):Rat)).num=(l.getD 0 default).len:=Rat.num_intCast _
  have e2:(((((l.getD 0 default).len:Int):Rat)).den:Int)=1:=by rw [Rat.den_intCast];rfl
  simp only [yfc] at h
  rw [e1] at h
  have h:=h
  simp only [e2] at h
  exact h
 | cons b r =>
  simp only [yfc] at h
  cases hq:ykG l an ad lg.length a with
  | error e =>
   rw [hq] at h
   have he0:e≠0:=fun e0=>yqL (e0 ▸ hq)
   refine ⟨1,?_⟩
   unfold ybk
   simp only [Go.Pf.jn,lt]
   rw [cbT (by omega),asT (by omega),asT (by omega),yek,asT (by omega),asT (by simp only [Int.toNat_zero];omega),show (0:Nat)+(0:Int).toNat=0 from rfl,ygB hlt,hg]
   simp only [conf,yhl,decide_true,yau,yac]
   rw [ceF (by simp only [qAc];omega),cbF (by omega),yig hd ham (by rw [yeQ];omega),yuV hd ham ha ha' lg,hq]
   dsimp only
   rw [ceF he0,cnT he0]
   exact h
  | ok p =>
   rw [hq] at h
   have sp:=yla hq
   simp only [qAc] at hl hA6
   obtain ⟨n,hn⟩:=ag0 hd ha ha' hA (by simp only [qAc];omega) (by simp only [qAc];omega) Z (fun v0 v1 v2 _ _ v5 v6 v7 v8 v9 v10 _ _ _ _ _ _ _ _ _ _ _ _ _ _ _=>asr (decide (v0.length=(a::b::r).length+Z.length)) (K v1 v2 v5 v6 v7 v8 v9 v10 0 v0)) (fun v0 v1 v2 _ _ v5 v6 v7 v8 v9 v10 _ _ _ _ _ _ _ _ _ _ _ _ _ _ _ _ _=>asr (decide (v0.length=(a::b::r).length+Z.length)) (K v1 v2 v5 v6 v7 v8 v9 v10 0 v0)) (fun v0 _ _ _ _ _ _ _ _ _ _ v11 v12 v13 v14 v15 v16 v17=>asr (decide (v0.length=(a::b::r).length+Z.length)) (K [] [] v11 v12 v13 v14 v15 v16 v17 v0)) an ad ((a::b::r).length+Z.length) c 0 0 0 0 0 0 c (b::r) 1 ⟨lg++[yqc l an ad a p],p,a,0⟩ rfl (by omega) (by simp only [qAc];omega) sp (by simp only [qAf,qAc,qAo];omega) (qBg _) (by
    revert h
    dsimp only
    cases hr:tR l an ad (b::r) ⟨lg++[yqc l an ad a p],p,a,0⟩ with
    | ok s'=>intro h;dsimp only;rw [yek,asT (by omega)];exact h
    | error e=>intro h;dsimp only;intros;rw [yek,asT (by omega)];exact h)
   refine ⟨n+1,?_⟩
   unfold ybk
   simp only [Go.Pf.jn,lt]
   rw [cbT (by simp only [qAc];omega),asT (by omega),asT (by simp only [qAc];omega),yek,asT (by omega),asT (by simp only [Int.toNat_zero,qAc];omega),show (0:Nat)+(0:Int).toNat=0 from rfl,ygB hlt,hg]
   simp only [conf,yhl,decide_true,yau,yac]
   rw [ceF (by simp only [qAc];omega),cbF (by omega),yig hd ham (by rw [yeQ];omega),yuV hd ham ha ha' lg,hq]
   dsimp only
   rw [ceT rfl,cnF rfl]
   exact hn
end
theorem yuW (a b:List Nat):nts (a++b)=nts a++nts b:=by unfold nts ints;rw [List.map_append,List.map_append]
theorem ymI (P Y:List Nat) (w:Nat):(P++w::Y).getD P.length 0=w:=by
 rw [qAb,List.getElem?_append_right (qAk _),Nat.sub_self];rfl
theorem yCu (P Y:List Nat) (c w:Nat):(P++c::w::Y).getD (P.length+1) 0=w:=by
 rw [qAb,List.getElem?_append_right (by omega),show P.length+1-P.length=1 by omega];rfl
theorem yJb (P Y:List Nat) (c y:Nat) (Z:List PV):List.set (nts (P++c::y::Y)++Z) P.length (.int .i64 y)=nts ((P++[y])++y::Y)++Z:=by
 have e:P.length=(nts P).length:=(yk5 P).symm
 rw [yuW,qAz,e,List.set_append_right _ _ (qAk _),Nat.sub_self,yuW,yuW]
 simp [nts,ints]
theorem sr0 (Z:List PV) {A Y:List Nat} {w:Nat} (b:List PV→List PV→List PV→List PV→Nat→Nat→Nat→List PV→Int→List PV→List PV→Int→Int→Int→Int→Int→Int→List PV→List PV→Int→Int→Int→Int→Int→Int→Nat→Nat→Nat→Int→Int→Bool→Prop) (a:List PV→List PV→List PV→List PV→Nat→Nat→Nat→List PV→Int→List PV→List PV→Int→Int→Int→Int→Int→Int→List PV→List PV→Int→Int→Int→Int→Int→Int→Int→Prop) (l0:List PV) (l2:List PV) (l3:List PV) (n4:Nat) (n5:Nat) (n6:Nat) (l9:List PV) (i10:Int) (l11:List PV) (l12:List PV) (i14:Int) (i15:Int) (i16:Int) (i17:Int) (i18:Int) (l19:List PV) (l20:List PV) (i21:Int) (i22:Int) (i23:Int) (i24:Int) (i25:Int) (i26:Int) (n29:Nat):∀ (X2 P:List Nat) (n:Nat),A=P++X2++w::Y→w∉X2→A.length≤1000→X2.length<n →
  a l0 (nts A++Z) l2 l3 n4 n5 n6 l9 i10 l11 l12 (w:Int) i14 i15 i16 i17 i18 l19 l20 i21 i22 i23 i24 i25 i26 (((P++X2).length:Nat):Int)→ye6 ybG yaQ ybb b a n l0 (nts A++Z) l2 l3 n4 n5 n6 l9 i10 l11 l12 (w:Int) i14 i15 i16 i17 i18 l19 l20 i21 i22 i23 i24 i25 i26 A.length (A.length+Z.length) n29 ((A.length:Nat):Int) ((P.length:Nat):Int)
 | [],P,n,hA,hw,h6,hn,h=>by
  obtain ⟨n,rfl⟩:∃ k,n=k+1:=⟨n-1,by omega⟩
  rw [qBh] at hA h
  have hl:=congrArg List.length hA
  simp only [qAf,qAc] at hl
  have hg:A.getD P.length 0=w:=by rw [hA];exact ymI P Y w
  unfold ye6
  simp only [lt]
  rw [cbT (by omega),asT (by omega),asT (by omega),yek,asT (by omega),asT (by omega),qAt,qAe,ygB (by omega),hg,ysa,iov,ceT rfl]
  exact h
 | x::X2,P,n,hA,hw,h6,hn,h=>by
  obtain ⟨n,rfl⟩:∃ k,n=k+1:=⟨n-1,by omega⟩
  have hl:=congrArg List.length hA
  simp only [qAf,qAc] at hl
  simp only [qAc] at hn
  have hg:A.getD P.length 0=x:=by rw [hA,qAz];exact ymI P _ x
  have hx:(x:Int)≠(w:Int):=fun e=>hw (by rw [Int.ofNat_inj.1 e];exact qAi)
  have ew:IntKind.i64.wrap ((P.length:Int)+1)=(((P++[x]).length:Nat):Int):=by rw [wib (by omega) (by omega)];simp only [qAf,qAc,qAo];omega
  have:=sr0 Z (Y:=Y) b a l0 l2 l3 n4 n5 n6 l9 i10 l11 l12 i14 i15 i16 i17 i18 l19 l20 i21 i22 i23 i24 i25 i26 n29 X2 (P++[x]) n (by rw [hA];simp) (fun hm=>hw (qAh _ hm)) h6 (by omega) (by
   have e:((P++[x])++X2).length=(P++x::X2).length:=by simp
   rw [e];exact h)
  unfold ye6
  simp only [lt]
  rw [cbT (by omega),asT (by omega),asT (by omega),yek,asT (by omega),asT (by omega),qAt,qAe,ygB (by omega),hg,ysa,iov,ceF hx,ew]
  try simp only [decide_true,qBc,yau]
  exact this
theorem rm0 (Z:List PV) {w N:Nat} (a:List PV→List PV→List PV→List PV→Nat→Nat→Nat→List PV→Int→List PV→List PV→Int→Int→Int→Int→Int→Int→List PV→List PV→Int→Int→Int→Int→Int→Int→Nat→Nat→Nat→Int→Int→Bool→Prop) (l0:List PV) (l2:List PV) (l3:List PV) (n4:Nat) (n5:Nat) (n6:Nat) (l9:List PV) (i10:Int) (l11:List PV) (l12:List PV) (i14:Int) (i15:Int) (i16:Int) (i17:Int) (i18:Int) (l19:List PV) (l20:List PV) (i21:Int) (i22:Int) (i23:Int) (i24:Int) (i25:Int) (i26:Int) (n29:Nat):∀ (Y2 P:List Nat) (c n:Nat),w∉Y2→P.length+1+Y2.length=N→N≤1000→Y2.length<n →
  (∀ c',a l0 (nts ((P++Y2)++[c'])++Z) l2 l3 n4 n5 n6 l9 i10 l11 l12 (w:Int) i14 i15 i16 i17 i18 l19 l20 i21 i22 i23 i24 i25 i26 N (N+Z.length) n29 (((P++Y2).length:Nat):Int) ((N:Nat):Int) false)→ye8 ybG yaQ ybb a n l0 (nts (P++c::Y2)++Z) l2 l3 n4 n5 n6 l9 i10 l11 l12 (w:Int) i14 i15 i16 i17 i18 l19 l20 i21 i22 i23 i24 i25 i26 N (N+Z.length) n29 ((P.length:Nat):Int) ((P.length+1:Nat):Int)
 | [],P,c,n,hw,hN,h6,hn,h=>by
  obtain ⟨n,rfl⟩:∃ k,n=k+1:=⟨n-1,by omega⟩
  simp only [qAo] at hN
  have h:=h c
  rw [qBh] at h
  have e:N=P.length+1:=by omega
  subst e
  unfold ye8
  rw [cbF (by omega)]
  exact h
 | y::Y3,P,c,n,hw,hN,h6,hn,h=>by
  obtain ⟨n,rfl⟩:∃ k,n=k+1:=⟨n-1,by omega⟩
  simp only [qAc] at hn hN
  have hy:(y:Int)≠(w:Int):=fun e=>hw (by rw [Int.ofNat_inj.1 e];exact qAi)
  have hlen:(P++c::y::Y3).length=N:=by simp only [qAf,qAc];omega
  have e1:IntKind.i64.wrap ((P.length:Int)+1)=(((P++[y]).length:Nat):Int):=by rw [wib (by omega) (by omega)];simp only [qAf,qAc,qAo];omega
  have e2:IntKind.i64.wrap (((P.length+1:Nat):Int)+1)=(((P++[y]).length+1:Nat):Int):=by rw [wib (by omega) (by omega)];simp only [qAf,qAc,qAo];omega
  have:=rm0 Z a l0 l2 l3 n4 n5 n6 l9 i10 l11 l12 i14 i15 i16 i17 i18 l19 l20 i21 i22 i23 i24 i25 i26 n29 Y3 (P++[y]) y n (fun hm=>hw (qAh _ hm)) (by rw [qAf];simp only [qAc,qAo];omega) h6 (by omega) (by
   intro c'
   have:=h c'
   rw [show P++y::Y3=P++[y]++Y3 by simp] at this
   exact this)
  unfold ye8
  simp only [lt,Go.Pf.jn]
  rw [cbT (by omega),asT (by omega),asT (by omega),yek,hlen,asT (by omega),asT (by omega),qAt,qAe,ygB (by omega),yCu,ysa,iov,yLw hy,qBt,yam]
  rw [asT (by omega),asT (by omega),asT (by omega),qAt,qAe,asT (by omega),ygB (by omega),ymI,ysa,yJb,e1,e2]
  try simp only [decide_true,qBc,yau]
  exact this
theorem sr1 (Z:List PV) {A Y:List Nat} {w:Nat} (b:List PV→List PV→List PV→List PV→Nat→Nat→Nat→List PV→Int→List PV→List PV→Int→Int→Int→Int→Int→Int→List PV→List PV→Int→Int→Int→Int→Int→Int→Nat→Nat→Nat→Int→Int→Bool→Prop) (a:List PV→List PV→List PV→List PV→Nat→Nat→Nat→List PV→Int→List PV→List PV→Int→Int→Int→Int→Int→Int→List PV→List PV→Int→Int→Int→Int→Int→Int→Int→Prop) (l0:List PV) (l2:List PV) (l3:List PV) (n4:Nat) (n5:Nat) (n6:Nat) (l9:List PV) (i10:Int) (l11:List PV) (l12:List PV) (i14:Int) (i15:Int) (i16:Int) (i17:Int) (i18:Int) (l19:List PV) (l20:List PV) (i21:Int) (i22:Int) (i23:Int) (i24:Int) (i25:Int) (i26:Int) (n29:Nat):∀ (X2 P:List Nat) (n:Nat),A=P++X2++w::Y→w∉X2→A.length≤1000→X2.length<n →
  a l0 (nts A++Z) l2 l3 n4 n5 n6 l9 i10 l11 l12 (w:Int) i14 i15 i16 i17 i18 l19 l20 i21 i22 i23 i24 i25 i26 (((P++X2).length:Nat):Int)→ye7 ybG yaQ ybb b a n l0 (nts A++Z) l2 l3 n4 n5 n6 l9 i10 l11 l12 (w:Int) i14 i15 i16 i17 i18 l19 l20 i21 i22 i23 i24 i25 i26 A.length (A.length+Z.length) n29 ((A.length:Nat):Int) ((P.length:Nat):Int)
 | [],P,n,hA,hw,h6,hn,h=>by
  obtain ⟨n,rfl⟩:∃ k,n=k+1:=⟨n-1,by omega⟩
  rw [qBh] at hA h
  have hl:=congrArg List.length hA
  simp only [qAf,qAc] at hl
  have hg:A.getD P.length 0=w:=by rw [hA];exact ymI P Y w
  unfold ye7
  simp only [lt]
  rw [cbT (by omega),asT (by omega),asT (by omega),yek,asT (by omega),asT (by omega),qAt,qAe,ygB (by omega),hg,ysa,iov,ceT rfl]
  exact h
 | x::X2,P,n,hA,hw,h6,hn,h=>by
  obtain ⟨n,rfl⟩:∃ k,n=k+1:=⟨n-1,by omega⟩
  have hl:=congrArg List.length hA
  simp only [qAf,qAc] at hl
  simp only [qAc] at hn
  have hg:A.getD P.length 0=x:=by rw [hA,qAz];exact ymI P _ x
  have hx:(x:Int)≠(w:Int):=fun e=>hw (by rw [Int.ofNat_inj.1 e];exact qAi)
  have ew:IntKind.i64.wrap ((P.length:Int)+1)=(((P++[x]).length:Nat):Int):=by rw [wib (by omega) (by omega)];simp only [qAf,qAc,qAo];omega
  have:=sr1 Z (Y:=Y) b a l0 l2 l3 n4 n5 n6 l9 i10 l11 l12 i14 i15 i16 i17 i18 l19 l20 i21 i22 i23 i24 i25 i26 n29 X2 (P++[x]) n (by rw [hA];simp) (fun hm=>hw (qAh _ hm)) h6 (by omega) (by
   have e:((P++[x])++X2).length=(P++x::X2).length:=by simp
   rw [e];exact h)
  unfold ye7
  simp only [lt]
  rw [cbT (by omega),asT (by omega),asT (by omega),yek,asT (by omega),asT (by omega),qAt,qAe,ygB (by omega),hg,ysa,iov,ceF hx,ew]
  try simp only [decide_true,qBc,yau]
  exact this
theorem rm1 (Z:List PV) {w N:Nat} (a:List PV→List PV→List PV→List PV→Nat→Nat→Nat→List PV→Int→List PV→List PV→Int→Int→Int→Int→Int→Int→List PV→List PV→Int→Int→Int→Int→Int→Int→Nat→Nat→Nat→Int→Int→Bool→Prop) (l0:List PV) (l2:List PV) (l3:List PV) (n4:Nat) (n5:Nat) (n6:Nat) (l9:List PV) (i10:Int) (l11:List PV) (l12:List PV) (i14:Int) (i15:Int) (i16:Int) (i17:Int) (i18:Int) (l19:List PV) (l20:List PV) (i21:Int) (i22:Int) (i23:Int) (i24:Int) (i25:Int) (i26:Int) (n29:Nat):∀ (Y2 P:List Nat) (c n:Nat),w∉Y2→P.length+1+Y2.length=N→N≤1000→Y2.length<n →
  (∀ c',a l0 (nts ((P++Y2)++[c'])++Z) l2 l3 n4 n5 n6 l9 i10 l11 l12 (w:Int) i14 i15 i16 i17 i18 l19 l20 i21 i22 i23 i24 i25 i26 N (N+Z.length) n29 (((P++Y2).length:Nat):Int) ((N:Nat):Int) false)→ye9 ybG yaQ ybb a n l0 (nts (P++c::Y2)++Z) l2 l3 n4 n5 n6 l9 i10 l11 l12 (w:Int) i14 i15 i16 i17 i18 l19 l20 i21 i22 i23 i24 i25 i26 N (N+Z.length) n29 ((P.length:Nat):Int) ((P.length+1:Nat):Int)
 | [],P,c,n,hw,hN,h6,hn,h=>by
  obtain ⟨n,rfl⟩:∃ k,n=k+1:=⟨n-1,by omega⟩
  simp only [qAo] at hN
  have h:=h c
  rw [qBh] at h
  have e:N=P.length+1:=by omega
  subst e
  unfold ye9
  rw [cbF (by omega)]
  exact h
 | y::Y3,P,c,n,hw,hN,h6,hn,h=>by
  obtain ⟨n,rfl⟩:∃ k,n=k+1:=⟨n-1,by omega⟩
  simp only [qAc] at hn hN
  have hy:(y:Int)≠(w:Int):=fun e=>hw (by rw [Int.ofNat_inj.1 e];exact qAi)
  have hlen:(P++c::y::Y3).length=N:=by simp only [qAf,qAc];omega
  have e1:IntKind.i64.wrap ((P.length:Int)+1)=(((P++[y]).length:Nat):Int):=by rw [wib (by omega) (by omega)];simp only [qAf,qAc,qAo];omega
  have e2:IntKind.i64.wrap (((P.length+1:Nat):Int)+1)=(((P++[y]).length+1:Nat):Int):=by rw [wib (by omega) (by omega)];simp only [qAf,qAc,qAo];omega
  have:=rm1 Z a l0 l2 l3 n4 n5 n6 l9 i10 l11 l12 i14 i15 i16 i17 i18 l19 l20 i21 i22 i23 i24 i25 i26 n29 Y3 (P++[y]) y n (fun hm=>hw (qAh _ hm)) (by rw [qAf];simp only [qAc,qAo];omega) h6 (by omega) (by
   intro c'
   have:=h c'
   rw [show P++y::Y3=P++[y]++Y3 by simp] at this
   exact this)
  unfold ye9
  simp only [lt,Go.Pf.jn]
  rw [cbT (by omega),asT (by omega),asT (by omega),yek,hlen,asT (by omega),asT (by omega),qAt,qAe,ygB (by omega),yCu,ysa,iov,yLw hy,qBt,yam]
  rw [asT (by omega),asT (by omega),asT (by omega),qAt,qAe,asT (by omega),ygB (by omega),ymI,ysa,yJb,e1,e2]
  try simp only [decide_true,qBc,yau]
  exact this
structure Tn where
 a:Nat
 f:Rat
 t:Rat
 k:Nat
def tnE (x:Tn):PV:=.agg [.int .i64 x.a,.int .i64 x.f.num,.int .i64 x.f.den,.int .i64 x.t.num,.int .i64 x.t.den,.int .i64 x.k]
def tns (l:List Tn):List PV:=l.map tnE
def spE (x:Tn):PV:=.data [.agg [.int .i64 x.f.num,.int .i64 x.f.den,.int .i64 x.t.num,.int .i64 x.t.den]]
def pcs (n:Nat) (ts:List Tn):List PV:=ts.foldl (fun P t=>P.set t.a (spE t)) (List.replicate n (.data []))
theorem yJc (a:List Tn) (x:Tn):tns (a++[x])=tns a++[tnE x]:=by unfold tns;rw [List.map_append];rfl
theorem yqM (a:List Tn):(tns a).length=a.length:=by unfold tns;rw [qAq]
theorem yx4 (n:Nat) (a:List Tn) (x:Tn):pcs n (a++[x])=(pcs n a).set x.a (spE x):=by unfold pcs;rw [List.foldl_append];rfl
def ywR:List PV→Prop
 | []=>True
 | x::r=>(∃ d,x=.data d)∧ywR r
theorem yCv:∀ (l:List PV) (i:Nat) (d:List PV),ywR l→ywR (l.set i (.data d))
 | [],_,_,_=>trivial
 | _::_,0,d,h=>⟨⟨d,rfl⟩,h.2⟩
 | _::r,i+1,d,h=>⟨h.1,yCv r i d h.2⟩
theorem yqN:∀ n:Nat,ywR (List.replicate n (.data []))
 | 0=>trivial
 | n+1=>⟨⟨[],rfl⟩,yqN n⟩
theorem yCw:∀ (l:List PV) (i:Nat),ywR l→i<l.length→∃ d,List.getD l i .nils=.data d
 | [],i,_,h=>by simp at h
 | x::r,0,h,_=>h.1
 | x::r,i+1,h,hi=>yCw r i h.2 (by simpa using hi)
theorem yuX:∀ (ts:List Tn) (P:List PV) (n:Nat),P.length=n→ywR P→(ts.foldl (fun P t=>P.set t.a (spE t)) P).length=n∧ywR (ts.foldl (fun P t=>P.set t.a (spE t)) P)
 | [],P,n,h1,h2=>⟨h1,h2⟩
 | t::r,P,n,h1,h2=>yuX r (P.set t.a (spE t)) n (by rw [List.length_set];exact h1) (yCv P t.a _ h2)
theorem yiz (n:Nat) (ts:List Tn):(pcs n ts).length=n:=(yuX ts _ n qAw (yqN n)).1
theorem yH2 (n:Nat) (ts:List Tn) {i:Nat} (h:i<n):∃ d,List.getD (pcs n ts) i .nils=.data d:=yCw _ i (yuX ts _ n qAw (yqN n)).2 (by rw [yiz];exact h)
def nofn (l:List PV):Prop:=ybI (noY 0) (fun _=>true) l=true
theorem yAf:∀ l:List PV,ywR l→nofn l
 | [],_=>rfl
 | x::r,⟨⟨d,e⟩,h⟩=>by subst e;exact yAf r h
theorem yAg (n:Nat) (ts:List Tn):nofn (pcs n ts):=yAf _ (yuX ts _ n qAw (yqN n)).2
theorem yAh:∀ ts:List Tn,nofn (tns ts)
 | []=>rfl
 | _::r=>yAh r
theorem ymJ:∀ (a b:List PV),nofn a→nofn b→nofn (a++b)
 | [],b,_,h=>h
 | x::r,b,h,k=>by
  unfold nofn at h ⊢
  simp only [ybI,qAd] at h
  simp only [List.cons_append,ybI,qAd]
  exact ⟨h.1,ymJ r b h.2 k⟩
theorem ymK:∀ A:List Nat,nofn (nts A)
 | []=>rfl
 | _::r=>ymK r
theorem yJd (B:List Nat) (c:Nat) (Z:List PV):List.take B.length (nts (B++[c])++Z)++(List.replicate 1 (PV.int .i64 0)++List.drop (B.length+1) (nts (B++[c])++Z))=nts B++(.int .i64 0::Z):=by
 have e:B.length=(nts B).length:=(yk5 B).symm
 have e1:nts (B++[c])++Z=nts B++(.int .i64 c::Z):=by rw [yuW,qAz];rfl
 rw [e1,e,List.take_left,List.drop_append,qA0 (by omega)]
 simp
theorem yqO {X Y:List Nat} {w:Nat} (h:w∉X):(X++w::Y).erase w=X++Y:=by
 rw [List.erase_append_right _ h,List.erase_cons_head]
section
variable {l:List Ck}
theorem yL5 {an ad:Int}:∀ (r:List Nat) (s s':TSt),tR l an ad r s=.ok s'→small s.p→(s'.w=s.w∨s'.w∈r)∧small s'.p∧s'.lg.length≤s.lg.length+2*r.length∧s'.k≤s.k+r.length
 | [],s,s',h,hs=>by cases h;exact ⟨.inl rfl,hs,by omega,by omega⟩
 | a::r,s,s',h,hs=>by
  unfold tR at h
  cases hv:valE l an ad s.lg.length a s.p with
  | error e=>rw [hv] at h;cases h
  | ok v =>
   rw [hv] at h
   dsimp only at h
   split at h
   ·cases hq:ykG l an ad (s.lg.length+1) a with
    | error e=>rw [hq] at h;cases h
    | ok q =>
     rw [hq] at h
     obtain ⟨h1,h2,h3,h4⟩:=yL5 r _ s' h (yla hq)
     refine ⟨.inr ?_,h2,?_,?_⟩
     ·rcases h1 with h1 | h1
      ·rw [h1];exact qAi
      ·exact qAh _ h1
     ·simp only [qAf,qAc,qAo] at h3 ⊢;omega
     ·simp only [qAc];simp only at h4;omega
   ·obtain ⟨h1,h2,h3,h4⟩:=yL5 r _ s' h hs
    refine ⟨?_,h2,?_,?_⟩
    ·rcases h1 with h1 | h1
     ·exact .inl h1
     ·exact .inr (qAh _ h1)
    ·simp only [qAf,qAc,qAo] at h3 ⊢;omega
    ·simp only [qAc];simp only at h4;omega
theorem ywi (hd:DK l) {an ad:Int} {lg:List Qy} {A:List Nat} {s:TSt} (h:yfc l an ad lg A=.ok s):s.w∈A∧small s.p∧s.lg.length≤lg.length+2*A.length∧s.k≤A.length:=by
 cases A with
 | nil=>cases h
 | cons a r =>
  cases r with
  | nil =>
   simp only [yfc,Except.ok.injEq] at h
   subst h
   have hok:=hd.ok 0 (by have:=hd.n0;omega)
   have:=VC.len0 hok
   exact ⟨qAi,yfa (by omega),by simp only [qAc];omega,by simp only [qAc];omega⟩
  | cons b r =>
   simp only [yfc] at h
   cases hq:ykG l an ad lg.length a with
   | error e=>rw [hq] at h;cases h
   | ok p =>
    rw [hq] at h
    obtain ⟨h1,h2,h3,h4⟩:=yL5 _ _ s h (yla hq)
    refine ⟨?_,h2,?_,?_⟩
    ·rcases h1 with h1 | h1
     ·rw [h1];exact qAi
     ·exact qAh _ h1
    ·simp only [qAf,qAc,qAo] at h3 ⊢;omega
    ·simp only [qAc] at h4 ⊢;omega
def tGo (l:List Ck):Nat→List Nat→List Qy→Rat→List Tn→Except Int (List Tn×List Qy)
 | 0,_,_,_,_=>.error 2
 | m+1,A,lg,q,ts=>match yfc l q.num q.den lg A with
  | .error e=>.error e
  | .ok s=>if A.length=1 then .ok (ts++[⟨s.w,q,s.p,s.k⟩],s.lg) else tGo l m (A.erase s.w) s.lg s.p (ts++[⟨s.w,q,s.p,s.k⟩])
theorem yn8 {an ad:Int} {lg:List Qy} {A:List Nat}:yfc l an ad lg A≠.error 0:=by
 intro h
 cases A with
 | nil=>cases h
 | cons a r =>
  cases r with
  | nil=>cases h
  | cons b r =>
   simp only [yfc] at h
   cases hq:ykG l an ad lg.length a with
   | error e=>rw [hq] at h;cases h;exact yqL hq
   | ok p=>rw [hq] at h;exact yH1 _ _ h
theorem yih (hd:DK l) {an ad:Int} (ha:I64 an) (ha':I64 ad) {A:List Nat} (hA:∀ a∈A,a<l.length) (hA6:A.length≤900) (h0:A≠[]) (Z:List PV) (c:Nat) {lg:List Qy} (hl:lg.length+2*A.length≤1900) (K)
  (h1:∀ s,yfc l an ad lg A=.ok s→K (cks l) (logs s.lg) (s.w:Int) an ad s.p.num s.p.den (s.k:Int) 0 (nts A++Z)) (h2:∀ e,yfc l an ad lg A=.error e→K [] [] 0 0 0 0 0 0 e (nts A++Z)) :
  ybb (cks l) (logs lg) (nts A++Z) A.length (A.length+Z.length) c an ad K:=by
 refine yKl hd ha ha' hA hA6 h0 Z c hl K ?_
 cases h:yfc l an ad lg A with
 | ok s=>exact h1 s h
 | error e=>exact h2 e h
theorem yJe:∀ (m:Nat) (A:List Nat) (lg:List Qy) (q:Rat) (ts:List Tn),tGo l m A lg q ts≠.error 0
 | 0,A,lg,q,ts,h=>by cases h
 | m+1,A,lg,q,ts,h=>by
  unfold tGo at h
  cases hR:yfc l q.num q.den lg A with
  | error e=>rw [hR] at h;cases h;exact yn8 hR
  | ok s =>
   rw [hR] at h
   dsimp only at h
   split at h
   ·cases h
   ·exact yJe m _ _ _ _ h
theorem asTw {P:Prop}:asr (decide True) P=P:=by rw [decide_true];rfl
theorem yNW {n:Nat} {P:Prop}:asr (!decide (0+n+1≤n)) P=P:=by rw [decide_eq_false (by omega)];rfl
theorem asOr {a:Int} {b:Bool} {P:Prop}:asr (decide (a≤a)||b) P=P:=by rw [decide_eq_true (by omega)];rfl
theorem yJf {d:List PV} {P:Prop}:asr (conf zD (.data d)) P=P:=rfl
theorem go1 (hd:DK l) (f:List PV→List PV→List PV→List PV→Nat→Nat→Nat→List PV→Int→List PV→List PV→Nat→Nat→Nat→Int→Int→Bool→Prop) (b:List PV→List PV→List PV→List PV→Nat→Nat→Nat→List PV→Int→List PV→List PV→Int→Int→Int→Int→Int→Int→Prop) (d:List PV→List PV→List PV→List PV→Nat→Nat→Nat→List PV→Int→List PV→List PV→Int→Int→Int→Int→Int→Int→List PV→List PV→Int→Int→Int→Int→Int→Int→Nat→Nat→Nat→Int→Int→List PV→List PV→Int→Bool→List PV→List PV→Int→Int→Int→Int→Int→Int→Bool→Bool→Prop):∀ (m:Nat) (A:List Nat) (Z:List PV) (c:Nat) (q:Rat) (lg:List Qy) (ts:List Tn) (lgd:List PV),A.length=m+1→A.Nodup→(∀ a∈A,a<l.length)→ts.length+A.length=l.length→small q→lg.length≤20*ts.length→nofn Z →
  (match tGo l (m+1) A lg q ts with
   | .ok (ts',lg')=>∀ (r1:List PV) (j9:List PV) (j10:List PV) (j11:Int) (j12:Int) (j13:Int) (j14:Int) (j15:Int) (j16:Int) (j17:List PV) (j18:List PV) (j19:Int) (j20:Int) (j21:Int) (j22:Int) (j23:Int) (j24:Int) (j25:Nat) (j26:Nat) (j27:Nat) (j28:Int) (j29:Int) (j30:List PV) (j31:List PV) (j32:Int) (j33:Bool) (j34:List PV) (j35:List PV) (j36:Int) (j37:Int) (j38:Int) (j39:Int) (j40:Int) (j41:Int) (j42:Bool) (j43:Bool),nofn r1→d (pcs l.length ts') r1 (tns ts') (cks l) l.length l.length l.length (logs lg') 0 j9 j10 j11 j12 j13 j14 j15 j16 j17 j18 j19 j20 j21 j22 j23 j24 j25 j26 j27 j28 j29 j30 j31 j32 j33 j34 j35 j36 j37 j38 j39 j40 j41 j42 j43
   | .error e=>∀ (r1:List PV) (ts':List Tn) (lgx:List PV) (j9:List PV) (j10:List PV) (j11:Int) (j12:Int) (j13:Int) (j14:Int) (j15:Int) (j16:Int),nofn r1→b (pcs l.length ts') r1 (tns ts') (cks l) l.length l.length l.length lgx e j9 j10 j11 j12 j13 j14 j15 j16)→∃ n,yeh ybG yaQ ybb f b d n (pcs l.length ts) (nts A++Z) (tns ts) (cks l) l.length l.length l.length lgd 0 (cks l) (logs lg) A.length (A.length+Z.length) c q.num q.den:=by
 intro m
 induction m with
 | zero =>
  intro A Z c q lg ts lgd hm hnd hA hts hq hlg hZ h
  have n6:=hd.n6
  unfold tGo at h
  refine ⟨1,?_⟩
  unfold yeh
  simp only [Go.Pf.jn,lt]
  rw [cbT (by omega)]
  refine yih hd hq.i1 hq.i2 hA (by omega) (fun e=>by rw [e] at hm;cases hm) Z c (by omega) _ (fun s hR=>?_) (fun e hR=>?_)
  case refine_2 =>
   rw [hR] at h
   show cbr _ _ _
   rw [cnT (fun e0=>yn8 (e0 ▸ hR))]
   exact h _ _ _ _ _ _ _ _ _ _ _ (ymJ _ _ (ymK A) hZ)
  case refine_1 =>
   rw [hR] at h
   obtain ⟨hw,hsp,hsl,hsk⟩:=ywi hd hR
   have hwl:s.w<l.length:=hA _ hw
   obtain ⟨d0,hd0⟩:=yH2 l.length ts hwl
   have n6:=hd.n6
   dsimp only at h
   rw [if_pos hm] at h
   show cbr _ _ _
   rw [cnF rfl,asTw,asT (by omega),yNW,asTw,asT (by rw [yqM];unfold room;omega),asT (by omega),asT (by omega),yiz,asT (by omega),qAe,qAt,asT (by omega),hd0,yJf,ceT (by rw [qAf,yqM,yaX];simp only [qAc,qAo];omega)]
   have:=h (nts A++Z)
   rw [yx4,yJc] at this
   exact this _ _ _ _ _ _ _ _ _ _ _ _ _ _ _ _ _ _ _ _ _ _ _ _ _ _ _ _ _ _ _ _ _ _ _ (ymJ _ _ (ymK A) hZ)
 | succ m ih =>
  intro A Z c q lg ts lgd hm hnd hA hts hq hlg hZ h
  have n6:=hd.n6
  unfold tGo at h
  cases hR:yfc l q.num q.den lg A with
  | error e =>
   rw [hR] at h
   refine ⟨1,?_⟩
   unfold yeh
   simp only [Go.Pf.jn,lt]
   rw [cbT (by omega)]
   refine yih hd hq.i1 hq.i2 hA (by omega) (fun e=>by rw [e] at hm;cases hm) Z c (by omega) _ (fun s' hR'=>by rw [hR] at hR';cases hR') (fun e' hR'=>?_)
   rw [hR] at hR'
   cases hR'
   show cbr _ _ _
   rw [cnT (fun e0=>yn8 (e0 ▸ hR))]
   exact h _ _ _ _ _ _ _ _ _ _ _ (ymJ _ _ (ymK A) hZ)
  | ok s =>
   rw [hR] at h
   obtain ⟨hw,hsp,hsl,hsk⟩:=ywi hd hR
   have hwl:s.w<l.length:=hA _ hw
   obtain ⟨d0,hd0⟩:=yH2 l.length ts hwl
   have n6:=hd.n6
   dsimp only at h
   rw [if_neg (by omega)] at h
   obtain ⟨X,Y,rfl,hX⟩:=List.eq_append_cons_of_mem hw
   have hY:s.w∉Y:=fun hm=>by
    have:=hnd
    rw [List.nodup_append] at this
    exact (List.nodup_cons.1 this.2.1).1 hm
   have hXY:(X++Y).length=m+1:=by
    simp only [qAf,qAc] at hm ⊢;omega
   have hnd2:(X++Y).Nodup:=by
    have:=hnd.erase s.w
    rwa [yqO hX] at this
   rw [yqO hX] at h
   have eXY:(X++Y).length=X.length+Y.length:=qAf
   have eN:(X++s.w::Y).length=(X++Y).length+1:=by simp only [qAf,qAc];omega
   obtain ⟨n,hn⟩:=ih (X++Y) (.int .i64 0::Z) (c-0) s.p s.lg (ts++[⟨s.w,q,s.p,s.k⟩]) (logs s.lg) hXY hnd2 (fun a ha=>hA a (by
     rcases qAu.1 ha with h1 | h1
     ·exact List.mem_append_left _ h1
     ·exact List.mem_append_right _ (qAh _ h1))) (by simp only [qAf,qAc,qAo] at hts hXY ⊢;omega) hsp (by simp only [qAf,qAc,qAo] at hsl ⊢;omega) hZ h
   rw [yx4,yJc] at hn
   refine ⟨n+1,?_⟩
   unfold yeh
   simp only [Go.Pf.jn,lt]
   rw [cbT (by omega)]
   refine yih hd hq.i1 hq.i2 hA (by omega) (fun e=>by rw [e] at hm;cases hm) Z c (by omega) _ (fun s' hR'=>?_) (fun e' hR'=>by rw [hR] at hR';cases hR')
   rw [hR] at hR'
   cases hR'
   show cbr _ _ _
   rw [cnF rfl,asTw,asT (by omega),yNW,asTw,asT (by rw [yqM];unfold room;omega),asT (by omega),asT (by omega),yiz,asT (by omega),qAe,qAt,asT (by omega),hd0,yJf,ceF (by rw [qAf,yqM,yaX];simp only [qAc,qAo];omega)]
   try simp only [decide_true,qBc,yau]
   refine ⟨X.length+1,sr1 Z (A:=X++s.w::Y) (Y:=Y) (w:=s.w) _ _ _ _ _ _ _ _ _ _ _ _ _ _ _ _ _ _ _ _ _ _ _ _ _ _ X [] _ (by simp) hX (by omega) (by omega) ?_⟩
   show cbr _ _ _
   simp only [qBl]
   rw [ceF (by omega),show IntKind.i64.wrap ((X.length:Int)+1)=((X.length+1:Nat):Int) by rw [wib (by omega) (by omega)];omega]
   try simp only [decide_true,qB1,qBc,yau]
   refine ⟨Y.length+1,rm1 Z (w:=s.w) (N:=(X++s.w::Y).length) _ _ _ _ _ _ _ _ _ _ _ _ _ _ _ _ _ _ _ _ _ _ _ _ _ Y X s.w _ hY (by simp only [qAf,qAc];omega) (by omega) (by omega) fun c'=>?_⟩
   show asr _ _
   have e9:((((X++s.w::Y).length:Nat):Int)-(((X++Y).length:Nat):Int)).toNat=1:=by omega
   rw [e9,asT (by omega),asT (by omega),asOr,cbF (by omega),yek,asT (by simp only [qAf,qAc,qAo];omega),qAe,qAt,asT (by omega),yJd,asT (by omega),asTT (by simp;omega)]
   try simp only [decide_true,qB1,qBc,yau]
   have e10:((((X++Y).length:Nat):Int)-0).toNat=(X++Y).length:=by omega
   have e11:(X++s.w::Y).length+Z.length=(X++Y).length+(PV.int IntKind.i64 0::Z).length:=by rw [eN];simp only [qAc];omega
   rw [e10,e11]
   exact hn
theorem go0 (hd:DK l) (o:List PV→List PV→List PV→Nat→Nat→Nat→List PV→Int→List PV→List PV→Nat→Nat→Nat→Int→Int→Bool→Prop) (g:List PV→List PV→List PV→Nat→Nat→Nat→List PV→Int→List PV→List PV→Int→Int→Int→Int→Int→Int→Prop) (i:List PV→List PV→List PV→List PV→Nat→Nat→Nat→List PV→Int→List PV→List PV→Int→Int→Int→Int→Int→Int→List PV→List PV→Int→Int→Int→Int→Int→Int→Nat→Nat→Nat→Int→Int→List PV→List PV→Int→Bool→List PV→List PV→Int→Int→Int→Int→Int→Int→Bool→Bool→Prop) (j:List PV→List PV→List PV→List PV→Nat→Nat→Nat→List PV→Int→List PV→List PV→Nat→Nat→Nat→Int→Int→Bool→Prop) (d:List PV→List PV→List PV→List PV→Nat→Nat→Nat→List PV→Int→List PV→List PV→Int→Int→Int→Int→Int→Int→Prop) (f:List PV→List PV→List PV→List PV→Nat→Nat→Nat→List PV→Int→List PV→List PV→Int→Int→Int→Int→Int→Int→List PV→List PV→Int→Int→Int→Int→Int→Int→Nat→Nat→Nat→Int→Int→List PV→List PV→Int→Bool→List PV→List PV→Int→Int→Int→Int→Int→Int→Bool→Bool→Prop):∀ (m:Nat) (A:List Nat) (Z:List PV) (c:Nat) (q:Rat) (lg:List Qy) (lgd:List PV),A.length=m+1→A.Nodup→(∀ a∈A,a<l.length)→A.length=l.length→small q→lg.length=0→nofn Z →
  (match tGo l (m+1) A lg q [] with
   | .ok (ts',lg')=>(∀ (r1:List PV) (j9:List PV) (j10:List PV) (j11:Int) (j12:Int) (j13:Int) (j14:Int) (j15:Int) (j16:Int) (j17:List PV) (j18:List PV) (j19:Int) (j20:Int) (j21:Int) (j22:Int) (j23:Int) (j24:Int) (j25:Nat) (j26:Nat) (j27:Nat) (j28:Int) (j29:Int) (j30:List PV) (j31:List PV) (j32:Int) (j33:Bool) (j34:List PV) (j35:List PV) (j36:Int) (j37:Int) (j38:Int) (j39:Int) (j40:Int) (j41:Int) (j42:Bool) (j43:Bool),nofn r1→i (pcs l.length ts') r1 (tns ts') (cks l) l.length l.length l.length (logs lg') 0 j9 j10 j11 j12 j13 j14 j15 j16 j17 j18 j19 j20 j21 j22 j23 j24 j25 j26 j27 j28 j29 j30 j31 j32 j33 j34 j35 j36 j37 j38 j39 j40 j41 j42 j43)∧(∀ (r1:List PV) (j9:List PV) (j10:List PV) (j11:Int) (j12:Int) (j13:Int) (j14:Int) (j15:Int) (j16:Int) (j17:List PV) (j18:List PV) (j19:Int) (j20:Int) (j21:Int) (j22:Int) (j23:Int) (j24:Int) (j25:Nat) (j26:Nat) (j27:Nat) (j28:Int) (j29:Int) (j30:List PV) (j31:List PV) (j32:Int) (j33:Bool) (j34:List PV) (j35:List PV) (j36:Int) (j37:Int) (j38:Int) (j39:Int) (j40:Int) (j41:Int) (j42:Bool) (j43:Bool),nofn r1→f (pcs l.length ts') r1 (tns ts') (cks l) l.length l.length l.length (logs lg') 0 j9 j10 j11 j12 j13 j14 j15 j16 j17 j18 j19 j20 j21 j22 j23 j24 j25 j26 j27 j28 j29 j30 j31 j32 j33 j34 j35 j36 j37 j38 j39 j40 j41 j42 j43)
   | .error e=>(∀ (r1 lgx:List PV) (j8:List PV) (j9:List PV) (j10:Int) (j11:Int) (j12:Int) (j13:Int) (j14:Int) (j15:Int),nofn r1→g (pcs l.length []) r1 (cks l) l.length l.length l.length lgx e j8 j9 j10 j11 j12 j13 j14 j15)∧(∀ (r1:List PV) (ts':List Tn) (lgx:List PV) (j9:List PV) (j10:List PV) (j11:Int) (j12:Int) (j13:Int) (j14:Int) (j15:Int) (j16:Int),nofn r1→d (pcs l.length ts') r1 (tns ts') (cks l) l.length l.length l.length lgx e j9 j10 j11 j12 j13 j14 j15 j16))→∃ n,yei ybG yaQ ybb o g i j d f n (pcs l.length []) (nts A++Z) (cks l) l.length l.length l.length lgd 0 (cks l) (logs lg) A.length (A.length+Z.length) c q.num q.den:=by
 intro m A Z c q lg lgd hm hnd hA hts hq hlg hZ h
 have n6:=hd.n6
 unfold tGo at h
 cases hR:yfc l q.num q.den lg A with
 | error e =>
  rw [hR] at h
  refine ⟨1,?_⟩
  unfold yei
  simp only [Go.Pf.jn,lt]
  rw [cbT (by omega)]
  refine yih hd hq.i1 hq.i2 hA (by omega) (fun e=>by rw [e] at hm;cases hm) Z c (by omega) _ (fun s' hR'=>by rw [hR] at hR';cases hR') (fun e' hR'=>?_)
  rw [hR] at hR'
  cases hR'
  show cbr _ _ _
  rw [cnT (fun e0=>yn8 (e0 ▸ hR))]
  exact h.1 _ _ _ _ _ _ _ _ _ _ (ymJ _ _ (ymK A) hZ)
 | ok s =>
  rw [hR] at h
  obtain ⟨hw,hsp,hsl,hsk⟩:=ywi hd hR
  have hwl:s.w<l.length:=hA _ hw
  obtain ⟨d0,hd0⟩:=yH2 l.length [] hwl
  have n6:=hd.n6
  dsimp only at h
  cases m with
  | zero =>
   rw [if_pos hm] at h
   refine ⟨1,?_⟩
   unfold yei
   simp only [Go.Pf.jn,lt]
   rw [cbT (by omega)]
   refine yih hd hq.i1 hq.i2 hA (by omega) (fun e=>by rw [e] at hm;cases hm) Z c (by omega) _ (fun s' hR'=>?_) (fun e' hR'=>by rw [hR] at hR';cases hR')
   rw [hR] at hR'
   cases hR'
   show cbr _ _ _
   rw [cnF rfl,asT (by omega),asT (by omega),yiz,asT (by omega),qAe,qAt,asT (by omega),hd0,yJf,ceT (by rw [yaX];omega)]
   have:=h.1 (nts A++Z)
   rw [yx4] at this
   exact this _ _ _ _ _ _ _ _ _ _ _ _ _ _ _ _ _ _ _ _ _ _ _ _ _ _ _ _ _ _ _ _ _ _ _ (ymJ _ _ (ymK A) hZ)
  | succ m =>
   rw [if_neg (by omega)] at h
   obtain ⟨X,Y,rfl,hX⟩:=List.eq_append_cons_of_mem hw
   have hY:s.w∉Y:=fun hm=>by
    have:=hnd
    rw [List.nodup_append] at this
    exact (List.nodup_cons.1 this.2.1).1 hm
   have hXY:(X++Y).length=m+1:=by
    simp only [qAf,qAc] at hm ⊢;omega
   have hnd2:(X++Y).Nodup:=by
    have:=hnd.erase s.w
    rwa [yqO hX] at this
   rw [yqO hX] at h
   have eXY:(X++Y).length=X.length+Y.length:=qAf
   have eN:(X++s.w::Y).length=(X++Y).length+1:=by simp only [qAf,qAc];omega
   obtain ⟨n,hn⟩:=go1 hd j d f m (X++Y) (.int .i64 0::Z) (c-0) s.p s.lg ([]++[⟨s.w,q,s.p,s.k⟩]) (logs s.lg) hXY hnd2 (fun a ha=>hA a (by
     rcases qAu.1 ha with h1 | h1
     ·exact List.mem_append_left _ h1
     ·exact List.mem_append_right _ (qAh _ h1))) (by simp only [qAf,qAc,qAo] at hts hXY ⊢;omega) hsp (by simp only [qAf,qAc,qAo] at hsl hts ⊢;omega) hZ (by
      revert h
      cases tGo l (m+1) (X++Y) s.lg s.p ([]++[⟨s.w,q,s.p,s.k⟩]) with
      | ok x=>obtain ⟨a,b⟩:=x;intro h;exact h.2
      | error e=>intro h;exact h.2)
   rw [yx4] at hn
   refine ⟨n+1,?_⟩
   unfold yei
   simp only [Go.Pf.jn,lt]
   rw [cbT (by omega)]
   refine yih hd hq.i1 hq.i2 hA (by omega) (fun e=>by rw [e] at hm;cases hm) Z c (by omega) _ (fun s' hR'=>?_) (fun e' hR'=>by rw [hR] at hR';cases hR')
   rw [hR] at hR'
   cases hR'
   show cbr _ _ _
   rw [cnF rfl,asT (by omega),asT (by omega),yiz,asT (by omega),qAe,qAt,asT (by omega),hd0,yJf,ceF (by rw [yaX];omega)]
   try simp only [qAc,qAo,decide_true,qBc,yau]
   refine ⟨X.length+1,sr0 Z (A:=X++s.w::Y) (Y:=Y) (w:=s.w) _ _ _ _ _ _ _ _ _ _ _ _ _ _ _ _ _ _ _ _ _ _ _ _ _ _ X [] _ (by simp) hX (by omega) (by omega) ?_⟩
   show cbr _ _ _
   simp only [qBl]
   rw [ceF (by omega),show IntKind.i64.wrap ((X.length:Int)+1)=((X.length+1:Nat):Int) by rw [wib (by omega) (by omega)];omega]
   try simp only [decide_true,qB1,qBc,yau]
   refine ⟨Y.length+1,rm0 Z (w:=s.w) (N:=(X++s.w::Y).length) _ _ _ _ _ _ _ _ _ _ _ _ _ _ _ _ _ _ _ _ _ _ _ _ _ Y X s.w _ hY (by simp only [qAf,qAc];omega) (by omega) (by omega) fun c'=>?_⟩
   show asr _ _
   have e9:((((X++s.w::Y).length:Nat):Int)-(((X++Y).length:Nat):Int)).toNat=1:=by omega
   rw [e9,asT (by omega),asT (by omega),asOr,cbF (by omega),yek,asT (by simp only [qAf,qAc,qAo];omega),qAe,qAt,asT (by omega),yJd,asT (by omega),asTT (by simp;omega)]
   try simp only [decide_true,qB1,qBc,yau]
   have e10:((((X++Y).length:Nat):Int)-0).toNat=(X++Y).length:=by omega
   have e11:(X++s.w::Y).length+Z.length=(X++Y).length+(PV.int IntKind.i64 0::Z).length:=by rw [eN];simp only [qAc];omega
   rw [e10,e11]
   exact hn
theorem go0e (hd:DK l) (i:List PV→List PV→List PV→Nat→Nat→Nat→List PV→Int→List PV→List PV→Nat→Nat→Nat→Int→Int→Bool→Prop) (b:List PV→List PV→List PV→Nat→Nat→Nat→List PV→Int→List PV→List PV→Int→Int→Int→Int→Int→Int→Prop) (d:List PV→List PV→List PV→List PV→Nat→Nat→Nat→List PV→Int→List PV→List PV→Int→Int→Int→Int→Int→Int→List PV→List PV→Int→Int→Int→Int→Int→Int→Nat→Nat→Nat→Int→Int→List PV→List PV→Int→Bool→List PV→List PV→Int→Int→Int→Int→Int→Int→Bool→Bool→Prop) (j:List PV→List PV→List PV→List PV→Nat→Nat→Nat→List PV→Int→List PV→List PV→Nat→Nat→Nat→Int→Int→Bool→Prop) (f:List PV→List PV→List PV→List PV→Nat→Nat→Nat→List PV→Int→List PV→List PV→Int→Int→Int→Int→Int→Int→Prop) (g:List PV→List PV→List PV→List PV→Nat→Nat→Nat→List PV→Int→List PV→List PV→Int→Int→Int→Int→Int→Int→List PV→List PV→Int→Int→Int→Int→Int→Int→Nat→Nat→Nat→Int→Int→List PV→List PV→Int→Bool→List PV→List PV→Int→Int→Int→Int→Int→Int→Bool→Bool→Prop) (m:Nat) (A:List Nat) (Z:List PV) (c:Nat) (q:Rat) (lg:List Qy) (lgd:List PV) (hm:A.length=m+1) (hnd:A.Nodup) (hA:∀ a∈A,a<l.length) (hts:A.length=l.length) (hq:small q) (hlg:lg.length=0) (hZ:nofn Z) {pc rows dl:List PV} {n10 n11:Nat} {i13 i14:Int} (e0:pc=pcs l.length []) (e1:rows=nts A++Z) (e2:n10=A.length) (e3:n11=A.length+Z.length) (e4:i13=q.num) (e5:i14=q.den) (e6:dl=logs lg)
  (h:match tGo l (m+1) A lg q [] with
   | .ok (ts',lg')=>(∀ (r1:List PV) (j9:List PV) (j10:List PV) (j11:Int) (j12:Int) (j13:Int) (j14:Int) (j15:Int) (j16:Int) (j17:List PV) (j18:List PV) (j19:Int) (j20:Int) (j21:Int) (j22:Int) (j23:Int) (j24:Int) (j25:Nat) (j26:Nat) (j27:Nat) (j28:Int) (j29:Int) (j30:List PV) (j31:List PV) (j32:Int) (j33:Bool) (j34:List PV) (j35:List PV) (j36:Int) (j37:Int) (j38:Int) (j39:Int) (j40:Int) (j41:Int) (j42:Bool) (j43:Bool),nofn r1→d (pcs l.length ts') r1 (tns ts') (cks l) l.length l.length l.length (logs lg') 0 j9 j10 j11 j12 j13 j14 j15 j16 j17 j18 j19 j20 j21 j22 j23 j24 j25 j26 j27 j28 j29 j30 j31 j32 j33 j34 j35 j36 j37 j38 j39 j40 j41 j42 j43)∧(∀ (r1:List PV) (j9:List PV) (j10:List PV) (j11:Int) (j12:Int) (j13:Int) (j14:Int) (j15:Int) (j16:Int) (j17:List PV) (j18:List PV) (j19:Int) (j20:Int) (j21:Int) (j22:Int) (j23:Int) (j24:Int) (j25:Nat) (j26:Nat) (j27:Nat) (j28:Int) (j29:Int) (j30:List PV) (j31:List PV) (j32:Int) (j33:Bool) (j34:List PV) (j35:List PV) (j36:Int) (j37:Int) (j38:Int) (j39:Int) (j40:Int) (j41:Int) (j42:Bool) (j43:Bool),nofn r1→g (pcs l.length ts') r1 (tns ts') (cks l) l.length l.length l.length (logs lg') 0 j9 j10 j11 j12 j13 j14 j15 j16 j17 j18 j19 j20 j21 j22 j23 j24 j25 j26 j27 j28 j29 j30 j31 j32 j33 j34 j35 j36 j37 j38 j39 j40 j41 j42 j43)
   | .error e=>(∀ (r1 lgx:List PV) (j8:List PV) (j9:List PV) (j10:Int) (j11:Int) (j12:Int) (j13:Int) (j14:Int) (j15:Int),nofn r1→b (pcs l.length []) r1 (cks l) l.length l.length l.length lgx e j8 j9 j10 j11 j12 j13 j14 j15)∧(∀ (r1:List PV) (ts':List Tn) (lgx:List PV) (j9:List PV) (j10:List PV) (j11:Int) (j12:Int) (j13:Int) (j14:Int) (j15:Int) (j16:Int),nofn r1→f (pcs l.length ts') r1 (tns ts') (cks l) l.length l.length l.length lgx e j9 j10 j11 j12 j13 j14 j15 j16)):∃ n,yei ybG yaQ ybb i b d j f g n pc rows (cks l) l.length l.length l.length lgd 0 (cks l) dl n10 n11 c i13 i14:=by
 subst e0;subst e1;subst e2;subst e3;subst e4;subst e5;subst e6
 exact go0 hd i b d j f g m A Z c q lg lgd hm hnd hA hts hq hlg hZ h
theorem ini (x:List PV→List PV→List PV→Nat→Nat→Nat→List PV→Int→List PV→List PV→Nat→Nat→Nat→Int→Int→Bool→Prop) (l0 l2:List PV) (n3 n4 n5:Nat) (l6:List PV) (i7:Int) (l8 l9:List PV) {N c:Nat} (hN:N≤1000):∀ (r i n:Nat),i+r=N→r<n →
  x l0 (nts (List.range N)) l2 n3 n4 n5 l6 i7 l8 l9 N N c ((N:Nat):Int) ((N:Nat):Int) false→ye5 ybG yaQ ybb x n l0 (nts (List.range i)++List.replicate r (.int .i64 0)) l2 n3 n4 n5 l6 i7 l8 l9 N N c ((N:Nat):Int) ((i:Nat):Int)
 | 0,i,n,hi,hn,h=>by
  obtain ⟨n,rfl⟩:∃ k,n=k+1:=⟨n-1,by omega⟩
  have e:i=N:=by omega
  subst e
  unfold ye5
  rw [cbF (by omega),List.replicate_zero,qBh]
  exact h
 | r+1,i,n,hi,hn,h=>by
  obtain ⟨n,rfl⟩:∃ k,n=k+1:=⟨n-1,by omega⟩
  have IH:=ini x l0 l2 n3 n4 n5 l6 i7 l8 l9 (c:=c) hN r (i+1) n (by omega) (by omega) h
  have hlen:(nts (List.range i)++List.replicate (r+1) (PV.int IntKind.i64 0)).length=N:=by
   rw [qAf,yk5,qBz,qAw];omega
  have hrow:List.getD (nts (List.range i)++List.replicate (r+1) (PV.int IntKind.i64 0)) i .nils=.int .i64 0:=by
   rw [qAb,List.getElem?_append_right (by rw [yk5,qBz];exact qAk _),yk5,qBz,Nat.sub_self]
   rfl
  have hset:List.set (nts (List.range i)++List.replicate (r+1) (PV.int IntKind.i64 0)) i (.int .i64 i)=nts (List.range (i+1))++List.replicate r (PV.int IntKind.i64 0):=by
   have e:i=(nts (List.range i)).length:=by rw [yk5,qBz]
   rw [List.range_succ,yuW,qAz]
   conv=>lhs;arg 2;rw [e]
   rw [List.set_append_right _ _ (qAk _),Nat.sub_self]
   rfl
  have ew:IntKind.i64.wrap ((i:Int)+1)=((i+1:Nat):Int):=by rw [wib (by omega) (by omega)];omega
  unfold ye5
  simp only [lt]
  rw [cbT (by omega),asT (by omega),asT (by omega),hlen,asT (by omega),qAt,qAe,asT (by omega),hrow,ysa,hset,ew]
  exact IH
def tRun (l:List Ck):Except Int (List Tn×List Qy):=if yfW l 0=0 then tGo l l.length (List.range l.length) [] 0 [] else .error (yfW l 0)
theorem take_all {a:List PV} {n:Nat} (h:a.length=n):List.take n a=a:=qBe (by omega)
theorem yJg (hf:finC l) (hl:l.length<4611686018427387904) (K:List PV→List PV→List PV→Int→Prop) :
  yfw (cks l) K=match tRun l with
   | .ok (ts,lg)=>K (pcs l.length ts) (tns ts) (logs lg) 0
   | .error e=>K [] [] [] e:=by
 unfold tRun
 by_cases h0:yfW l 0=0
 case neg =>
  rw [if_neg h0]
  refine yn4 _ [] [] [] (yfW l 0) (fun K k=>?_) K
  unfold yfw yk4
  rw [yF2 hf hl,if_neg h0,cnT h0]
  exact k
 rw [if_pos h0]
 obtain ⟨hd,_⟩:=ykF h0
 have n6:=hd.n6
 have n0:=hd.n0
 obtain ⟨m,hm⟩:∃ m,l.length=m+1:=⟨l.length-1,by omega⟩
 have hnd:(List.range l.length).Nodup:=List.nodup_range
 have hA:∀ a∈List.range l.length,a<l.length:=fun a ha=>List.mem_range.1 ha
 have s0:small (0:Rat):=by have:=yfa (x:=0) (by omega);simpa using this
 have main:∀ K:List PV→List PV→List PV→Int→Prop,(match tGo l l.length (List.range l.length) [] 0 [] with
   | .ok (ts,lg)=>K (pcs l.length ts) (tns ts) (logs lg) 0
   | .error e=>e≠0∧K [] [] [] e)→yfw (cks l) K:=by
  intro K k
  unfold yfw yk4
  rw [yF2 hf hl,if_pos h0,cnF rfl]
  rw [yaX,asT (by omega),asT (by omega),asT (by unfold room;omega),asT (by omega),asT (by omega),asT (by unfold room;omega)]
  refine ⟨l.length+1,ini _ _ _ _ _ _ _ _ _ _ (N:=l.length) (by omega) l.length 0 _ (by omega) (by omega) ?_⟩
  show yaQ 0 _
  rw [yCt]
  refine go0e hd _ _ _ _ _ _ m (List.range l.length) [] _ 0 [] _ (by rw [qBz];exact hm) hnd hA qBz s0 rfl rfl rfl (qBh _).symm qBz.symm (by rw [qBz];rfl) rfl rfl rfl ?_
  rw [← hm]
  revert k
  cases tGo l l.length (List.range l.length) [] 0 [] with
  | ok x =>
   obtain ⟨ts,lg⟩:=x
   intro k
   have hp:=yAg l.length ts
   have ht:=yAh ts
   unfold nofn at hp ht
   refine ⟨?_,?_⟩
   ·intro r1
    intros
    rename_i hr
    unfold nofn at hr
    show asr _ _
    rw [asTT (by simp only [noYH,ybI,yd8,noY,qBc,hr,hp,ht])]
    show cbr _ _ _
    rw [cnF rfl,yiz,asT (by omega),asT (by omega),asT (by omega),asT (by omega),take_all (yiz _ _),take_all rfl]
    exact k
   ·intro r1
    intros
    rename_i hr
    unfold nofn at hr
    show asr _ _
    rw [asTT (by simp only [noYH,ybI,yd8,noY,qBc,hr,hp,ht])]
    show cbr _ _ _
    rw [cnF rfl,yiz,asT (by omega),asT (by omega),asT (by omega),asT (by omega),take_all (yiz _ _),take_all rfl]
    exact k
  | error e =>
   intro k
   refine ⟨?_,?_⟩
   ·intro r1 lgx
    intros
    rename_i hr
    have hp:=yAg l.length []
    unfold nofn at hr hp
    show asr _ _
    rw [asTT (by simp only [noYH,ybI,yd8,noY,qBc,hr,hp])]
    show cbr _ _ _
    rw [cnT k.1]
    exact k.2
   ·intro r1 ts' lgx
    intros
    rename_i hr
    have hp:=yAg l.length ts'
    have ht:=yAh ts'
    unfold nofn at hr hp ht
    show asr _ _
    rw [asTT (by simp only [noYH,ybI,yd8,noY,qBc,hr,hp,ht])]
    show cbr _ _ _
    rw [cnT k.1]
    exact k.2
 cases hT:tGo l l.length (List.range l.length) [] 0 [] with
 | ok x =>
  obtain ⟨ts,lg⟩:=x
  refine yn4 _ (pcs l.length ts) (tns ts) (logs lg) 0 (fun K k=>main K ?_) K
  rw [hT]
  exact k
 | error e =>
  refine yn4 _ [] [] [] e (fun K k=>main K ?_) K
  rw [hT]
  exact ⟨fun e0=>yJe _ _ _ _ _ (e0 ▸ hT),k⟩
theorem yOA {ts:List Tn} {i:Nat} (h:i<ts.length):∃ x,List.getD (tns ts) i .nils=tnE x:=by
 unfold tns
 rw [qAb,qA3,qAa h]
 exact ⟨ts[i],rfl⟩
theorem yCx (ts:List Tn) (h6:ts.length≤1000) {x0 x1}:∀ (r i n:Nat),i+r=ts.length→r<n→x0 (tns ts) (tns ts) ((ts.length:Nat):Int) false→ycX x0 x1 n (tns ts) (tns ts) ((i:Nat):Int)
 | 0,i,n,hi,hn,h=>by
  obtain ⟨n,rfl⟩:∃ k,n=k+1:=⟨n-1,by omega⟩
  have e:i=ts.length:=by omega
  subst e
  unfold ycX
  rw [yqM,cbF (by omega)]
  exact h
 | r+1,i,n,hi,hn,h=>by
  obtain ⟨n,rfl⟩:∃ k,n=k+1:=⟨n-1,by omega⟩
  obtain ⟨x,hx⟩:=yOA (ts:=ts) (i:=i) (by omega)
  have ew:IntKind.i64.wrap ((i:Int)+1)=((i+1:Nat):Int):=by rw [wib (by omega) (by omega)];omega
  have ec:∀ P:Prop,asr (conf (.agg [.i .i64,.i .i64,.i .i64,.i .i64,.i .i64,.i .i64]) (tnE x)) P=P:=fun P=>rfl
  unfold ycX
  simp only [lt]
  rw [yqM,cbT (by omega),asT (by omega),asT (by omega),qAe,hx,ec,asT (by omega),asT (by omega),ec,beq_self_eq_true,beq_self_eq_true,beq_self_eq_true,beq_self_eq_true,beq_self_eq_true,beq_self_eq_true]
  simp only [qBc,qBp,yae]
  rw [ew]
  exact yCx ts h6 r (i+1) n (by omega) (by omega) h
theorem yAi {ts:List Tn} (h6:ts.length≤1000) (K:Bool→Prop):yex (tns ts) (tns ts) K=K true:=by
 refine yuq _ _ _ (fun K k=>?_) K
 unfold yex yh7
 rw [cnF rfl]
 exact ⟨ts.length+1,yCx ts h6 ts.length 0 _ (by omega) (by omega) k⟩
def dvT (n:Nat) (ts:List Tn):List (List Sp):=ts.foldl (fun P t=>P.set t.a [⟨t.f.num,t.f.den,t.t.num,t.t.den⟩]) (List.replicate n [])
theorem ywS:∀ (ts:List Tn) (P:List (List Sp)),pieces (ts.foldl (fun P t=>P.set t.a [⟨t.f.num,t.f.den,t.t.num,t.t.den⟩]) P)=ts.foldl (fun P t=>P.set t.a (spE t)) (pieces P)
 | [],P=>rfl
 | t::r,P=>by
  show pieces (r.foldl _ (P.set t.a _))=r.foldl _ ((pieces P).set t.a (spE t))
  rw [ywS r]
  congr 1
  unfold pieces
  rw [List.map_set]
  rfl
theorem yAj (n:Nat) (ts:List Tn):pcs n ts=pieces (dvT n ts):=by
 unfold dvT pcs
 rw [ywS]
 congr 1
 unfold pieces
 rw [List.map_replicate]
 rfl
theorem yJh (n:Nat) (ts:List Tn):(dvT n ts).length=n:=by
 have:=yiz n ts
 rw [yAj] at this
 unfold pieces at this
 rwa [qAq] at this
def bndV (n:Int):Int×Int:=if n<1∨n>6 then (0,2) else (IntKind.i64.wrap (IntKind.i64.wrap (n*n)-1),0)
theorem yCy (n:Int) (K:Int→Int→Prop):yhG n K=K (bndV n).1 (bndV n).2:=by
 unfold yhG ylP bndV
 simp only [Go.Pf.jn,lt]
 by_cases h:n<1
 ·rw [cbT h,yam,if_pos (.inl h)]
 ·rw [cbF h]
  by_cases h2:n>6
  ·rw [cbT h2,if_pos (.inr h2)]
  ·rw [cbF h2,if_neg (fun x=>x.elim h h2)]
theorem yKm (hd:DK l) {a:Nat} (h:a<l.length) {q p:Rat} (hs:small q) (hp:small p) (q0:0≤q) (qp:q≤p) (p1:p≤lenR l) {D:Int} (hD:1≤D∧D≤50000000000000) (hq:In D q) (hpD:In D p) {m:Nat} (hm:m<2000) :
  valE l q.num q.den m a p=.ok (vXA l a p-vXA l a q)∧QR l (valQ q.num q.den a p (vXA l a p-vXA l a q)):=by
 have hok:=hd.ok a h
 have hlen:=hd.len a h
 have p1':p≤((l.getD a default).len:Rat):=by rw [hlen];exact p1
 have e:valR (l.getD a default).len (l.getD a default).cuts (l.getD a default).dens q.num q.den p.num p.den=.ok (vXA l a p-vXA l a q):=by
  unfold valR
  rw [if_pos hok.ck,yeP,yeP,if_pos ⟨yzY hs q0 (Rat.le_trans qp p1'),yzY hp (Rat.le_trans q0 qp) p1',Rat.not_lt.2 qp⟩]
  exact yCm hok hD hq hpD q0 qp p1'
 refine ⟨?_,⟨by show (0:Int)≤a;omega,by show (a:Int)<_;omega⟩,⟨hs.i1,hs.i2,hp.i1,hp.i2⟩,vXA l a p-vXA l a q,⟨rfl,rfl⟩,.inr ⟨rfl,?_⟩⟩
 ·unfold valE qryR
  rw [if_pos (hd.err (by omega)),if_pos ⟨by omega,by omega⟩,qAe]
  have:Ck.value q.num q.den p.num p.den (l.getD a default)=.ok (vXA l a p-vXA l a q):=e
  rw [this]
  show (if m≥2000 then _ else _)=_
  rw [if_neg (by omega)]
 ·exact e
theorem yGp (hd:DK l) {q p:Rat} {d D:Int} (q0:0≤q) (qp:q≤p) (p1:p≤lenR l) (hd12:1≤d∧d≤12) (D1:1≤D) (D2:D≤1000000000000) (h:In (d*D) p):small p:=by
 have hn:=hd.n0
 have l0:=(hd.ok 0 (by omega)).len0
 have hL:lenR l≤1000:=qAv.2 l0.2
 have hdD:d*D≤12*D:=qAy hd12.2 (by omega)
 have hdD1:1*1≤d*D:=qB9 hd12.1 D1 (by omega) (by omega)
 exact h.small (M:=1000) ⟨by omega,by omega⟩ (by omega) (by show -(1000:Rat)≤_;grind) (by show _≤(1000:Rat);grind)
structure TOk (l:List Ck) (q:Rat) (D:Int) (s:TSt):Prop where
 lt:q<s.p
 le:s.p≤lenR l
 inD:∃ d:Int,(1≤d∧d≤12)∧In (d*D) s.p
 sh:vXA l s.w s.p=vXA l s.w q+shN l s.w
theorem yEk (hd:DK l) {q:Rat} (hs:small q) (q0:0≤q) {D:Int} (D1:1≤D) (D2:D≤1000000000000) (hq:In D q) (hsh:∀ a,In D (shN l a)) :
  ∀ (rest:List Nat) (s:TSt),(∀ a∈rest,a<l.length)→(∀ a∈rest,shN l a≤vXA l a (lenR l)-vXA l a q)→s.lg.length+2*rest.length<2000→TOk l q D s →
   ∃ s',tR l q.num q.den rest s=.ok s'∧TOk l q D s'∧s'.p≤s.p∧(∀ a∈rest,vXA l a s'.p≤vXA l a q+shN l a)∧(s'.w=s.w∨s'.w∈rest)∧s'.k≤s.k+rest.length ∧
    ∃ qs,s'.lg=s.lg++qs∧(∀ x∈qs,QR l x)∧qs.length≤2*rest.length
 | [],s,_,_,_,h=>⟨s,rfl,h,qBu,fun _ h=>(by cases h),.inl rfl,qAk _,[],by rw [qBh],fun _ h=>(by cases h),qBg _⟩
 | a::r,s,hr,hv,hl,h=>by
  have ha:=hr a qAi
  have hok:=hd.ok a ha
  have hll:(a::r).length=r.length+1:=rfl
  rw [hll] at hl
  obtain ⟨d,hd12,hpD⟩:=h.inD
  have hdD:d*D≤12*D:=qAy hd12.2 (by omega)
  have hdD1:1*1≤d*D:=qB9 hd12.1 D1 (by omega) (by omega)
  have hps:small s.p:=yGp hd q0 (qBj h.lt) h.le hd12 D1 D2 hpD
  obtain ⟨e1,g1⟩:=yKm hd ha hs hps q0 (qBj h.lt) h.le (D:=d*D) ⟨by omega,by omega⟩ (hq.up D1 hd12.1) hpD (m:=s.lg.length) (by omega)
  have hr':∀ b∈r,b<l.length:=fun b hb=>hr b (qAh _ hb)
  have hv':∀ b∈r,shN l b≤vXA l b (lenR l)-vXA l b q:=fun b hb=>hv b (qAh _ hb)
  by_cases hc:shN l a<vXA l a s.p-vXA l a q
  ·obtain ⟨k1,k2,k3,k4,k5⟩:=yL2 hd ha q0 (Rat.le_trans (qBj h.lt) h.le) (hv a qAi) D1 D2 hq (hsh a)
   have e2:=yCs hd ha hs q0 (Rat.le_trans (qBj h.lt) h.le) k1 (m:=s.lg.length+1) (by omega)
   have g2:=yL3 hd ha hs q0 (Rat.le_trans (qBj h.lt) h.le) k1
   have hle:mkM l q a≤s.p:=Rat.not_lt.1 fun hlt=>by
    have m1:vXA l a s.p≤vXA l a (mkM l q a):=yjB hok (qBj hlt)
    have k3':vXA l a (mkM l q a)=vXA l a q+shN l a:=k3
    grind
   obtain ⟨s',f1,f2,f3,f4,f5,f6,qs,f7,f8,f9⟩:=yEk hd hs q0 D1 D2 hq hsh r ⟨(s.lg++[valQ q.num q.den a s.p (vXA l a s.p-vXA l a q)])++[yqc l q.num q.den a (mkM l q a)],mkM l q a,a,s.k+1⟩ hr' hv' (by simp only [qAf,qAc,qAo];omega) ⟨k4,k5,k2,k3⟩
   refine ⟨s',?_,f2,Rat.le_trans f3 hle,fun b hb=>?_,?_,?_,valQ q.num q.den a s.p (vXA l a s.p-vXA l a q)::yqc l q.num q.den a (mkM l q a)::qs,?_,fun x hx=>?_,?_⟩
   ·unfold tR
    rw [e1]
    dsimp only
    rw [if_pos hc,e2]
    exact f1
   ·rcases qAr.1 hb with rfl | hb
    ·have m1:vXA l b s'.p≤vXA l b (mkM l q b):=yjB hok f3
     have k3':vXA l b (mkM l q b)=vXA l b q+shN l b:=k3
     grind
    ·exact f4 b hb
   ·rcases f5 with f5 | f5
    ·exact .inr (by rw [f5];exact qAi)
    ·exact .inr (qAh _ f5)
   ·have:s'.k≤s.k+1+r.length:=f6
    omega
   ·rw [f7];simp only [qAz,List.cons_append,qBl]
   ·rcases qAr.1 hx with rfl | hx
    ·exact g1
    ·rcases qAr.1 hx with rfl | hx
     ·exact g2
     ·exact f8 x hx
   ·simp only [qAc];omega
  ·obtain ⟨s',f1,f2,f3,f4,f5,f6,qs,f7,f8,f9⟩:=yEk hd hs q0 D1 D2 hq hsh r ⟨s.lg++[valQ q.num q.den a s.p (vXA l a s.p-vXA l a q)],s.p,s.w,s.k⟩ hr' hv' (by simp only [qAf,qAc,qAo];omega) ⟨h.lt,h.le,h.inD,h.sh⟩
   refine ⟨s',?_,f2,f3,fun b hb=>?_,?_,?_,valQ q.num q.den a s.p (vXA l a s.p-vXA l a q)::qs,?_,fun x hx=>?_,?_⟩
   ·unfold tR
    rw [e1]
    dsimp only
    rw [if_neg hc]
    exact f1
   ·rcases qAr.1 hb with rfl | hb
    ·have m1:vXA l b s'.p≤vXA l b s.p:=yjB hok f3
     grind
    ·exact f4 b hb
   ·rcases f5 with f5 | f5
    ·exact .inl f5
    ·exact .inr (qAh _ f5)
   ·have:s'.k≤s.k+r.length:=f6
    omega
   ·rw [f7];simp only [qAz,List.cons_append,qBl]
   ·rcases qAr.1 hx with rfl | hx
    ·exact g1
    ·exact f8 x hx
   ·simp only [qAc];omega
theorem yGq (hd:DK l) {q:Rat} (hs:small q) (q0:0≤q) (q1:q≤lenR l) {D:Int} (D1:1≤D) (D2:D≤1000000000000) (hq:In D q) (hsh:∀ a,In D (shN l a)) {A:List Nat} (h2:2≤A.length) (hr:∀ a∈A,a<l.length)
  (hv:∀ a∈A,shN l a≤vXA l a (lenR l)-vXA l a q) (lg:List Qy) (hl:lg.length+2*A.length<2000) :
  ∃ s,yfc l q.num q.den lg A=.ok s∧TOk l q D s∧(∀ a∈A,vXA l a s.p≤vXA l a q+shN l a)∧s.w∈A∧s.k+1≤A.length∧∃ qs,s.lg=lg++qs∧(∀ x∈qs,QR l x)∧qs.length+1≤2*A.length:=by
 obtain ⟨a,r,rfl⟩:∃ a r,A=a::r:=by cases A with | nil=>simp at h2 | cons a r=>exact ⟨a,r,rfl⟩
 obtain ⟨b,r,rfl⟩:∃ b r',r=b::r':=by cases r with | nil=>simp at h2 | cons a r=>exact ⟨a,r,rfl⟩
 have ha:=hr a qAi
 obtain ⟨k1,k2,k3,k4,k5⟩:=yL2 hd ha q0 q1 (hv a qAi) D1 D2 hq (hsh a)
 have e2:=yCs hd ha hs q0 q1 k1 (m:=lg.length) (by omega)
 have g2:=yL3 hd ha hs q0 q1 k1
 simp only [qAc] at hl
 obtain ⟨s',f1,f2,f3,f4,f5,f6,qs,f7,f8,f9⟩:=yEk hd hs q0 D1 D2 hq hsh (b::r) ⟨lg++[yqc l q.num q.den a (mkM l q a)],mkM l q a,a,0⟩ (fun x hx=>hr x (qAh _ hx)) (fun x hx=>hv x (qAh _ hx)) (by simp only [qAf,qAc,qAo];omega) ⟨k4,k5,k2,k3⟩
 refine ⟨s',?_,f2,fun x hx=>?_,?_,?_,yqc l q.num q.den a (mkM l q a)::qs,?_,fun x hx=>?_,?_⟩
 ·simp only [yfc,e2]
  exact f1
 ·rcases qAr.1 hx with rfl | hx
  ·have m1:vXA l x s'.p≤vXA l x (mkM l q x):=yjB (hd.ok x ha) f3
   have k3':vXA l x (mkM l q x)=vXA l x q+shN l x:=k3
   grind
  ·exact f4 x hx
 ·rcases f5 with f5 | f5
  ·rw [f5];exact qAi
  ·exact qAh _ f5
 ·have:s'.k≤0+(b::r).length:=f6
  simp only [qAc] at this ⊢
  omega
 ·rw [f7];simp only [qAz,List.cons_append,qBl]
 ·rcases qAr.1 hx with rfl | hx
  ·exact g2
  ·exact f8 x hx
 ·simp only [qAc] at f9 ⊢;omega
def mkT:List Nat→(Nat→Rat)→(Nat→Nat)→List Tn
 | [],_,_=>[]
 | a::o,t,k=>⟨a,t 0,t 1,k 0⟩::mkT o (fun j=>t (j+1)) (fun j=>k (j+1))
def remA:List Nat→List Nat→Nat→List Nat
 | A,_,0=>A
 | A,[],_+1=>A
 | A,a::o,j+1=>remA (A.erase a) o j
def yCz {α:Type} (a:α) (f:Nat→α):Nat→α
 | 0=>a
 | j+1=>f j
structure TRun (l:List Ck) (r:Nat) (A:List Nat) (q:Rat) (lg:List Qy) (ts:List Tn) (x:List Tn×List Qy) (o:List Nat) (t:Nat→Rat) (k:Nat→Nat) (L:Nat→List Qy) (D:Int):Prop where
 tn:x.1=ts++mkT o t k
 len:o.length=r+1
 perm:o.Perm A
 t0:t 0=q
 te:t (r+1)=lenR l
 lt:∀ j,j<r+1→t j<t (j+1)
 sm:∀ j,j≤r+1→small (t j)
 inD:∀ j,j≤r+1→In D (t j)
 sh:∀ j,j<r→vXA l (o.getD j 0) (t (j+1))=vXA l (o.getD j 0) (t j)+shN l (o.getD j 0)
 last:vXA l (o.getD r 0) (t r)+shN l (o.getD r 0)≤vXA l (o.getD r 0) (t (r+1))
 kb:∀ j,j<r+1→k j+j≤r
 l0:L 0=lg
 le:L (r+1)=x.2
 ll:L (r+1)=L r
 st:∀ j,j<r+1→yfc l (t j).num (t j).den (L j) (remA A o j)=.ok ⟨L (j+1),t (j+1),o.getD j 0,k j⟩∧(remA A o j).length=r+1-j
 ql:∀ j,j<r+1→∃ qs,L (j+1)=L j++qs∧(∀ q∈qs,QR l q)∧qs.length+1≤2*(r+1-j)
theorem yJi (hd:DK l):∀ (r:Nat) (A:List Nat) (q:Rat) (lg:List Qy) (ts:List Tn) (D B:Int),A.length=r+1→A.Nodup→(∀ a∈A,a<l.length)→small q→0≤q→q<lenR l →
  (∀ a∈A,vXA l a q+((r+1:Nat):Int)*shN l a≤vXA l a (lenR l))→1≤D→D≤B→B*12 ^ r≤100000000→In D q→(∀ a,In D (shN l a))→lg.length+(r+1)*12<2000→r<6 →
  ∃ x o t k L D',tGo l (r+1) A lg q ts=.ok x∧(1≤D'∧D'≤B*12 ^ r)∧(∀ q,In D q→In D' q)∧TRun l r A q lg ts x o t k L D'
 | 0,A,q,lg,ts,D,B,hlen,hnd,hr,hs,q0,q1,hv,D1,DB,hB,hq,hsh,hlg,hr6=>by
  obtain ⟨a,rr,rfl,hrr⟩:=yaI hlen
  obtain rfl:=qAm hrr
  have ha:=hr a qAi
  have h0:=(hd.ok 0 (by have:=hd.n0;omega)).len0
  refine ⟨(ts++[⟨a,q,lenR l,0⟩],lg),[a],yCz q (fun _=>lenR l),fun _=>0,fun _=>lg,D,?_,⟨D1,by rw [Int.pow_zero,Int.mul_one];exact DB⟩,fun _ h=>h,?_⟩
  ·unfold tGo
   simp only [yfc,qAc,qAo]
   rfl
  ·refine ⟨rfl,rfl,List.Perm.refl _,rfl,rfl,fun j hj=>?_,fun j hj=>?_,fun j hj=>?_,fun j hj=>by omega,?_,fun j hj=>by omega,rfl,rfl,rfl,fun j hj=>?_,fun j hj=>⟨[],by rw [qBh],by simp,by simp only [qAo];omega⟩⟩
   ·obtain rfl:j=0:=by omega
    exact q1
   ·obtain rfl | rfl:j=0∨j=1:=by omega
    ·exact hs
    ·exact yfa (by omega)
   ·obtain rfl | rfl:j=0∨j=1:=by omega
    ·exact hq
    ·exact In.int D1 _
   ·have:=hv a qAi
    show vXA l a q+shN l a≤vXA l a (lenR l)
    have e:(((0+1:Nat):Int):Rat)=1:=rfl
    rw [e] at this
    grind
   ·obtain rfl:j=0:=by omega
    exact ⟨rfl,rfl⟩
 | r+1,A,q,lg,ts,D,B,hlen,hnd,hr,hs,q0,q1,hv,D1,DB,hB,hq,hsh,hlg,hr6=>by
  have n6:=hd.n6
  have hpow:B*12 ^ (r+1)=12*B*12 ^ r:=by rw [Int.pow_succ];grind
  have hp1:1≤(12:Int) ^ r:=by
   have:(0:Int)<12 ^ r:=Int.pow_pos (by omega)
   omega
  have hB1:12*B*1≤12*B*12 ^ r:=Int.mul_le_mul_of_nonneg_left hp1 (by omega)
  have hc:(((r+1+1:Nat):Int):Rat)=(((r+1:Nat):Int):Rat)+1:=by
   rw [show ((r+1+1:Nat):Int)=((r+1:Nat):Int)+1 by omega,Rat.intCast_add];rfl
  have hr0:(0:Rat)<(((r+1:Nat):Int):Rat):=Rat.intCast_pos.2 (by omega)
  have hv1:∀ a∈A,shN l a≤vXA l a (lenR l)-vXA l a q:=fun a ha=>by
   have:=hv a ha
   have sp:=yx3 hd (hr a ha)
   have:=Rat.mul_pos hr0 sp
   rw [hc] at *
   grind
  obtain ⟨s,e,⟨p0,p1,⟨d,hd12,hpD⟩,psh⟩,hall,hw,hk,qs,hqs,hqr,hql⟩:=yGq hd hs q0 (qBj q1) D1 (by omega) hq hsh (A:=A) (by omega) hr hv1 lg (by omega)
  have hdD:d*D≤12*D:=qAy hd12.2 (by omega)
  have hdD1:1*1≤d*D:=qB9 hd12.1 D1 (by omega) (by omega)
  have hps:small s.p:=yGp hd q0 (qBj p0) p1 hd12 D1 (by omega) hpD
  have hlenk:(A.erase s.w).length=r+1:=by rw [List.length_erase_of_mem hw];omega
  have hmem:∀ b∈A.erase s.w,b∈A:=fun b hb=>List.mem_of_mem_erase hb
  have hv2:∀ b∈A.erase s.w,vXA l b s.p+((r+1:Nat):Int)*shN l b≤vXA l b (lenR l):=fun b hb=>by
   have h1:=hv b (hmem b hb)
   have h2:=hall b (hmem b hb)
   rw [hc] at h1
   grind
  have hp1:s.p<lenR l:=by
   obtain ⟨b,hb⟩:∃ b,b∈A.erase s.w:=by
    cases hx:A.erase s.w with
    | nil=>rw [hx] at hlenk;cases hlenk
    | cons b _=>exact ⟨b,qAi⟩
   have h1:=hv2 b hb
   have hbl:=hr b (hmem b hb)
   have sp:=yx3 hd hbl
   have sp2:=Rat.mul_pos hr0 sp
   refine Rat.not_le.1 fun hle=>?_
   have:vXA l b (lenR l)≤vXA l b s.p:=yjB (hd.ok b hbl) hle
   grind
  have hll:s.lg.length+1≤lg.length+2*(r+2):=by rw [hqs,qAf];omega
  obtain ⟨x,o,t,k,L,D',h1,h2,hup,h3⟩:=yJi hd r (A.erase s.w) s.p s.lg (ts++[⟨s.w,q,s.p,s.k⟩]) (d*D) (12*B) hlenk (hnd.erase _) (fun b hb=>hr b (hmem b hb)) hps (by grind) hp1 hv2 (by omega) (by omega) (by omega) hpD (fun b=>(hsh b).up D1 (by omega)) (by omega) (by omega)
  have e2:tGo l (r+1+1) A lg q ts=.ok x:=by
   unfold tGo
   rw [e]
   dsimp only
   rw [if_neg (by omega)]
   exact h1
  refine ⟨x,s.w::o,yCz q t,yCz s.k k,yCz lg L,D',e2,⟨h2.1,by omega⟩,fun q h=>hup q (h.up D1 (by omega)),?_⟩
  refine ⟨?_,by rw [qAc,h3.len],?_,rfl,h3.te,fun j hj=>?_,fun j hj=>?_,fun j hj=>?_,fun j hj=>?_,h3.last,fun j hj=>?_,rfl,h3.le,h3.ll,fun j hj=>?_,fun j hj=>?_⟩
  ·rw [h3.tn,qAz]
   have:mkT (s.w::o) (yCz q t) (yCz s.k k)=⟨s.w,q,t 0,s.k⟩::mkT o t k:=rfl
   rw [this,h3.t0]
   rfl
  ·exact (List.Perm.cons _ h3.perm).trans (List.perm_cons_erase hw).symm
  ·cases j with
   | zero=>show q<t 0;rw [h3.t0];exact p0
   | succ j=>exact h3.lt j (by omega)
  ·cases j with
   | zero=>exact hs
   | succ j=>exact h3.sm j (by omega)
  ·cases j with
   | zero=>exact hup q (hq.up D1 (by omega))
   | succ j=>exact h3.inD j (by omega)
  ·cases j with
   | zero =>
    show vXA l s.w (t 0)=vXA l s.w q+shN l s.w
    rw [h3.t0];exact psh
   | succ j=>exact h3.sh j (by omega)
  ·cases j with
   | zero=>show s.k+0≤r+1;omega
   | succ j=>have:=h3.kb j (by omega);show k j+(j+1)≤r+1;omega
  ·cases j with
   | zero =>
    refine ⟨?_,hlen⟩
    show yfc l q.num q.den lg A=.ok ⟨L 0,t 0,s.w,s.k⟩
    rw [h3.l0,h3.t0,e]
   | succ j =>
    obtain ⟨g1,g2⟩:=h3.st j (by omega)
    refine ⟨g1,?_⟩
    show (remA (A.erase s.w) o j).length=_
    omega
  ·cases j with
   | zero =>
    refine ⟨qs,?_,hqr,by omega⟩
    show L 0=lg++qs
    rw [h3.l0,hqs]
   | succ j =>
    obtain ⟨qs,g1,g2,g3⟩:=h3.ql j (by omega)
    exact ⟨qs,g1,g2,by omega⟩
theorem TRun.log {r A q lg ts x o t k L D} (h:TRun l r A q lg ts x o t k L D):∃ qs,x.2=lg++qs∧(∀ q∈qs,QR l q)∧qs.length+1≤(r+1)*(r+1):=by
 have key:∀ i,i≤r→∃ qs,L (r+1)=L (r-i)++qs∧(∀ q∈qs,QR l q)∧qs.length+(i+1)+1≤(i+1)*(i+2):=by
  intro i
  induction i with
  | zero=>intro _;exact ⟨[],by rw [qBh];exact h.ll,by simp,by simp⟩
  | succ i ih =>
   intro hi
   obtain ⟨qs,g1,g2,g3⟩:=ih (by omega)
   obtain ⟨ps,f1,f2,f3⟩:=h.ql (r-(i+1)) (by omega)
   rw [show r-(i+1)+1=r-i by omega] at f1
   refine ⟨ps++qs,by rw [g1,f1,qAz],fun q hq=>?_,?_⟩
   ·rcases qAu.1 hq with hq | hq
    ·exact f2 q hq
    ·exact g2 q hq
   ·rw [qAf]
    have e:(i+1+1)*(i+1+2)=(i+1)*(i+2)+2*(i+2):=by
     rw [show i+1+1=i+2 by omega,show i+1+2=i+1+2 by omega,Nat.mul_add,Nat.mul_comm (i+2) (i+1),Nat.mul_comm (i+2) 2]
    omega
 obtain ⟨qs,g1,g2,g3⟩:=key r (qAk _)
 refine ⟨qs,?_,g2,?_⟩
 ·rw [← h.le,g1,Nat.sub_self,h.l0]
 ·have e:(r+1)*(r+2)=(r+1)*(r+1)+(r+1):=by rw [show r+2=r+1+1 by omega,Nat.mul_add,Nat.mul_one]
  omega
theorem yL6 (hd:DK l):∃ x o t k L D',tRun l=.ok x∧(1≤D'∧D'≤100000000)∧TRun l (l.length-1) (List.range l.length) 0 [] [] x o t k L D':=by
 have n0:=hd.n0;have n6:=hd.n6
 have l0:=(hd.ok 0 (by omega)).len0
 have hL:(1:Rat)≤lenR l:=qAv.2 l0.1
 have hn:l.length-1+1=l.length:=by omega
 have hp:(l.length:Int)*12 ^ (l.length-1)≤100000000:=by
  obtain h | h | h | h | h | h:l.length=1∨l.length=2∨l.length=3∨l.length=4∨l.length=5∨l.length=6:=by omega
  all_goals (rw [h];decide)
 obtain ⟨x,o,t,k,L,D',h1,h2,_,h3⟩:=yJi hd (l.length-1) (List.range l.length) 0 [] [] l.length l.length (by rw [qBz];omega) List.nodup_range (fun a ha=>List.mem_range.1 ha) ytd qBu (by grind) (fun a ha=>by
  have hal:=List.mem_range.1 ha
  have hm:=yNl hd hal
  have ht:=yHY (hd.ok a hal)
  rw [hd.len a hal] at ht
  rw [hn]
  show vX _ _ 0+((l.length:Int):Rat)*shN l a≤vX _ _ ((l.getD 0 default).len:Rat)
  rw [hm,← ht]
  grind) (by omega) (Int.le_refl _) hp (In.int (by omega) 0) (yOz l) (by rw [qAo];omega) (by omega)
 refine ⟨x,o,t,k,L,D',?_,⟨h2.1,by omega⟩,h3⟩
 unfold tRun
 rw [if_pos (hd.err (by omega)),← h1,hn]
abbrev TW (l:List Ck) (x:List Tn×List Qy) (o:List Nat) (t:Nat→Rat) (k:Nat→Nat) (L:Nat→List Qy) (D:Int):Prop:=TRun l (l.length-1) (List.range l.length) 0 [] [] x o t k L D
theorem TW.mem {x o t k L D} (h:TW l x o t k L D) {a:Nat}:a∈o↔a<l.length:=by
 rw [h.perm.mem_iff,List.mem_range]
theorem TW.nd {x o t k L D} (h:TW l x o t k L D):o.Nodup:=h.perm.nodup_iff.2 List.nodup_range
theorem TW.at {x o t k L D} (n0:1≤l.length) (h:TW l x o t k L D) {a:Nat} (ha:a<l.length):o.idxOf a<l.length∧o.getD (o.idxOf a) 0=a:=by
 have hm:=(h.mem (a:=a)).2 ha
 have hl:=h.len
 have hi:=List.idxOf_lt_length_of_mem hm
 refine ⟨by omega,?_⟩
 rw [qAb,qAa hi]
 exact List.getElem_idxOf hi
theorem TW.idx {x o t k L D} (n0:1≤l.length) (h:TW l x o t k L D) {j:Nat} (hj:j<l.length):o.getD j 0<l.length∧o.idxOf (o.getD j 0)=j:=by
 have hl:=h.len
 have hj':j<o.length:=by omega
 have hm:o.getD j 0∈o:=yLF hj'
 refine ⟨h.mem.1 hm,?_⟩
 rw [qAb,qAa hj']
 exact h.nd.idxOf_getElem j hj'
theorem yJj (t:Nat→Rat) (j:Nat):rsL [spT t j]=[(t j,t (j+1))]:=by
 show [(rt (t j).num (t j).den,rt (t (j+1)).num (t (j+1)).den)]=_
 rw [yeP,yeP]
theorem yGr:∀ (ts:List Tn) (P:List (List Sp)) (a:Nat),(∀ x∈ts,x.a≠a)→(ts.foldl (fun P t=>P.set t.a [⟨t.f.num,t.f.den,t.t.num,t.t.den⟩]) P).getD a []=P.getD a []
 | [],P,a,_=>rfl
 | x::r,P,a,h=>by
  have:=yGr r (P.set x.a [⟨x.f.num,x.f.den,x.t.num,x.t.den⟩]) a (fun y hy=>h y (qAh _ hy))
  rw [List.foldl_cons,this,qAb,qB0 (h x qAi),← qAb]
theorem yNX:∀ (o:List Nat) (t:Nat→Rat) (k:Nat→Nat) (x:Tn),x∈mkT o t k→x.a∈o
 | [],_,_,x,h=>by cases h
 | a::o,t,k,x,h=>by
  rcases qAr.1 h with rfl | h
  ·exact qAi
  ·exact qAh _ (yNX o _ _ x h)
theorem yJk:∀ (o:List Nat) (t:Nat→Rat) (k:Nat→Nat) (P:List (List Sp)) (j:Nat),o.Nodup→j<o.length→o.getD j 0<P.length→((mkT o t k).foldl (fun P t=>P.set t.a [⟨t.f.num,t.f.den,t.t.num,t.t.den⟩]) P).getD (o.getD j 0) []=[spT t j]
 | [],t,k,P,j,_,h,_=>by simp at h
 | a::o,t,k,P,0,hnd,h,hP=>by
  have hnd:=List.nodup_cons.1 hnd
  have hP:a<P.length:=hP
  unfold mkT
  rw [List.foldl_cons]
  show List.getD (List.foldl _ _ _) a []=_
  rw [yGr _ _ a (fun x hx e=>hnd.1 (by rw [← e];exact yNX o _ _ x hx)),qAb,qB2 hP]
  rfl
 | a::o,t,k,P,j+1,hnd,h,hP=>by
  have hnd:=List.nodup_cons.1 hnd
  unfold mkT
  rw [List.foldl_cons]
  exact yJk o (fun j=>t (j+1)) (fun j=>k (j+1)) _ j hnd.2 (by simpa using h) (by rw [List.length_set];exact hP)
theorem TW.pin {x o t k L D} (n0:1≤l.length) (h:TW l x o t k L D) {j:Nat} (hj:j<l.length):(dvT l.length x.1).getD (o.getD j 0) []=[spT t j]:=by
 have hl:=h.len
 rw [h.tn,qBl]
 exact yJk o t k _ j h.nd (by omega) (by rw [qAw];exact (h.idx n0 hj).1)
theorem TW.LD {x o t k L D} (hd:DK l) (h:TW l x o t k L D):LD l ((dvT l.length x.1).map rsL) t o.idxOf:=by
 have n0:=hd.n0
 have hn:l.length-1+1=l.length:=by omega
 have hpl:=yJh l.length x.1
 have l0:=(hd.ok 0 (by omega)).len0
 refine ⟨hd,by rw [qAq];exact hpl,h.t0,?_,fun j hj=>h.lt j (by omega),fun j hj=>h.sm j (by omega),fun a ha=>?_,fun a b ha hb e=>?_,fun j hj=>?_⟩
 ·have:=h.te
  rw [hn] at this
  exact this
 ·obtain ⟨k1,k2⟩:=h.at n0 ha
  refine ⟨k1,?_⟩
  have:=h.pin n0 k1
  rw [k2] at this
  rw [qAb,qA3,qAa (by omega)]
  rw [qAb,qAa (by omega)] at this
  show rsL (dvT l.length x.1)[a]=_
  rw [show (dvT l.length x.1)[a]=[spT t (o.idxOf a)] from this,yJj]
 ·have h1:=(h.at n0 ha).2
  have h2:=(h.at n0 hb).2
  rw [e,h2] at h1
  exact h1.symm
 ·obtain ⟨k1,k2⟩:=h.idx n0 hj
  exact ⟨_,k1,k2⟩
theorem TW.pieces {x o t k L D} (hd:DK l) (h:TW l x o t k L D):pcs l.length x.1=rspL ((dvT l.length x.1).map rsL):=by
 have n0:=hd.n0
 have hpl:=yJh l.length x.1
 rw [yAj]
 unfold Go.Pf.Vc.pieces rspL
 rw [List.map_map]
 refine List.map_congr_left fun p hp=>?_
 obtain ⟨a,ha,rfl⟩:=List.getElem_of_mem hp
 have hal:a<l.length:=by omega
 obtain ⟨k1,k2⟩:=h.at n0 hal
 have:=h.pin n0 k1
 rw [k2,qAb,qAa ha] at this
 have this:(dvT l.length x.1)[a]=[spT t (o.idxOf a)]:=this
 show PV.data (yhJ (dvT l.length x.1)[a])=PV.data (rsp (rsL (dvT l.length x.1)[a]))
 rw [this,yJj]
 rfl
theorem TW.share {x o t k L D} (hd:DK l) (h:TW l x o t k L D) {j:Nat} (hj:j<l.length) :
  shN l (o.getD j 0)≤vXA l (o.getD j 0) (t (j+1))-vXA l (o.getD j 0) (t j)∧(j+1<l.length→vXA l (o.getD j 0) (t (j+1))-vXA l (o.getD j 0) (t j)=shN l (o.getD j 0)):=by
 have n0:=hd.n0
 by_cases hl:j+1<l.length
 ·have:=h.sh j (by omega)
  rw [this]
  refine ⟨by grind,fun _=>by grind⟩
 ·have e:j=l.length-1:=by omega
  have:=h.last
  rw [e]
  refine ⟨by grind,fun hh=>by omega⟩
end
set_option maxRecDepth 100000
def thr8:List Ck:=[⟨6,[0,6],[1]⟩,⟨6,[0,4,6],[1,4]⟩,⟨6,[0,2,6],[2,0]⟩]
def tnT (x:Tn):Nat×Rat×Rat×Nat:=(x.a,x.f,x.t,x.k)
def ofT (x:Nat×Rat×Rat×Nat):Tn:=⟨x.1,x.2.1,x.2.2.1,x.2.2.2⟩
def yL7 (e:Except Int (List Tn×List Qy)):Bool:=match e with
 | .ok (ts,lg)=>decide (ts.map tnT=[(2,0,mkRat 2 3,1),(0,mkRat 2 3,mkRat 8 3,0),(1,mkRat 8 3,6,0)])&&decide (lg.length=6)
 | .error _=>false
theorem yNm:yL7 (tRun thr8)=true:=by decide +kernel
theorem yL8:finC thr8:=by
 intro i hi
 have h:i<3:=hi
 rcases i with _ | _ | _ | i
 ·exact ⟨by decide,by decide⟩
 ·exact ⟨by decide,by decide⟩
 ·exact ⟨by decide,by decide⟩
 ·omega
theorem yOB (K:List PV→Prop):yp8 K=K (cks thr8):=rfl
theorem lit8:([(.agg [(.int .i64 (2:Int)),(.int .i64 (0:Int)),(.int .i64 (1:Int)),(.int .i64 (2:Int)),(.int .i64 (3:Int)),(.int .i64 (1:Int))]),(.agg [(.int .i64 (0:Int)),(.int .i64 (2:Int)),(.int .i64 (3:Int)),(.int .i64 (8:Int)),(.int .i64 (3:Int)),(.int .i64 (0:Int))]),(.agg [(.int .i64 (1:Int)),(.int .i64 (8:Int)),(.int .i64 (3:Int)),(.int .i64 (6:Int)),(.int .i64 (1:Int)),(.int .i64 (0:Int))])]:List PV)=tns ([(2,0,mkRat 2 3,1),(0,mkRat 2 3,mkRat 8 3,0),(1,mkRat 8 3,6,0)].map ofT):=by kernel_rfl
theorem rOf1 (n:Int) (K:Int→Int→Prop):yzw n K=K n 1:=rfl
theorem yCA (K:Bool→Prop):yiU K=K true:=by
 have h3:=yNm
 cases e:tRun thr8 with
 | error x=>rw [e] at h3;cases h3
 | ok t =>
  obtain ⟨ts,lg⟩:=t
  rw [e] at h3
  simp only [yL7,qAd,decide_eq_true_eq] at h3
  obtain ⟨hts,hlg⟩:=h3
  have e1:ts=(ts.map tnT).map ofT:=by rw [List.map_map];exact (List.map_id ts).symm
  rw [hts] at e1
  unfold yiU yn5
  dsimp only [Go.Pf.jn]
  rw [yOB,yJg yL8 (by decide),e]
  dsimp only
  rw [yCy,rOf1,rOf1,ceT rfl,lit8,e1,yAi (by decide),yam,yeQ,hlg,ceT (show ((6:Nat):Int)=6 from rfl),ceT (show (bndV 3).2=0 from rfl),show (bndV 3).1=8 from rfl]
  rfl
theorem yNn {l:List Ck} (hl:l.length≤9223372036854775807) (K:Bool→Prop):yqG (cks l) K=K (!ytb l&&decide (yfW l 0=0)):=by
 unfold yqG ys9
 dsimp only [Go.Pf.jn]
 rw [yBn hl]
 cases hg:ytb l with
 | true=>rfl
 | false =>
  obtain ⟨g1,g2,g3⟩:=yz0 hg
  rw [show (!false)=true from rfl,yam,yJ4 g3 (by omega)]
  rfl
theorem yNo {n m:Nat} (h1:1≤n) (h6:n≤6) (h:m+1≤n*n):(bndV (n:Int)).2=0∧¬((m:Int)>(bndV (n:Int)).1):=by
 obtain rfl | rfl | rfl | rfl | rfl | rfl:n=1∨n=2∨n=3∨n=4∨n=5∨n=6:=by omega
 ·exact ⟨rfl,fun k=>by have:(m:Int)>0:=k;omega⟩
 ·exact ⟨rfl,fun k=>by have:(m:Int)>3:=k;omega⟩
 ·exact ⟨rfl,fun k=>by have:(m:Int)>8:=k;omega⟩
 ·exact ⟨rfl,fun k=>by have:(m:Int)>15:=k;omega⟩
 ·exact ⟨rfl,fun k=>by have:(m:Int)>24:=k;omega⟩
 ·exact ⟨rfl,fun k=>by have:(m:Int)>35:=k;omega⟩
theorem yGs {l:List Ck} (hl:l.length≤9223372036854775807):yhH (cks l) (fun b=>b=true):=by
 unfold yhH yje
 rw [yNn hl]
 by_cases hf:(!ytb l&&decide (yfW l 0=0))=true
 case neg =>
  rw [show (!ytb l&&decide (yfW l 0=0))=false by simpa using hf]
  show yiU _
  rw [yCA]
 rw [hf,show (!true)=false from rfl,yae]
 simp only [qAd,qA2,decide_eq_true_eq] at hf
 obtain ⟨hg,hz⟩:=hf
 obtain ⟨g1,g2,g3⟩:=yz0 hg
 have hd:=(ykF hz).1
 have n0:=hd.n0;have n6:=hd.n6
 obtain ⟨x,o,t,k,L,D',he,hD,h⟩:=yL6 hd
 have L0:=TW.LD hd h
 have dv:=L0.DV
 have hp:=TW.pieces hd h
 obtain ⟨qs,q1,q2,q3⟩:=h.log
 rw [qBl] at q1
 obtain ⟨k1,k2,k3,k4⟩:=dv.good (D:=D') hD (L0.InA fun j hj=>h.inD j (by omega))
 have hsh:∀ a,a<l.length→yte l a≤wV (l.getD a default) (((dvT l.length x.1).map rsL).getD a []):=fun a ha=>by
  obtain ⟨m1,m2⟩:=TW.at n0 h ha
  have:=(TW.share hd h m1).1
  rw [m2] at this
  rw [L0.wV _ ha]
  exact this
 rw [show l.length-1+1=l.length by omega] at q3
 obtain ⟨b1,b2⟩:=yNo n0 n6 q3
 have hq2000:x.2.length≤2000:=by
  rw [q1]
  have:l.length*l.length≤6*6:=Nat.mul_le_mul n6 n6
  omega
 rw [yJg g3 (by omega),he]
 obtain ⟨ts,lg⟩:=x
 dsimp only at q1 hp hsh L0 dv k1 k2 k3 k4 hq2000 ⊢
 rw [yCy,yKk hd hq2000 (by rw [q1];exact q2),hp,k4,yNV,cnF rfl,yaX,b1,cnF rfl,cnF rfl,yeQ,cnF rfl]
 rw [cbF (by rw [q1];exact b2)]
 show cbr (0 != 0) _ _
 rw [cnF rfl]
 rw [dv.Accept19 k1 k2 L0.none L0.nogap hsh L0.one,yNV,ceT rfl,yam,yCA]
end Go.Pf.Vc
