/- Part 2. -/
import Derived.Test.YtlccifogaejlnaaEbW1
open Go.IntKind (i64 u8 u64)
open List (length getD take drop replicate set map isEmpty)
namespace Go.Pf
open Go
section
variable {E:Env} {F F':aG} {H H' H1:Hp} {call:Nat→List PV→Hp→Option (PV×Hp)}
theorem yD4 {op:AOp} {out:Out} {s off:Nat} (h:yae E call F H op=some out) (hb:out.x=some (.bp s off)):(∃ row,fget F s=some (.box row))∨noBp F s=false:=by
 have hv:∀ {p:PV} {H},outV p H=some out→False:=fun e=>by rw [tC e] at hb;cases hb
 cases op<;>simp only [yae] at h
 case fad o x=>
  split at h
  ·rename_i s' o' e
   cases h
   simp only [cP,FV.bp.injEq] at hb;obtain ⟨rfl,_⟩:=hb;exact OR e
  all_goals first | exact (hv h).elim | cases h
 case iadA n esz x i=>
  split at h
  ·rename_i s' o' j e _;split at h
   ·cases h
    simp only [cP,FV.bp.injEq] at hb;obtain ⟨rfl,_⟩:=hb;exact OR e
   ·cases h
  all_goals (repeat' split at h)
  all_goals first | exact (hv h).elim | cases h
 case nilchk x=>
  split at h
  ·rename_i s' o' e
   cases h
   simp only [cP,FV.bp.injEq] at hb;obtain ⟨rfl,_⟩:=hb;exact OR e
  all_goals first | exact (hv h).elim | cases h
 all_goals (repeat' split at h)
 all_goals first | (cases h;done) | exact (hv h).elim | (cases h;cases hb;done)
theorem gr {o:AO} {out:Out} {row:PV} (h:yae E call F H o.op=some out) (hb:out.x=some (.box row)):ynf o=o.dst∧out.bx=none:=by
 have hv:∀ {p:PV} {H},outV p H=some out→False:=fun e=>by rw [tC e] at hb;cases hb
 unfold ynf
 cases hop:o.op<;>rw [hop] at h<;>simp only [yae] at h
 case allocL z=>cases h;exact ⟨rfl,rfl⟩
 case boxL x=>
  split at h
  ·split at h
   ·cases h;exact ⟨rfl,rfl⟩
   ·cases h
  ·cases h
 all_goals (repeat' split at h)
 all_goals first | (cases h;done) | exact (hv h).elim | (cases h;cases hb;done)
end
end Go.Pf
namespace Go.Pf
open Go Go.RowKit
section
variable {g:Gh} {H:Hp} {w:World}
mutual
theorem Lp:∀ (x:PV) (v:Value),VR g H w x v→ybd (fun _=>true) (fun id=>Nat.blt id H.length) x=true
 | .bool _,_,_ | .int _ _,_,_ | .nilp,_,_ | .nils,_,_ | .emp,_,_ | .mt _,_,_ | .nilf,_,_ | .eptr _ _ _,_,_ | .data _,_,_=>rfl
 | .ptr id ext i off,v,h=>by simp only [VR] at h;obtain ⟨hb,a,e,h⟩:=h;exact Bn (rA.1 e).1
 | .own id lo len ext cap,v,h=>by simp only [VR] at h;obtain ⟨hb,a,c,e,h⟩:=h;exact Bn (rA.1 e).1
 | .sub id ext i off n _,v,h=>by simp only [VR] at h;obtain ⟨a0,⟨hb,a,e,h⟩,h2⟩:=h;exact Bn (rA.1 e).1
 | .fn f a b,v,h=>by simp only [VR] at h;obtain ⟨as,bs,e,h1,h2,h3⟩:=h;simp only [ybd,Lq a as h1,Lq b bs h2,xU]
 | .agg cs,v,h=>by simp only [VR] at h;obtain ⟨vs,e,h1⟩:=h;simp only [ybd,OS cs vs h1]
 | .tup ps,v,h=>by simp only [VR] at h;obtain ⟨vs,e,h1⟩:=h;simp only [ybd,Lq ps vs h1]
theorem Lq:∀ (l:List PV) (vs:List Value),bQ g H w l vs→yaH (fun _=>true) (fun id=>Nat.blt id H.length) l=true
 | [],_,_=>rfl
 | x::r,vs,h=>by simp only [bQ] at h;obtain ⟨v,vr,e,h1,h2⟩:=h;simp only [yaH,Lp x v h1,Lq r vr h2,xU]
theorem OS:∀ (l:List PV) (vs:List Value),bX g H w l vs→yaH (fun _=>true) (fun id=>Nat.blt id H.length) l=true
 | [],_,_=>rfl
 | x::r,vs,h=>by simp only [bX] at h;obtain ⟨v,vr,e,o,h1,h2⟩:=h;simp only [yaH,Lp x v h1,OS r vr h2,xU]
end
theorem Yw:∀ (x:PV) (vs:List Value),bJ g H w x vs→ybd (fun _=>true) (fun id=>Nat.blt id H.length) x=true:=by
 intro x vs h
 cases x<;>simp only [bJ] at h<;>first
  | (simp only [ybd];exact OS _ _ h)
  | (obtain ⟨o,v,e,h1⟩:=h;exact Lp _ _ h1)
theorem Yx (esz b:Nat):∀ (l:List PV) (o:Nat),fK g H w l esz b o→yaH (fun _=>true) (fun id=>Nat.blt id H.length) l=true
 | [],_,_=>rfl
 | x::r,o,h=>by simp only [fK] at h;obtain ⟨⟨vs,hl,h1,h2⟩,h3⟩:=h;simp only [yaH,Yw x vs h1,Yx esz b r (o+esz) h3,xU]
def Gh.wr (g:Gh) (r:Nat→Option (Nat×Nat)):Gh:={ g with ρ:=r }
variable {I:Nat→Bool} {r:Nat→Option (Nat×Nat)}
mutual
theorem Lt (hI:∀ id,I id=true→r id=g.ρ id):∀ (x:PV) (v:Value),ybd (fun _=>true) I x=true→VR g H w x v→VR (g.wr r) H w x v
 | .bool b,v,_,h=>by simpa only [VR] using h
 | .int q m,v,_,h=>by simpa only [VR] using h
 | .nilp,v,_,h=>by simpa only [VR] using h
 | .nils,v,_,h=>by simpa only [VR] using h
 | .emp,v,_,h=>by simpa only [VR] using h
 | .mt _,v,_,h=>by simpa only [VR] using h
 | .nilf,v,_,h=>by simpa only [VR] using h
 | .ptr id ext i off,v,hc,h=>by simp only [ybd] at hc;simp only [VR,PtrR,Gh.wr,hI id hc] at h ⊢;exact h
 | .eptr rows i off,v,_,h=>by simp only [VR] at h ⊢;exact h
 | .data rows,v,_,h=>by simp only [VR] at h ⊢;exact h
 | .sub id ext i off n _,v,hc,h=>by simp only [ybd] at hc;simp only [VR,PtrR,Gh.wr,hI id hc] at h ⊢;exact h
 | .own id lo len ext cap,v,hc,h=>by simp only [ybd] at hc;simp only [VR,rG,Gh.wr,hI id hc] at h ⊢;exact h
 | .fn f a b,v,hc,h=>by
  simp only [ybd,cU] at hc;simp only [VR] at h ⊢;obtain ⟨as,bs,e,h1,h2,h3⟩:=h;refine ⟨as,bs,?_,Lu hI a as hc.2.1 h1,Lu hI b bs hc.2.2 h2,?_⟩
  ·cases f<;>exact e
  ·cases f<;>exact h3
 | .agg cs,v,hc,h=>by simp only [ybd] at hc;simp only [VR] at h ⊢;obtain ⟨vs,e,h1⟩:=h;exact ⟨vs,e,OT hI cs vs hc h1⟩
 | .tup ps,v,hc,h=>by simp only [ybd] at hc;simp only [VR] at h ⊢;obtain ⟨vs,e,h1⟩:=h;exact ⟨vs,e,Lu hI ps vs hc h1⟩
theorem Lu (hI:∀ id,I id=true→r id=g.ρ id):∀ (l:List PV) (vs:List Value),yaH (fun _=>true) I l=true→bQ g H w l vs→bQ (g.wr r) H w l vs
 | [],vs,_,h=>by simpa only [bQ] using h
 | x::l,vs,hc,h=>by simp only [yaH,cU] at hc;simp only [bQ] at h ⊢;obtain ⟨v,vr,e,h1,h2⟩:=h;exact ⟨v,vr,e,Lt hI x v hc.1 h1,Lu hI l vr hc.2 h2⟩
theorem OT (hI:∀ id,I id=true→r id=g.ρ id):∀ (l:List PV) (vs:List Value),yaH (fun _=>true) I l=true→bX g H w l vs→bX (g.wr r) H w l vs
 | [],vs,_,h=>by simpa only [bX] using h
 | x::l,vs,hc,h=>by simp only [yaH,cU] at hc;simp only [bX] at h ⊢;obtain ⟨v,vr,e,o,h1,h2⟩:=h;exact ⟨v,vr,e,o,Lt hI x v hc.1 h1,OT hI l vr hc.2 h2⟩
end
theorem Yy (hI:∀ id,I id=true→r id=g.ρ id):∀ (x:PV) (vs:List Value),ybd (fun _=>true) I x=true→bJ g H w x vs→bJ (g.wr r) H w x vs:=by
 intro x vs hc h
 cases x<;>simp only [bJ] at h ⊢ <;> first
  | (simp only [ybd] at hc;exact OT hI _ _ hc h)
  | (obtain ⟨o,v,e,h1⟩:=h;exact ⟨o,v,e,Lt hI _ _ hc h1⟩)
theorem Yz (hI:∀ id,I id=true→r id=g.ρ id) (esz b:Nat):∀ (l:List PV) (o:Nat),yaH (fun _=>true) I l=true→fK g H w l esz b o→fK (g.wr r) H w l esz b o
 | [],_,_,_=>by simp only [fK]
 | x::l,o,hc,h=>by simp only [yaH,cU] at hc;simp only [fK] at h ⊢;obtain ⟨⟨vs,hl,h1,h2⟩,h3⟩:=h;exact ⟨⟨vs,hl,Yy hI x vs hc.1 h1,h2⟩,Yz hI esz b l (o+esz) hc.2 h3⟩
end
def sw (n id:Nat):Nat:=if id=n then n+1 else if id=n+1 then n else id
theorem YA {n id:Nat} (h:id<n):sw n id=id:=by unfold sw;rw [WO (by omega),WO (by omega)]
theorem Ia (n:Nat):sw n n=n+1:=WN rfl
theorem Ib (n:Nat):sw n (n+1)=n:=by unfold sw;rw [WO (by omega),WN rfl]
theorem YB (n id:Nat):sw n (sw n id)=id:=by
 unfold sw
 by_cases a:id=n
 ·rw [WN a,WO (by omega),WN rfl];exact a.symm
 ·by_cases b:id=n+1
  ·rw [WO a,WN b,WN rfl];exact b.symm
  ·rw [WO a,WO b,WO a,WO b]
def Gh.swp (g:Gh) (n:Nat):Gh:=g.wr fun id=>g.ρ (sw n id)
def YC (n:Nat):FV→Prop
 | .v p=>ybd (fun _=>true) (fun id=>Nat.blt id n) p=true
 | .box p=>ybd (fun _=>true) (fun id=>Nat.blt id n) p=true
 | .bp _ _=>True
theorem gu {g:Gh} {H:Hp} {w:World} {tmps:Array Value} {s:Nat}:∀ {fv:FV},cO g H w tmps s fv→YC H.length fv
 | .v _,h=>Lp _ _ h
 | .box _,h=>by simp only [cO] at h;obtain ⟨b,_,_,_,cur,T,_,h⟩:=h;exact Yw _ _ h
 | .bp _ _,_=>trivial
section
variable {E:Env} {nt n:Nat} {g g0:Gh} {F2 F':aG} {H H2:Hp} {Z:HB} {tm:Array Value} {w w0:World}
theorem Rel.swap (hH:H2=H++[Z,Z]) (hn:H.length=n) (hZ:∀ I,yaH (fun _=>true) I Z.rows=true) (hrows:∀ (id:Nat) (hb:HB),H[id]?=some hb→yaH (fun _=>true) (fun id=>Nat.blt id n) hb.rows=true)
  (h:Rel E nt g F2 H2 tm w)
  (hF:∀ s fv,fget F' s=some fv→(fget F2 s=some fv∧YC n fv)∨(∃ lo len ext cap,fv=.v (.own n lo len ext cap)∧fget F2 s=some (.v (.own (n+1) lo len ext cap)))∨(∃ lo len ext cap,fv=.v (.own (n+1) lo len ext cap)∧fget F2 s=some (.v (.own n lo len ext cap)))):Rel E nt (g.swp n) F' H2 tm w:=by
 have hI:∀ id,(fun id=>Nat.blt id n) id=true→(fun id=>g.ρ (sw n id)) id=g.ρ id:=fun id hid=>by
  show g.ρ (sw n id)=_;rw [YA (Le hid)]
 have hlen:H2.length=n+2:=by rw [hH,lU,hn];rfl
 have old:∀ id,id<n→H2[id]?=H[id]?:=fun id hid=>by rw [hH,EL (by omega)]
 have z0:H2[n]?=some Z:=by rw [hH,Hz (by omega),hn,Nat.sub_self];rfl
 have z1:H2[n+1]?=some Z:=by rw [hH,Hz (by omega),hn,show n+1-n=1 by omega];rfl
 have hs:∀ id,H2[sw n id]?=H2[id]?:=fun id=>by
  by_cases a:id=n
  ·subst a;rw [Ia,z0,z1]
  ·by_cases b:id=n+1
   ·subst b;rw [Ib,z0,z1]
   ·unfold sw;rw [WO a,WO b]
 refine ⟨h.size,fun s fv e=>?_,fun id hb e=>?_,fun id id' hb b o b' o' e hf hne h1 h2=>?_,fun id b o e=>?_,h.bdist,fun s b id o h1 h2=>h.brho s b _ o h1 h2,h.bimm,h.imm,h.glob⟩
 ·rcases hF s fv e with ⟨h1,h2⟩ | ⟨lo,len,ext,cap,rfl,h1⟩ | ⟨lo,len,ext,cap,rfl,h1⟩
  ·have hk:=h.frame s fv h1
   cases fv with
   | v p=>exact Lt hI p _ h2 hk
   | box row =>simp only [cO] at hk ⊢;obtain ⟨b,k1,k2,k3,cur,T,k4,k5⟩:=hk;exact ⟨b,k1,k2,k3,cur,T,k4,Yy hI row _ h2 k5⟩
   | bp s' off=>exact hk
  ·have hk:=h.frame s _ h1;simp only [cO,VR] at hk ⊢;obtain ⟨hb,a,c,k1,k2,k3,k4,k5,k6,k7⟩:=hk;refine ⟨hb,a,c,by rw [z0];rw [z1] at k1;exact k1,k2,k3,k4,k5,k6,fun hx=>?_⟩;obtain ⟨b,o,m1,m2⟩:=k7 hx;exact ⟨b,o,by show g.ρ (sw n n)=_;rw [Ia];exact m1,m2⟩
  ·have hk:=h.frame s _ h1;simp only [cO,VR] at hk ⊢;obtain ⟨hb,a,c,k1,k2,k3,k4,k5,k6,k7⟩:=hk;refine ⟨hb,a,c,by rw [z1];rw [z0] at k1;exact k1,k2,k3,k4,k5,k6,fun hx=>?_⟩;obtain ⟨b,o,m1,m2⟩:=k7 hx;exact ⟨b,o,by show g.ρ (sw n (n+1))=_;rw [Ib];exact m1,m2⟩
 ·obtain ⟨b,o,hk⟩:=h.heap (sw n id) hb (by rw [hs];exact e);have hrow:yaH (fun _=>true) (fun id=>Nat.blt id n) hb.rows=true:=by
   rcases qA2 id n with hid|hid
   ·rw [old id hid] at e;exact hrows id hb e
   ·have:id<n+2:=by rw [← hlen];exact (rA.1 e).1
    have hz:H2[id]?=some Z:=by
     obtain rfl|rfl:id=n∨id=n+1:=by omega
     ·exact z0
     ·exact z1
    rw [hz] at e
    cases e
    exact hZ _
  exact ⟨b,o,hk.at_,hk.esz,hk.cells,Yz hI _ _ _ _ hrow hk.rows,hk.pure,hk.fz,hk.live⟩
 ·exact h.dist (sw n id) (sw n id') hb b o b' o' (by rw [hs];exact e) hf (fun k=>hne (by rw [← YB n id,k,YB])) h1 h2
 ·have:=h.rsome (sw n id) b o e;rw [hlen] at this ⊢
  by_cases a:id=n
  ·omega
  ·by_cases b:id=n+1
   ·omega
   ·unfold sw at this;rw [WO a,WO b] at this;exact this
theorem Nx.swap (hn:H.length=n) (h:Nx g0 g H H2 w0 w):Nx g0 (g.swp n) H H2 w0 w:=by
 have hr:∀ b,RngR (g.swp n) b→RngR g b:=fun b ⟨id,o,e⟩=>⟨sw n id,o,e⟩
 refine ⟨h.os,h.tape,h.output,h.drawn,h.size,h.kept,fun b hb k=>h.rng b hb (hr b k),fun b hb k=>h.immb b hb k,fun b hb k=>h.bet b hb k,⟨h.on.keeps,fun id hb e=>?_,h.on.shape,h.on.lam⟩⟩;obtain ⟨hb',k1,k2,k3,k4⟩:=h.on.hext id hb e;refine ⟨hb',k1,k2,k3,k4.imp (fun x=>x) fun ⟨x,y⟩=>⟨x,?_⟩⟩;show g.ρ (sw n id)=_;rw [YA (by rw [← hn];exact (rA.1 e).1)];exact y
end
theorem OU:∀ {l:List Nat},pF l=true→l.Nodup
 | [],_=>List.nodup_nil
 | x::r,h=>by simp only [pF,cU,pD,List.elem_eq_mem,decide_eq_false_iff_not] at h;exact CB.2 ⟨h.1,OU h.2⟩
theorem gv {l:List AO} {pairs:List (Nat×Nat)} (h:Fe l pairs=true):(pairs=KB∨pairs=Fd)∧∃ s t0 t1 t2 t3 d0 d1 esz by_ pu k z,l=CG s t0 t1 t2 t3 d0 d1 esz by_ pu k z∧pF [s,t0,t1,t2,t3,d0,d1]=true:=by
 unfold Fe at h;split at h
 ·rename_i t0 s t1 pu esz by_ k z a0 b0 t2 s2 t3 pu2 esz2 by2 k2 z2 a2 b2 d0 a1 d1 a3;simp only [cU,sR,beq_iff_eq,decide_eq_true_eq] at h;obtain ⟨hp,hd,rfl,rfl,rfl,rfl,rfl,rfl,rfl,rfl,rfl,rfl,rfl,rfl⟩:=h;exact ⟨hp,_,_,_,_,_,_,_,_,_,_,_,_,rfl,hd⟩
 ·cases h
theorem gw {pairs:List (Nat×Nat)} (h:pairs=KB∨pairs=Fd):∀ x∈pairs,x∈Fd:=by
 rcases h with rfl|rfl
 ·decide
 ·exact fun _ h=>h
def Ic (i j:Nat):Bool:=Fd.elem (i,j)
def uF:Nat→List Nat→List (List Nat)
 | 0,_=>[[]]
 | n+1,done=>((List.range 6).filter fun j=>!done.elem j&&(List.range 6).all fun i=>!decide (i<j)||(Ic i j||done.elem i)).flatMap fun j=>(uF n (done++[j])).map (j::·)
def yF:List (List Nat):=[[0,1,2,3,4,5],[0,1,2,4,3,5],[0,1,4,2,3,5],[0,2,1,3,4,5],[0,2,1,4,3,5],[0,2,3,1,4,5],[2,0,1,3,4,5],[2,0,1,4,3,5],[2,0,3,1,4,5],[2,3,0,1,4,5]]
theorem gx:uF 6 []=yF:=by decide +kernel
theorem YD:∀ (τ done:List Nat),(done++τ).Nodup→(∀ i∈τ,i<6)→(∀ a j b,τ=a++j::b→∀ i,i<j→Ic i j=false→i∈done++a)→τ∈uF τ.length done
 | [],_,_,_,_=>by simp [uF]
 | x::r,done,hn,hm,ho=>by
  have ih:=YD r (done++[x]) (by simpa using hn) (fun i hi=>hm i (iY _ hi)) (fun a j b e i hij hf=>by
   have:=ho (x::a) j b (by rw [e];rfl) i hij hf;simpa using this)
  show x::r∈(((List.range 6).filter fun j=>!done.elem j&&(List.range 6).all fun i=>!decide (i<j)||(Ic i j||done.elem i)).flatMap fun j=>(uF r.length (done++[j])).map (j::·));rw [List.mem_flatMap];refine ⟨x,List.mem_filter.2 ⟨CC.2 (hm x (jU ..)),?_⟩,List.mem_map.2 ⟨r,ih,rfl⟩⟩;rw [cU];refine ⟨?_,vS.2 fun i _=>?_⟩
  ·have:x∉done:=fun k=>by
    rw [List.nodup_append] at hn;exact hn.2.2 x k x (jU ..) rfl
   simpa using this
  ·by_cases c:i<x
   ·cases hf:Ic i x with
    | true=>simp
    | false =>have:=ho [] x r rfl i c hf;rw [List.append_nil] at this;simp [this]
   ·simp [c]
section
variable {E:Env} {call:Nat→List PV→Hp→Option (PV×Hp)} {F:aG} {H:Hp}
theorem eW {t s:Nat} {p:PV} (h:fget F s=some (.v p)):yda E call F H ⟨some t,.mv (.t s),none⟩=some (aS F t (.v p),H):=by
 have e:evV E F (.t s)=some p:=by simp only [evV,ev,h]
 simp only [yda,ybN,yae,e,outV,kO,ycE,Option.map]
theorem gy {t s:Nat} {pu:Bool} {esz by_:Nat} {z:PV} {q:IntKind} {n:Int} (h:fget F s=some (.v (.int q n))) (c:0≤n∧(n.toNat+64)*(by_+1)≤room) :
  yda E call F H ⟨some t,.mkSl pu esz by_ z (.t s) (.t s),none⟩=some (aS F t (.v (.own H.length 0 n.toNat n.toNat (some n.toNat))),H++[⟨false,pu,esz,replicate n.toNat z⟩]):=by
 have e:yc9 E F (.t s)=some n:=by simp only [yc9,evV,ev,h]
 simp only [yda,ybN,yae,e,outV,kO,ycE,Option.map];rw [WN ⟨c.1,Int.le_refl _,c.2⟩]
theorem ia {s t0 t1 t2 t3 d0 d1 esz by_:Nat} {pu:Bool} {k:IntKind} {z:Int} {F':aG} {H':Hp} (h:yaK E call (CG s t0 t1 t2 t3 d0 d1 esz by_ pu k z) F H=some (F',H')) (hd:pF [s,t0,t1,t2,t3,d0,d1]=true) :
  ∃ q n,fget F s=some (.v (.int q n))∧0≤n∧(n.toNat+64)*(by_+1)≤room:=by
 have hd:=OU hd;simp only [CB,qAs,List.not_mem_nil,or_false,not_or] at hd;unfold CG at h;rw [yaK] at h
 cases e:evV E F (.t s) with
 | none=>simp only [yda,ybN,yae,e] at h;cases h
 | some p=>
  have hs:fget F s=some (.v p):=by
   simp only [evV,ev] at e
   cases g:fget F s with
   | none=>rw [g] at e;cases e
   | some x=>
    rw [g] at e
    cases x with
    | v y=>simp only [cP] at e;rw [e]
    | box _=>cases e
    | bp _ _=>cases e
  rw [eW hs] at h;dsimp only at h;rw [yaK] at h;have h0:fget (aS F t0 (.v p)) t0=some (.v p):=by rw [bO,WN rfl]
  have e1:evV E (aS F t0 (.v p)) (.t t0)=some p:=by simp only [evV,ev,h0]
  cases p with
  | int q n=>
   by_cases c:0≤n∧n≤n∧(n.toNat+64)*(by_+1)≤room
   ·exact ⟨q,n,hs,c.1,c.2.2⟩
   ·simp only [yda,ybN,yae,yc9,e1] at h;rw [WO c] at h
    cases h
  | _=>simp only [yda,ybN,yae,yc9,e1] at h;cases h
theorem yCC {s t0 t1 t2 t3 d0 d1 esz by_:Nat} {pu:Bool} {k:IntKind} {z:Int} {F':aG} {H':Hp} (h:yaK E call (CG s t0 t1 t2 t3 d0 d1 esz by_ pu k z) F H=some (F',H')) (hd:pF [s,t0,t1,t2,t3,d0,d1]=true) {σ:List Nat} (hσ:σ∈yF) :
  (∃ F2,yaK E call (σ.filterMap ((CG s t0 t1 t2 t3 d0 d1 esz by_ pu k z)[·]?)) F H=some (F2,H')∧∀ x,fget F2 x=fget F' x) ∨
  ∃ F2 Z,yaK E call (σ.filterMap ((CG s t0 t1 t2 t3 d0 d1 esz by_ pu k z)[·]?)) F H=some (F2,H')∧H'=H++[Z,Z]∧(∀ I,yaH (fun _=>true) I Z.rows=true) ∧
   ∀ x fv,fget F' x=some fv→(fget F2 x=some fv∧(fget F x=some fv∨∃ q n,fv=.v (.int q n)))∨(∃ lo len ext cap,fv=.v (.own H.length lo len ext cap)∧fget F2 x=some (.v (.own (H.length+1) lo len ext cap)))∨(∃ lo len ext cap,fv=.v (.own (H.length+1) lo len ext cap)∧fget F2 x=some (.v (.own H.length lo len ext cap))):=by
 obtain ⟨q,n,hs,c⟩:=ia h hd;have hd:=OU hd;simp only [CB,qAs,List.not_mem_nil,or_false,not_or] at hd;obtain ⟨⟨a1,a2,a3,a4,a5,a6⟩,⟨b1,b2,b3,b4,b5⟩,⟨c1,c2,c3,c4⟩,⟨e1,e2,e3⟩,⟨f1,f2⟩,g1,_⟩:=hd;have hh:∀ {a b:Nat},¬a=b→¬b=a:=fun x y=>x y.symm
 have a1':=hh a1;have a2':=hh a2;have a3':=hh a3;have a4':=hh a4;have a5':=hh a5;have a6':=hh a6;have b1':=hh b1;have b2':=hh b2;have b3':=hh b3;have b4':=hh b4;have b5':=hh b5;have c1':=hh c1;have c2':=hh c2;have c3':=hh c3;have c4':=hh c4;have e1':=hh e1;have e2':=hh e2;have e3':=hh e3;have f1':=hh f1;have f2':=hh f2;have g1':=hh g1;generalize hZ:(⟨false,pu,esz,replicate n.toNat (.int k z)⟩:HB)=Z;have hZr:∀ I,yaH (fun _=>true) I Z.rows=true:=by
  intro I;rw [← hZ];show yaH _ I (replicate n.toNat (.int k z))=true;generalize n.toNat=m;induction m with
  | zero=>rfl
  | succ m ih=>rw [List.replicate_succ];simp only [yaH,ybd,ih,xU]
 have mk:∀ {G:aG} {J:Hp} {t u:Nat},fget G u=some (.v (.int q n))→yda E call G J ⟨some t,.mkSl pu esz by_ (.int k z) (.t u) (.t u),none⟩=some (aS G t (.v (.own J.length 0 n.toNat n.toNat (some n.toNat))),J++[Z]):=fun hu=>by rw [gy hu c,hZ]
 have hl:(H++[Z]).length=H.length+1:=by rw [lU];rfl
 have stp:∀ (G:aG) (J:Hp) (o:AO) (r:List AO) (G1:aG) (J1:Hp),yda E call G J o=some (G1,J1)→yaK E call (o::r) G J=yaK E call r G1 J1:=fun G J o r G1 J1 e=>by rw [yaK,e]
 have r0:yaK E call [⟨some t0,.mv (.t s),none⟩,⟨some t1,.mkSl pu esz by_ (.int k z) (.t t0) (.t t0),none⟩,⟨some t2,.mv (.t s),none⟩,⟨some t3,.mkSl pu esz by_ (.int k z) (.t t2) (.t t2),none⟩,⟨some d0,.mv (.t t1),none⟩,⟨some d1,.mv (.t t3),none⟩] F H=some ((aS (aS (aS (aS (aS (aS F t0 (.v (.int q n))) t1 (.v (.own H.length 0 n.toNat n.toNat (some n.toNat)))) t2 (.v (.int q n))) t3 (.v (.own (H.length+1) 0 n.toNat n.toNat (some n.toNat)))) d0 (.v (.own H.length 0 n.toNat n.toNat (some n.toNat)))) d1 (.v (.own (H.length+1) 0 n.toNat n.toNat (some n.toNat)))),H++[Z]++[Z]):=by rw [stp _ _ _ _ _ _ (eW (p:=.int q n) (by simp [*]))];rw [stp _ _ _ _ _ _ (mk (by simp [*,bO]))];rw [stp _ _ _ _ _ _ (eW (p:=.int q n) (by simp [*,bO]))];rw [stp _ _ _ _ _ _ (mk (by simp [*,bO]))];rw [stp _ _ _ _ _ _ (eW (p:=.own H.length 0 n.toNat n.toNat (some n.toNat)) (by simp [*,bO]))];rw [stp _ _ _ _ _ _ (eW (p:=.own (H++[Z]).length 0 n.toNat n.toNat (some n.toNat)) (by simp [*,bO]))];simp only [yaK,hl]
 have r1:yaK E call [⟨some t0,.mv (.t s),none⟩,⟨some t1,.mkSl pu esz by_ (.int k z) (.t t0) (.t t0),none⟩,⟨some t2,.mv (.t s),none⟩,⟨some d0,.mv (.t t1),none⟩,⟨some t3,.mkSl pu esz by_ (.int k z) (.t t2) (.t t2),none⟩,⟨some d1,.mv (.t t3),none⟩] F H=some ((aS (aS (aS (aS (aS (aS F t0 (.v (.int q n))) t1 (.v (.own H.length 0 n.toNat n.toNat (some n.toNat)))) t2 (.v (.int q n))) d0 (.v (.own H.length 0 n.toNat n.toNat (some n.toNat)))) t3 (.v (.own (H.length+1) 0 n.toNat n.toNat (some n.toNat)))) d1 (.v (.own (H.length+1) 0 n.toNat n.toNat (some n.toNat)))),H++[Z]++[Z]):=by rw [stp _ _ _ _ _ _ (eW (p:=.int q n) (by simp [*]))];rw [stp _ _ _ _ _ _ (mk (by simp [*,bO]))];rw [stp _ _ _ _ _ _ (eW (p:=.int q n) (by simp [*,bO]))];rw [stp _ _ _ _ _ _ (eW (p:=.own H.length 0 n.toNat n.toNat (some n.toNat)) (by simp [*,bO]))];rw [stp _ _ _ _ _ _ (mk (by simp [*,bO]))];rw [stp _ _ _ _ _ _ (eW (p:=.own (H++[Z]).length 0 n.toNat n.toNat (some n.toNat)) (by simp [*,bO]))];simp only [yaK,hl]
 have r2:yaK E call [⟨some t0,.mv (.t s),none⟩,⟨some t1,.mkSl pu esz by_ (.int k z) (.t t0) (.t t0),none⟩,⟨some d0,.mv (.t t1),none⟩,⟨some t2,.mv (.t s),none⟩,⟨some t3,.mkSl pu esz by_ (.int k z) (.t t2) (.t t2),none⟩,⟨some d1,.mv (.t t3),none⟩] F H=some ((aS (aS (aS (aS (aS (aS F t0 (.v (.int q n))) t1 (.v (.own H.length 0 n.toNat n.toNat (some n.toNat)))) d0 (.v (.own H.length 0 n.toNat n.toNat (some n.toNat)))) t2 (.v (.int q n))) t3 (.v (.own (H.length+1) 0 n.toNat n.toNat (some n.toNat)))) d1 (.v (.own (H.length+1) 0 n.toNat n.toNat (some n.toNat)))),H++[Z]++[Z]):=by rw [stp _ _ _ _ _ _ (eW (p:=.int q n) (by simp [*]))];rw [stp _ _ _ _ _ _ (mk (by simp [*,bO]))];rw [stp _ _ _ _ _ _ (eW (p:=.own H.length 0 n.toNat n.toNat (some n.toNat)) (by simp [*,bO]))];rw [stp _ _ _ _ _ _ (eW (p:=.int q n) (by simp [*,bO]))];rw [stp _ _ _ _ _ _ (mk (by simp [*,bO]))];rw [stp _ _ _ _ _ _ (eW (p:=.own (H++[Z]).length 0 n.toNat n.toNat (some n.toNat)) (by simp [*,bO]))];simp only [yaK,hl]
 have r3:yaK E call [⟨some t0,.mv (.t s),none⟩,⟨some t2,.mv (.t s),none⟩,⟨some t1,.mkSl pu esz by_ (.int k z) (.t t0) (.t t0),none⟩,⟨some t3,.mkSl pu esz by_ (.int k z) (.t t2) (.t t2),none⟩,⟨some d0,.mv (.t t1),none⟩,⟨some d1,.mv (.t t3),none⟩] F H=some ((aS (aS (aS (aS (aS (aS F t0 (.v (.int q n))) t2 (.v (.int q n))) t1 (.v (.own H.length 0 n.toNat n.toNat (some n.toNat)))) t3 (.v (.own (H.length+1) 0 n.toNat n.toNat (some n.toNat)))) d0 (.v (.own H.length 0 n.toNat n.toNat (some n.toNat)))) d1 (.v (.own (H.length+1) 0 n.toNat n.toNat (some n.toNat)))),H++[Z]++[Z]):=by rw [stp _ _ _ _ _ _ (eW (p:=.int q n) (by simp [*]))];rw [stp _ _ _ _ _ _ (eW (p:=.int q n) (by simp [*,bO]))];rw [stp _ _ _ _ _ _ (mk (by simp [*,bO]))];rw [stp _ _ _ _ _ _ (mk (by simp [*,bO]))];rw [stp _ _ _ _ _ _ (eW (p:=.own H.length 0 n.toNat n.toNat (some n.toNat)) (by simp [*,bO]))];rw [stp _ _ _ _ _ _ (eW (p:=.own (H++[Z]).length 0 n.toNat n.toNat (some n.toNat)) (by simp [*,bO]))];simp only [yaK,hl]
 have r4:yaK E call [⟨some t0,.mv (.t s),none⟩,⟨some t2,.mv (.t s),none⟩,⟨some t1,.mkSl pu esz by_ (.int k z) (.t t0) (.t t0),none⟩,⟨some d0,.mv (.t t1),none⟩,⟨some t3,.mkSl pu esz by_ (.int k z) (.t t2) (.t t2),none⟩,⟨some d1,.mv (.t t3),none⟩] F H=some ((aS (aS (aS (aS (aS (aS F t0 (.v (.int q n))) t2 (.v (.int q n))) t1 (.v (.own H.length 0 n.toNat n.toNat (some n.toNat)))) d0 (.v (.own H.length 0 n.toNat n.toNat (some n.toNat)))) t3 (.v (.own (H.length+1) 0 n.toNat n.toNat (some n.toNat)))) d1 (.v (.own (H.length+1) 0 n.toNat n.toNat (some n.toNat)))),H++[Z]++[Z]):=by rw [stp _ _ _ _ _ _ (eW (p:=.int q n) (by simp [*]))];rw [stp _ _ _ _ _ _ (eW (p:=.int q n) (by simp [*,bO]))];rw [stp _ _ _ _ _ _ (mk (by simp [*,bO]))];rw [stp _ _ _ _ _ _ (eW (p:=.own H.length 0 n.toNat n.toNat (some n.toNat)) (by simp [*,bO]))];rw [stp _ _ _ _ _ _ (mk (by simp [*,bO]))];rw [stp _ _ _ _ _ _ (eW (p:=.own (H++[Z]).length 0 n.toNat n.toNat (some n.toNat)) (by simp [*,bO]))];simp only [yaK,hl]
 have r5:yaK E call [⟨some t0,.mv (.t s),none⟩,⟨some t2,.mv (.t s),none⟩,⟨some t3,.mkSl pu esz by_ (.int k z) (.t t2) (.t t2),none⟩,⟨some t1,.mkSl pu esz by_ (.int k z) (.t t0) (.t t0),none⟩,⟨some d0,.mv (.t t1),none⟩,⟨some d1,.mv (.t t3),none⟩] F H=some ((aS (aS (aS (aS (aS (aS F t0 (.v (.int q n))) t2 (.v (.int q n))) t3 (.v (.own H.length 0 n.toNat n.toNat (some n.toNat)))) t1 (.v (.own (H.length+1) 0 n.toNat n.toNat (some n.toNat)))) d0 (.v (.own (H.length+1) 0 n.toNat n.toNat (some n.toNat)))) d1 (.v (.own H.length 0 n.toNat n.toNat (some n.toNat)))),H++[Z]++[Z]):=by rw [stp _ _ _ _ _ _ (eW (p:=.int q n) (by simp [*]))];rw [stp _ _ _ _ _ _ (eW (p:=.int q n) (by simp [*,bO]))];rw [stp _ _ _ _ _ _ (mk (by simp [*,bO]))];rw [stp _ _ _ _ _ _ (mk (by simp [*,bO]))];rw [stp _ _ _ _ _ _ (eW (p:=.own (H++[Z]).length 0 n.toNat n.toNat (some n.toNat)) (by simp [*,bO]))];rw [stp _ _ _ _ _ _ (eW (p:=.own H.length 0 n.toNat n.toNat (some n.toNat)) (by simp [*,bO]))];simp only [yaK,hl]
 have r6:yaK E call [⟨some t2,.mv (.t s),none⟩,⟨some t0,.mv (.t s),none⟩,⟨some t1,.mkSl pu esz by_ (.int k z) (.t t0) (.t t0),none⟩,⟨some t3,.mkSl pu esz by_ (.int k z) (.t t2) (.t t2),none⟩,⟨some d0,.mv (.t t1),none⟩,⟨some d1,.mv (.t t3),none⟩] F H=some ((aS (aS (aS (aS (aS (aS F t2 (.v (.int q n))) t0 (.v (.int q n))) t1 (.v (.own H.length 0 n.toNat n.toNat (some n.toNat)))) t3 (.v (.own (H.length+1) 0 n.toNat n.toNat (some n.toNat)))) d0 (.v (.own H.length 0 n.toNat n.toNat (some n.toNat)))) d1 (.v (.own (H.length+1) 0 n.toNat n.toNat (some n.toNat)))),H++[Z]++[Z]):=by rw [stp _ _ _ _ _ _ (eW (p:=.int q n) (by simp [*]))];rw [stp _ _ _ _ _ _ (eW (p:=.int q n) (by simp [*,bO]))];rw [stp _ _ _ _ _ _ (mk (by simp [*,bO]))];rw [stp _ _ _ _ _ _ (mk (by simp [*,bO]))];rw [stp _ _ _ _ _ _ (eW (p:=.own H.length 0 n.toNat n.toNat (some n.toNat)) (by simp [*,bO]))];rw [stp _ _ _ _ _ _ (eW (p:=.own (H++[Z]).length 0 n.toNat n.toNat (some n.toNat)) (by simp [*,bO]))];simp only [yaK,hl]
 have r7:yaK E call [⟨some t2,.mv (.t s),none⟩,⟨some t0,.mv (.t s),none⟩,⟨some t1,.mkSl pu esz by_ (.int k z) (.t t0) (.t t0),none⟩,⟨some d0,.mv (.t t1),none⟩,⟨some t3,.mkSl pu esz by_ (.int k z) (.t t2) (.t t2),none⟩,⟨some d1,.mv (.t t3),none⟩] F H=some ((aS (aS (aS (aS (aS (aS F t2 (.v (.int q n))) t0 (.v (.int q n))) t1 (.v (.own H.length 0 n.toNat n.toNat (some n.toNat)))) d0 (.v (.own H.length 0 n.toNat n.toNat (some n.toNat)))) t3 (.v (.own (H.length+1) 0 n.toNat n.toNat (some n.toNat)))) d1 (.v (.own (H.length+1) 0 n.toNat n.toNat (some n.toNat)))),H++[Z]++[Z]):=by rw [stp _ _ _ _ _ _ (eW (p:=.int q n) (by simp [*]))];rw [stp _ _ _ _ _ _ (eW (p:=.int q n) (by simp [*,bO]))];rw [stp _ _ _ _ _ _ (mk (by simp [*,bO]))];rw [stp _ _ _ _ _ _ (eW (p:=.own H.length 0 n.toNat n.toNat (some n.toNat)) (by simp [*,bO]))];rw [stp _ _ _ _ _ _ (mk (by simp [*,bO]))];rw [stp _ _ _ _ _ _ (eW (p:=.own (H++[Z]).length 0 n.toNat n.toNat (some n.toNat)) (by simp [*,bO]))];simp only [yaK,hl]
 have r8:yaK E call [⟨some t2,.mv (.t s),none⟩,⟨some t0,.mv (.t s),none⟩,⟨some t3,.mkSl pu esz by_ (.int k z) (.t t2) (.t t2),none⟩,⟨some t1,.mkSl pu esz by_ (.int k z) (.t t0) (.t t0),none⟩,⟨some d0,.mv (.t t1),none⟩,⟨some d1,.mv (.t t3),none⟩] F H=some ((aS (aS (aS (aS (aS (aS F t2 (.v (.int q n))) t0 (.v (.int q n))) t3 (.v (.own H.length 0 n.toNat n.toNat (some n.toNat)))) t1 (.v (.own (H.length+1) 0 n.toNat n.toNat (some n.toNat)))) d0 (.v (.own (H.length+1) 0 n.toNat n.toNat (some n.toNat)))) d1 (.v (.own H.length 0 n.toNat n.toNat (some n.toNat)))),H++[Z]++[Z]):=by rw [stp _ _ _ _ _ _ (eW (p:=.int q n) (by simp [*]))];rw [stp _ _ _ _ _ _ (eW (p:=.int q n) (by simp [*,bO]))];rw [stp _ _ _ _ _ _ (mk (by simp [*,bO]))];rw [stp _ _ _ _ _ _ (mk (by simp [*,bO]))];rw [stp _ _ _ _ _ _ (eW (p:=.own (H++[Z]).length 0 n.toNat n.toNat (some n.toNat)) (by simp [*,bO]))];rw [stp _ _ _ _ _ _ (eW (p:=.own H.length 0 n.toNat n.toNat (some n.toNat)) (by simp [*,bO]))];simp only [yaK,hl]
 have r9:yaK E call [⟨some t2,.mv (.t s),none⟩,⟨some t3,.mkSl pu esz by_ (.int k z) (.t t2) (.t t2),none⟩,⟨some t0,.mv (.t s),none⟩,⟨some t1,.mkSl pu esz by_ (.int k z) (.t t0) (.t t0),none⟩,⟨some d0,.mv (.t t1),none⟩,⟨some d1,.mv (.t t3),none⟩] F H=some ((aS (aS (aS (aS (aS (aS F t2 (.v (.int q n))) t3 (.v (.own H.length 0 n.toNat n.toNat (some n.toNat)))) t0 (.v (.int q n))) t1 (.v (.own (H.length+1) 0 n.toNat n.toNat (some n.toNat)))) d0 (.v (.own (H.length+1) 0 n.toNat n.toNat (some n.toNat)))) d1 (.v (.own H.length 0 n.toNat n.toNat (some n.toNat)))),H++[Z]++[Z]):=by rw [stp _ _ _ _ _ _ (eW (p:=.int q n) (by simp [*]))];rw [stp _ _ _ _ _ _ (mk (by simp [*,bO]))];rw [stp _ _ _ _ _ _ (eW (p:=.int q n) (by simp [*,bO]))];rw [stp _ _ _ _ _ _ (mk (by simp [*,bO]))];rw [stp _ _ _ _ _ _ (eW (p:=.own (H++[Z]).length 0 n.toNat n.toNat (some n.toNat)) (by simp [*,bO]))];rw [stp _ _ _ _ _ _ (eW (p:=.own H.length 0 n.toNat n.toNat (some n.toNat)) (by simp [*,bO]))];simp only [yaK,hl]
 have hc:some (F',H')=some ((aS (aS (aS (aS (aS (aS F t0 (.v (.int q n))) t1 (.v (.own H.length 0 n.toNat n.toNat (some n.toNat)))) t2 (.v (.int q n))) t3 (.v (.own (H.length+1) 0 n.toNat n.toNat (some n.toNat)))) d0 (.v (.own H.length 0 n.toNat n.toNat (some n.toNat)))) d1 (.v (.own (H.length+1) 0 n.toNat n.toNat (some n.toNat)))),H++[Z]++[Z]):=h.symm.trans r0;have hF:F'=(aS (aS (aS (aS (aS (aS F t0 (.v (.int q n))) t1 (.v (.own H.length 0 n.toNat n.toNat (some n.toNat)))) t2 (.v (.int q n))) t3 (.v (.own (H.length+1) 0 n.toNat n.toNat (some n.toNat)))) d0 (.v (.own H.length 0 n.toNat n.toNat (some n.toNat)))) d1 (.v (.own (H.length+1) 0 n.toNat n.toNat (some n.toNat)))):=Aaa Prod.fst (AX hc);have hHh:H'=H++[Z]++[Z]:=Aaa Prod.snd (AX hc);have hH2:H'=H++[Z,Z]:=by rw [hHh,xQ];rfl
 simp only [yF,qAs,List.not_mem_nil,or_false] at hσ;rcases hσ with rfl | rfl | rfl | rfl | rfl | rfl | rfl | rfl | rfl | rfl
 ·exact .inl ⟨_,r0.trans (by rw [hHh]),fun x=>by rw [hF]⟩
 ·refine .inl ⟨_,r1.trans (by rw [hHh]),fun x=>?_⟩;rw [hF];simp only [bO];grind
 ·refine .inl ⟨_,r2.trans (by rw [hHh]),fun x=>?_⟩;rw [hF];simp only [bO];grind
 ·refine .inl ⟨_,r3.trans (by rw [hHh]),fun x=>?_⟩;rw [hF];simp only [bO];grind
 ·refine .inl ⟨_,r4.trans (by rw [hHh]),fun x=>?_⟩;rw [hF];simp only [bO];grind
 ·refine .inr ⟨_,Z,r5.trans (by rw [hHh]),hH2,hZr,fun x fv hx=>?_⟩;rw [hF] at hx;simp only [bO] at hx ⊢
  by_cases xd1:x=d1
  ·subst xd1;simp [*] at hx ⊢;subst hx;simp
  by_cases xd0:x=d0
  ·subst xd0;simp [*] at hx ⊢;subst hx;simp
  by_cases xt3:x=t3
  ·subst xt3;simp [*] at hx ⊢;subst hx;simp
  by_cases xt2:x=t2
  ·subst xt2;simp [*] at hx ⊢;subst hx;simp
  by_cases xt1:x=t1
  ·subst xt1;simp [*] at hx ⊢;subst hx;simp
  by_cases xt0:x=t0
  ·subst xt0;simp [*] at hx ⊢;subst hx;simp
  simp [xd1,xd0,xt3,xt2,xt1,xt0] at hx ⊢;exact .inl ⟨hx,.inl hx⟩
 ·refine .inl ⟨_,r6.trans (by rw [hHh]),fun x=>?_⟩;rw [hF];simp only [bO];grind
 ·refine .inl ⟨_,r7.trans (by rw [hHh]),fun x=>?_⟩;rw [hF];simp only [bO];grind
 ·refine .inr ⟨_,Z,r8.trans (by rw [hHh]),hH2,hZr,fun x fv hx=>?_⟩;rw [hF] at hx;simp only [bO] at hx ⊢
  by_cases xd1:x=d1
  ·subst xd1;simp [*] at hx ⊢;subst hx;simp
  by_cases xd0:x=d0
  ·subst xd0;simp [*] at hx ⊢;subst hx;simp
  by_cases xt3:x=t3
  ·subst xt3;simp [*] at hx ⊢;subst hx;simp
  by_cases xt2:x=t2
  ·subst xt2;simp [*] at hx ⊢;subst hx;simp
  by_cases xt1:x=t1
  ·subst xt1;simp [*] at hx ⊢;subst hx;simp
  by_cases xt0:x=t0
  ·subst xt0;simp [*] at hx ⊢;subst hx;simp
  simp [xd1,xd0,xt3,xt2,xt1,xt0] at hx ⊢;exact .inl ⟨hx,.inl hx⟩
 ·refine .inr ⟨_,Z,r9.trans (by rw [hHh]),hH2,hZr,fun x fv hx=>?_⟩;rw [hF] at hx;simp only [bO] at hx ⊢
  by_cases xd1:x=d1
  ·subst xd1;simp [*] at hx ⊢;subst hx;simp
  by_cases xd0:x=d0
  ·subst xd0;simp [*] at hx ⊢;subst hx;simp
  by_cases xt3:x=t3
  ·subst xt3;simp [*] at hx ⊢;subst hx;simp
  by_cases xt2:x=t2
  ·subst xt2;simp [*] at hx ⊢;subst hx;simp
  by_cases xt1:x=t1
  ·subst xt1;simp [*] at hx ⊢;subst hx;simp
  by_cases xt0:x=t0
  ·subst xt0;simp [*] at hx ⊢;subst hx;simp
  simp [xd1,xd0,xt3,xt2,xt1,xt0] at hx ⊢;exact .inl ⟨hx,.inl hx⟩
end
section
variable {E:Env} {F F':aG} {H H' H1:Hp} {call:Nat→List PV→Hp→Option (PV×Hp)}
theorem ie {dst:Option Nat} {x:Option FV} {F1:aG} (h:yfv F dst x=some F1) (hb:∀ row d,x=some (.box row)→dst=some d→noBp F d=true):ycE F dst x=some F1:=by
 cases dst with
 | none=>cases x with
  | none=>exact h
  | some fv=>cases fv<;>exact h
 | some d=>cases x with
  | none=>exact h
  | some fv=>
   cases fv with
   | box row=>simp only [ycE];rw [Z1 _ _ (hb row d rfl rfl)];exact h
   | _=>exact h
inductive Loc where
 | sl (s:Nat)
 | bk (id:Nat)
 | len
inductive LV where
 | f (x:Option FV)
 | b (x:Option HB)
 | n (k:Nat)
def look (S:aG×Hp):Loc→LV
 | .sl s=>.f (fget S.1 s)
 | .bk id=>.b S.2[id]?
 | .len=>.n S.2.length
def RdP (p:FP):Loc→Prop
 | .sl s=>s∈p.rd
 | .bk id=>id∈p.hr∨id∈p.hw∨p.all=true
 | .len=>p.push=true∨p.all=true
def WrP (p:FP):Loc→Prop
 | .sl s=>s∈p.wr
 | .bk id=>id∈p.hw∨p.all=true
 | .len=>p.push=true∨p.all=true
theorem YE {gd:Option (Nat×Bool)} (h:oL (Fa gd) F F'):ybN F' gd=ybN F gd:=by
 cases gd with
 | none=>rfl
 | some x =>obtain ⟨s,want⟩:=x;simp only [ybN,h s (by simp [Fa])]
theorem OV (F:aG) (bx:Option (Nat×PV)) (k:Nat):fget (kO F bx) k=match bx with | some (s,row)=>if k=s then some (.box row) else fget F k | none=>fget F k:=by
 cases bx with
 | none=>rfl
 | some x=>obtain ⟨s,row⟩:=x;simp only [kO,bO]
theorem YF {o:AO} {S1:aG×Hp} (h:ygJ E call o (F,H)=some S1) (S':aG×Hp) (hag:∀ l,RdP (ydV E F H o) l→look S' l=look (F,H) l) :
  ∃ T',ygJ E call o S'=some T'∧(∀ l,WrP (ydV E F H o) l→look T' l=look S1 l)∧(∀ l,¬WrP (ydV E F H o) l→look T' l=look S' l):=by
 obtain ⟨F',H'⟩:=S';have hF:oL (ydV E F H o).rd F F':=fun s hs=>by
  have:=hag (.sl s) hs;simpa [look] using this
 unfold ygJ at h ⊢;simp only [] at h ⊢;unfold ydV at hag hF ⊢;split at h
 ·cases h
 ·-- the guard says no
  rename_i hg;rw [hg] at hag hF ⊢;simp only [] at hag hF ⊢;rw [YE hF,hg];simp only []
  cases hd:o.dst with
  | none=>
   rw [hd] at h
   cases h
   exact ⟨_,rfl,fun l hl=>by cases l<;>simp [WrP] at hl,fun _ _=>rfl⟩
  | some d=>
   rw [hd] at h
   cases h
   refine ⟨_,rfl,fun l hl=>?_,fun l hl=>?_⟩
   ·cases l<;>simp [WrP] at hl
    subst hl;simp [look,bO]
   ·cases l with
    | sl s =>simp [WrP] at hl;simp [look,bO,hl]
    | _=>rfl
 ·rename_i hg;rw [hg] at hag hF ⊢;simp only [] at hag hF ⊢;rw [HY] at hF;rw [YE hF.1,hg];simp only [];split at h
  ·cases h
  ·rename_i out x bx H2 hout;simp only [qG] at h;obtain ⟨F1,hput,e⟩:=h;subst e;have hall:(bC E F H o.op).all=true→H'=H:=fun ha=>rD fun k=>by
    have:=hag (.bk k) (.inr (.inr ha));simpa [look] using this
   have hH:AgH (bC E F H o.op) H H':=by
    refine ⟨fun id hid=>?_,fun hp=>?_,hall⟩
    ·have:=hag (.bk id) (hid.elim .inl fun x=>.inr (.inl x));simpa [look] using this
    ·have:=hag .len (.inl hp);simpa [look] using this
   obtain ⟨H2',h1,h2⟩:=gk hH hout;have h3:yae E call F' H' o.op=some ⟨x,bx,H2'⟩:=by
    rw [fw (F:=F) (H:=H') (by rw [gn o.op H' H];exact hF.2)];exact h1
   rw [h3];simp only [];have hput':∃ F1',yfv (kO F' bx) o.dst x=some F1'∧(∀ s,s∈o.dst.toList++(bC E F H o.op).wr→fget F1' s=fget F1 s)∧(∀ s,s∉o.dst.toList++(bC E F H o.op).wr→fget F1' s=fget F' s):=by
    have hbx:∀ s row,bx=some (s,row)→s∈(bC E F H o.op).wr:=fun s row e=>(Yv hout e).1
    have hin:∀ s,s∈(bC E F H o.op).wr→fget (kO F' bx) s=fget (kO F bx) s:=by
     intro s hs;rw [OV,OV];have:=hF.2 s (gq _ _ hs)
     cases bx with
     | none=>exact this
     | some y=>obtain ⟨s',row⟩:=y;simp only [this]
    have hnin:∀ s,s∉(bC E F H o.op).wr→fget (kO F' bx) s=fget F' s:=by
     intro s hs;rw [OV]
     cases bx with
     | none=>rfl
     | some y=>
      obtain ⟨s',row⟩:=y;simp only [];have hne:¬s=s':=fun e=>hs (e ▸ hbx s' row rfl)
      rw [WO hne]
    cases hdst:o.dst with
    | none=>
     rw [hdst] at hput;have hx:∀ G:aG,yfv G none x=some G:=by
      cases x with
      | none=>intro G;rfl
      | some fv=>cases fv with
       | box row=>simp [yfv] at hput
       | _=>intro G;rfl
     rw [hx] at hput
     cases hput
     refine ⟨_,hx _,fun s hs=>hin s (by simpa using hs),fun s hs=>hnin s (by simpa using hs)⟩
    | some d=>
     rw [hdst] at hput;have key:∀ (G:aG),∃ G1,yfv G (some d) x=some G1∧fget G1 d=x∧∀ s,s≠d→fget G1 s=fget G s:=by
      intro G
      cases x with
      | none=>exact ⟨_,rfl,by simp [Bc],fun s hs=>by simp [Bc,hs]⟩
      | some fv=>exact ⟨_,rfl,by simp [bO],fun s hs=>by simp [bO,hs]⟩
     obtain ⟨G1,k1,k2,k3⟩:=key (kO F bx);rw [k1] at hput
     cases hput
     obtain ⟨G2,k4,k5,k6⟩:=key (kO F' bx);refine ⟨G2,k4,fun s hs=>?_,fun s hs=>?_⟩
     ·by_cases e:s=d
      ·subst e;rw [k2,k5]
      ·rw [k6 s e,k3 s e];simp only [Option.toList_some,qAz,HE,e,false_or] at hs;exact hin s hs
     ·simp only [Option.toList_some,qAz,HE,not_or] at hs;rw [k6 s hs.1];exact hnin s hs.2
   obtain ⟨F1',e1,e2,e3⟩:=hput';rw [e1];refine ⟨(F1',H2'),rfl,fun l hl=>?_,fun l hl=>?_⟩
   ·cases l with
    | sl s=>simp only [WrP] at hl;simp only [look,e2 s hl]
    | bk id=>
     simp only [WrP] at hl;simp only [look];rcases hl with hl | hl
     ·cases ha:(bC E F H o.op).all
      ·rw [h2.inn ha id hl]
      ·rw [h2.all ha]
     ·rw [h2.all hl]
    | len=>
     simp only [WrP] at hl;simp only [look];rcases hl with hl | hl
     ·rw [h2.push hl]
     ·rw [h2.all hl]
   ·cases l with
    | sl s=>simp only [WrP] at hl;simp only [look,e3 s hl]
    | bk id =>simp only [WrP,not_or] at hl;simp only [look];rw [(h2.out (by simpa using hl.2) id hl.1).2]
    | len =>simp only [WrP,not_or] at hl;simp only [look];rw [(h2.len (by simpa using hl.1) (by simpa using hl.2)).2]
theorem ig {f g:Fn} (h:tX f g=true):f=g:=by
 unfold tX at h;split at h
 ·rw [eq_of_beq h]
 ·rw [eq_of_beq h]
 ·exact of_decide_eq_true h
theorem ii (f:Fn):tX f f=true:=by
 cases f<;>simp [tX]
mutual
theorem ij:∀ (x:PV),jX x x=true
 | .bool _ | .int _ _ | .nilp | .nils | .emp | .nilf | .mt _ | .ptr _ _ _ _ | .own _ _ _ _ _ | .sub _ _ _ _ _ _=>by simp [jX]
 | .eptr r _ _=>by simp [jX,Bp r]
 | .data r=>by simp [jX,Bp r]
 | .agg r=>by simp [jX,Bp r]
 | .tup r=>by simp [jX,Bp r]
 | .fn f a b=>by simp [jX,ii f,Bp a,Bp b]
theorem Bp:∀ (x:List PV),iH x x=true
 | []=>rfl
 | x::r=>by simp [iH,ij x,Bp r]
end
theorem ik (b:HB):tY b b=true:=by simp [tY,Bp]
theorem OW:∀ (i:Nat) (H H1:Hp),H1.length=H.length→∀ id,H1[id]?=H[id]?→i+id∉dN i H H1
 | i,[],[],_,id,_=>by simp [dN,tZ]
 | i,a::r,b::s,hl,id,h=>by
  have hl':s.length=r.length:=by simpa using hl
  have hin:∀ (k:Nat) (H H1:Hp) (x:Nat),x∈dN k H H1→k≤x:=by
   intro k H;induction H generalizing k with
   | nil=>
    intro H1;induction H1 generalizing k with
    | nil=>intro x hx;simp [dN,tZ] at hx
    | cons _ s ih=>
     intro x hx;simp only [dN,tZ,qAs] at hx;rcases hx with rfl | hx
     ·exact cQ _
     ·have:=ih (k+1) x hx;omega
   | cons a r ih=>
    intro H1 x hx
    cases H1 with
    | nil=>
     simp only [dN,qAs] at hx;rcases hx with rfl | hx
     ·exact cQ _
     ·have:=ih (k+1) [] x hx;omega
    | cons b s=>
     simp only [dN] at hx;split at hx
     ·have:=ih (k+1) s x hx;omega
     ·simp only [qAs] at hx;rcases hx with rfl | hx
      ·exact cQ _
      ·have:=ih (k+1) s x hx;omega
  cases id with
  | zero =>simp only [HC,cP] at h;subst h;simp only [dN,ik,if_true];intro hm;have:=hin _ _ _ _ hm;omega
  | succ id=>
   have h2:s[id]?=r[id]?:=by simpa using h
   have:=OW (i+1) r s hl' id h2;rw [show i+1+id=i+(id+1) by omega] at this;simp only [dN];split
   ·exact this
   ·simp only [qAs,not_or];exact ⟨by omega,this⟩
 | i,[],_::_,hl,_,_=>by simp at hl
 | i,_::_,[],hl,_,_=>by simp at hl
mutual
theorem il:∀ (x y:PV),jX x y=true→x=y
 | .bool a,y,h=>by cases y<;>simp [jX] at h;rw [h]
 | .int k a,y,h=>by cases y<;>simp [jX] at h;rw [h.1,h.2]
 | .nilp,y,h=>by cases y<;>simp [jX] at h;rfl
 | .nils,y,h=>by cases y<;>simp [jX] at h;rfl
 | .emp,y,h=>by cases y<;>simp [jX] at h;rfl
 | .nilf,y,h=>by cases y<;>simp [jX] at h;rfl
 | .mt a,y,h=>by cases y<;>simp [jX] at h;rw [h]
 | .ptr ..,y,h=>by cases y<;>simp [jX] at h;rw [h.1,h.2.1,h.2.2.1,h.2.2.2]
 | .own ..,y,h=>by cases y<;>simp [jX] at h;rw [h.1,h.2.1,h.2.2.1,h.2.2.2.1,h.2.2.2.2]
 | .sub ..,y,h=>by cases y<;>simp [jX] at h;rw [h.1,h.2.1,h.2.2.1,h.2.2.2.1,h.2.2.2.2.1,h.2.2.2.2.2]
 | .eptr r i o,y,h=>by cases y<;>simp [jX] at h;rw [Bq _ _ h.1,h.2.1,h.2.2]
 | .data a,y,h=>by cases y<;>simp only [jX,iZ] at h;rw [Bq _ _ h]
 | .agg a,y,h=>by cases y<;>simp only [jX,iZ] at h;rw [Bq _ _ h]
 | .tup a,y,h=>by cases y<;>simp only [jX,iZ] at h;rw [Bq _ _ h]
 | .fn f a b,y,h=>by
  cases y with
  | fn f' a' b' =>simp only [jX,cU] at h;rw [ig h.1,Bq _ _ h.2.1,Bq _ _ h.2.2]
  | _=>simp [jX] at h
theorem Bq:∀ (x y:List PV),iH x y=true→x=y
 | [],y,h=>by cases y<;>simp [iH] at h;rfl
 | x::a,y,h=>by
  cases y with
  | nil=>simp [iH] at h
  | cons z b =>simp only [iH,cU] at h;rw [il _ _ h.1,Bq _ _ h.2]
end
theorem im {a b:HB} (h:tY a b=true):a=b:=by obtain ⟨f1,p1,e1,r1⟩:=a;obtain ⟨f2,p2,e2,r2⟩:=b;simp only [tY,cU,beq_iff_eq] at h;obtain ⟨h1,h2,h3,h4⟩:=h;rw [h1,h2,h3,Bq _ _ h4]
theorem Lv:∀ (i:Nat) (H H1:Hp) (id:Nat),i+id∉dN i H H1→H1[id]?=H[id]?
 | _,[],[],id,_=>rfl
 | i,a::r,b::s,id,h=>by
  simp only [dN] at h
  cases id with
  | zero=>
   split at h
   ·rename_i e;simp [im e]
   ·simp at h
  | succ id=>
   have:i+1+id∉dN (i+1) r s:=by
    rw [show i+1+id=i+(id+1) by omega];split at h
    ·exact h
    ·exact fun hm=>h (iY _ hm)
   simpa using Lv (i+1) r s id this
 | i,_::r,[],id,h=>by
  simp only [dN] at h
  cases id with
  | zero=>simp at h
  | succ id=>
   have:i+1+id∉dN (i+1) r []:=by rw [show i+1+id=i+(id+1) by omega];exact fun hm=>h (iY _ hm)
   simpa using Lv (i+1) r [] id this
 | i,[],_::s,id,h=>by
  simp only [dN,tZ] at h
  cases id with
  | zero=>simp at h
  | succ id=>
   have:i+1+id∉dN (i+1) [] s:=by rw [show i+1+id=i+(id+1) by omega];exact fun hm=>h (iY _ hm)
   simpa using Lv (i+1) [] s id this
theorem io {o:AO} {S1:aG×Hp} (h:ygJ E call o (F,H)=some S1) (S':aG×Hp) (hag:∀ l,RdP ((ydV E F H o).tight H S1.2) l→look S' l=look (F,H) l) :
  ∃ T',ygJ E call o S'=some T'∧(∀ l,WrP ((ydV E F H o).tight H S1.2) l→look T' l=look S1 l)∧(∀ l,¬WrP ((ydV E F H o).tight H S1.2) l→look T' l=look S' l):=by
 unfold FP.tight at hag ⊢
 cases ha:(ydV E F H o).all with
 | false =>rw [ha] at hag;simp only [iZ,if_false] at hag ⊢;exact YF h S' hag
 | true=>
  rw [ha] at hag;simp only [if_true] at hag ⊢;have hlen:S'.2.length=H.length:=by
   have:=hag .len (.inl rfl);simpa [look] using this
  have hbk:∀ id:Nat,S'.2[id]?=H[id]?:=by
   intro id
   by_cases hid:id<H.length
   ·have:=hag (.bk id) (.inl (CC.2 hid));simpa [look] using this
   ·rw [kJ (by omega),kJ (by omega)]
  obtain ⟨T',h1,h2,h3⟩:=YF h S' fun l hl=>by
   cases l with
   | sl s=>exact hag (.sl s) hl
   | bk id=>simp [look,hbk id]
   | len=>simp [look,hlen]
  refine ⟨T',h1,fun l hl=>?_,fun l hl=>?_⟩
  ·cases l with
   | sl s=>exact h2 (.sl s) hl
   | bk id=>exact h2 (.bk id) (.inr ha)
   | len=>exact h2 .len (.inr ha)
  ·cases l with
   | sl s=>exact h3 (.sl s) hl
   | bk id=>
    have e1:=h2 (.bk id) (.inr ha);have hn:id∉dN 0 H S1.2:=fun hm=>hl (.inl hm)
    have e2:=Lv 0 H S1.2 id (by rw [lW];exact hn);rw [e1];simp only [look];rw [e2,hbk id]
   | len=>exact absurd (.inl rfl) hl
def stAt (E:Env) (call:Nat→List PV→Hp→Option (PV×Hp)):List AO→Nat→aG×Hp→aG×Hp
 | [],_,S=>S
 | _::_,0,S=>S
 | o::r,i+1,S=>match ygJ E call o S with
  | some S'=>stAt E call r i S'
  | none=>S
theorem YG:∀ (l:List AO) (F:aG) (H:Hp) (F':aG) (H':Hp) (ps:List FP),ykJ E call l F H=some (F',H',ps) →
  ps.length=l.length∧stAt E call l 0 (F,H)=(F,H)∧stAt E call l l.length (F,H)=(F',H') ∧
  ∀ (i:Nat) (o:AO),l[i]?=some o→ygJ E call o (stAt E call l i (F,H))=some (stAt E call l (i+1) (F,H))∧ps[i]?=some ((ydV E (stAt E call l i (F,H)).1 (stAt E call l i (F,H)).2 o).tight (stAt E call l i (F,H)).2 (stAt E call l (i+1) (F,H)).2)
 | [],F,H,F',H',ps,h=>by simp only [ykJ,cP,Prod.mk.injEq] at h;obtain ⟨rfl,rfl,rfl⟩:=h;exact ⟨rfl,rfl,rfl,fun i o e=>by simp at e⟩
 | o::r,F,H,F',H',ps,h=>by
  simp only [ykJ] at h;split at h
  ·rename_i F1 H1 hs;split at h
   ·rename_i F2 H2 ps' hr
    cases h
    obtain ⟨h1,h2,h3,h4⟩:=YG r F1 H1 F' H' ps' hr;have hs':ygJ E call o (F,H)=some (F1,H1):=hs;refine ⟨by simp [h1],rfl,by simp only [kK,stAt,hs'];exact h3,fun i o' e=>?_⟩
    cases i with
    | zero=>
     simp only [HC,cP] at e;subst e;have e0:stAt E call (o::r) 0 (F,H)=(F,H):=rfl;have e1:stAt E call (o::r) (0+1) (F,H)=(F1,H1):=by simp only [stAt,hs'];exact h2
     rw [e0,e1];exact ⟨hs',rfl⟩
    | succ i=>
     simp only [Ky] at e;obtain ⟨h5,h6⟩:=h4 i o' e;have e1:∀ k,stAt E call (o::r) (k+1) (F,H)=stAt E call r k (F1,H1):=fun k=>by simp only [stAt,hs']
     rw [e1,e1];exact ⟨h5,by simpa using h6⟩
   ·cases h
  ·cases h
theorem Br {a b:List Nat} (h:kT a b=false):∀ s∈a,s∉b:=by
 induction a with
 | nil=>intro s hs;simp at hs
 | cons x r ih=>
  simp only [kT,AT] at h;intro s hs;rcases qAs.1 hs with rfl | hs
  ·intro hb;have:=h.1;simp [hb] at this
  ·exact ih h.2 s hs
theorem ip {p q:FP} (h:wE p q=false):∀ l,¬(WrP p l∧(RdP q l∨WrP q l))∧¬(WrP q l∧RdP p l):=by
 simp only [wE,AT] at h;obtain ⟨⟨⟨⟨⟨⟨⟨⟨h1,h2⟩,h3⟩,h4⟩,h5⟩,h6⟩,h7⟩,h8⟩,h9⟩:=h;have heapyP:p.heapy=false↔p.push=false∧p.all=false∧p.hr=[]∧p.hw=[]:=by
  simp [FP.heapy,and_assoc]
 have heapyQ:q.heapy=false↔q.push=false∧q.all=false∧q.hr=[]∧q.hw=[]:=by simp [FP.heapy,and_assoc]
 intro l
 cases l with
 | sl s=>
  refine ⟨fun ⟨a,b⟩=>?_,fun ⟨a,b⟩=>Br h3 s a b⟩;rcases b with b | b
  ·exact Br h1 s a b
  ·exact Br h2 s a b
 | bk id=>
  have pall:p.all=true→q.push=false∧q.all=false∧q.hr=[]∧q.hw=[]:=fun e=>by rw [e] at h4;exact heapyQ.1 (by simpa using h4)
  have qall:q.all=true→p.push=false∧p.all=false∧p.hr=[]∧p.hw=[]:=fun e=>by rw [e] at h5;exact heapyP.1 (by simpa using h5)
  constructor
  ·rintro ⟨a,b⟩;simp only [WrP,RdP] at a b;rcases a with a | a
   ·rcases b with (b | b | b) | (b | b)
    ·exact Br h7 id a b
    ·exact Br h8 id a b
    ·have:=(qall b).2.2.2;rw [this] at a;cases a
    ·exact Br h8 id a b
    ·have:=(qall b).2.2.2;rw [this] at a;cases a
   ·obtain ⟨q1,q2,q3,q4⟩:=pall a;rcases b with (b | b | b) | (b | b)
    ·rw [q3] at b;cases b
    ·rw [q4] at b;cases b
    ·rw [q2] at b;cases b
    ·rw [q4] at b;cases b
    ·rw [q2] at b;cases b
  ·rintro ⟨a,b⟩;simp only [WrP,RdP] at a b;rcases a with a | a
   ·rcases b with b | b | b
    ·exact Br h9 id a b
    ·exact Br h8 id b a
    ·have:=(pall b).2.2.2;rw [this] at a;cases a
   ·obtain ⟨q1,q2,q3,q4⟩:=qall a;rcases b with b | b | b
    ·rw [q3] at b;cases b
    ·rw [q4] at b;cases b
    ·rw [q2] at b;cases b
 | len=>
  have pall:p.all=true→q.push=false∧q.all=false:=fun e=>by rw [e] at h4;have:=heapyQ.1 (by simpa using h4);exact ⟨this.1,this.2.1⟩
  have qall:q.all=true→p.push=false∧p.all=false:=fun e=>by rw [e] at h5;have:=heapyP.1 (by simpa using h5);exact ⟨this.1,this.2.1⟩
  have hpp:p.push=true→q.push=true→False:=fun a b=>by rw [a,b] at h6;cases h6
  have both:WrP p .len→WrP q .len→False:=by
   simp only [WrP];rintro (a | a) (b | b)
   ·exact hpp a b
   ·have:=(qall b).1;rw [a] at this;cases this
   ·have:=(pall a).1;rw [b] at this;cases this
   ·have:=(pall a).2;rw [b] at this;cases this
  exact ⟨fun ⟨a,b⟩=>both a (b.elim id id),fun ⟨a,b⟩=>both b a⟩
theorem YH {ps:List FP}:∀ (pairs:List (Nat×Nat)),yg6 ps pairs=true→∀ i j,(i,j)∈pairs→∃ p q,ps[i]?=some p∧ps[j]?=some q∧wE p q=false
 | [],_,i,j,h=>by simp at h
 | (a,b)::r,h,i,j,hm=>by
  simp only [yg6,cU] at h;rcases qAs.1 hm with e | hm
  ·cases e
   have h1:=h.1;split at h1
   ·rename_i p q hp hq;exact ⟨p,q,hp,hq,by simpa using h1⟩
   ·cases h1
  ·exact YH r h.2 i j hm
theorem Lw {d k:Nat} {x:FV}:∀ (F:aG),noBp F d=true→(∀ off,x≠.bp d off)→noBp (aS F k x) d=true
 | [],_,hx=>by
  cases x with
  | bp s off=>simp only [aS,noBp,Bool.and_true,pD,beq_eq_false_iff_ne];exact fun e=>hx off (by rw [e])
  | _=>simp [aS,noBp]
 | (j,y)::r,h,hx=>by
  have hy:noBp r d=true∧∀ (z:FV),noBp ((j,z)::r) d=(match z with | .bp s _=>!(s==d)&&noBp r d | _=>noBp r d):=by
   refine ⟨?_,fun z=>by cases z<;>rfl⟩
   cases y<;>simp [noBp] at h<;>first | exact h | exact h.2
  have hput:∀ (j:Nat) (r:aG),noBp r d=true→noBp ((j,x)::r) d=true:=by
   intro j r hr
   cases x with
   | bp s off =>simp only [noBp,hr,Bool.and_true,pD,beq_eq_false_iff_ne];exact fun e=>hx off (by rw [e])
   | _=>simpa [noBp] using hr
  simp only [aS];split
  ·exact hput _ _ h
  ·split
   ·exact hput _ _ hy.1
   ·have ih:=Lw (k:=k) r hy.1 hx
    cases y<;>simp [noBp] at h ⊢ <;> first | exact ih | exact ⟨h.1,ih⟩
theorem YI {d:Nat}:∀ {l:List AO} {o:AO},o∈l→o.dst=some d→1≤xX d l
 | x::r,o,h,hd=>by
  simp only [xX];rcases qAs.1 h with rfl | h
  ·simp [hd]
  ·have:=YI h hd;omega
theorem YJ:∀ (l:List AO) (F:aG) (H:Hp) (T:aG×Hp),ymb (ygJ E call) l (F,H)=some T →
  (∀ o∈l,∀ d,ynf o=some d→noBp F d=true∧fget F d=none∧xX d l=1)→yaK E call l F H=some T
 | [],F,H,T,h,_=>by simpa [ymb,yaK] using h
 | o::r,F,H,T,h,hf=>by
  simp only [ymb] at h;split at h
  ·rename_i S1 hs;obtain ⟨F1,H1⟩:=S1;have hboth:yda E call F H o=some (F1,H1)∧∀ d,noBp F d=true→fget F d=none→o.dst≠some d→noBp F1 d=true∧fget F1 d=none:=by
    unfold ygJ at hs;simp only [] at hs;unfold yda;split at hs
    ·cases hs
    ·rename_i hg;refine ⟨hs,fun d h1 h2 h3=>?_⟩
     cases hdst:o.dst with
     | none=>rw [hdst] at hs;cases hs;exact ⟨h1,h2⟩
     | some d' =>rw [hdst] at hs;cases hs;refine ⟨Lw _ h1 (fun off e=>by cases e),?_⟩;rw [bO,WO (fun e=>h3 (by rw [hdst,e]))];exact h2
    ·rename_i hg;split at hs
     ·cases hs
     ·rename_i out x bx H2 hout;simp only [qG] at hs ⊢;obtain ⟨F2,hp,e⟩:=hs;refine ⟨⟨F2,ie hp fun row d hx hd=>?_,e⟩,fun d h1 h2 h3=>?_⟩
      ·obtain ⟨hb1,hb2⟩:=gr hout hx;have hb2':bx=none:=hb2;rw [hb2'];exact (hf o (by simp) d (hb1.trans hd)).1
      ·cases e
       have hbx:noBp (kO F bx) d=true∧fget (kO F bx) d=none:=by
        cases bx with
        | none=>exact ⟨h1,h2⟩
        | some y=>
         obtain ⟨s,row⟩:=y;obtain ⟨_,row0,hrow0⟩:=Yv hout rfl;have hne:d≠s:=fun e=>by rw [e,hrow0] at h2;cases h2
         refine ⟨Lw _ h1 (fun off e=>by cases e),?_⟩;simp only [kO,bO,WO hne];exact h2
       have hxbp:∀ off,x≠some (.bp d off):=by
        intro off e;rcases yD4 hout e with ⟨row,hr⟩ | hr
        ·rw [hr] at h2;cases h2
        ·rw [hr] at h1;cases h1
       cases hdst:o.dst with
       | none=>
        rw [hdst] at hp
        cases x with
        | none=>simp only [yfv,cP] at hp;subst hp;exact hbx
        | some fv=>cases fv<;>simp only [yfv,cP] at hp<;>first | (subst hp;exact hbx) | cases hp
       | some d'=>
        have hne:d≠d':=fun e=>h3 (by rw [hdst,e])
        rw [hdst] at hp
        cases x with
        | none =>simp only [yfv,cP] at hp;subst hp;exact ⟨HH _ hbx.1,by rw [Bc,WO hne];exact hbx.2⟩
        | some fv =>simp only [yfv,cP] at hp;subst hp;exact ⟨Lw _ hbx.1 (fun off e=>hxbp off (by rw [e])),by rw [bO,WO hne];exact hbx.2⟩
   obtain ⟨hstep,hkeep⟩:=hboth;simp only [yaK,hstep];refine YJ r F1 H1 T h fun o' ho' d hd=>?_
   obtain ⟨h1,h2,h3⟩:=hf o' (by simp [ho']) d hd;have hdst:o'.dst=some d:=by
    unfold ynf at hd;split at hd<;>first | exact hd | cases hd
   have hpos:=YI ho' hdst;simp only [xX] at h3;have hne:o.dst≠some d:=by intro e;rw [WN e] at h3;omega
   rw [WO hne] at h3;obtain ⟨h4,h5⟩:=hkeep d h1 h2 hne;exact ⟨h4,h5,by omega⟩
  ·cases h
theorem YL {all:List AO}:∀ (l:List AO),Fb F all l=true→∀ o∈l,∀ d,ynf o=some d→noBp F d=true∧fget F d=none∧xX d all=1
 | [],_,o,h,_,_=>by simp at h
 | x::r,h,o,ho,d,hd=>by
  simp only [Fb,cU] at h;rcases qAs.1 ho with rfl | ho
  ·have h1:=h.1;rw [hd] at h1;simp only [cU,Option.isNone_iff_eq_none,beq_iff_eq] at h1;exact ⟨h1.1.1,h1.1.2,h1.2⟩
  ·exact YL r h.2 o ho d hd
theorem YM (d:Nat) (l:List AO):xX d l=l.countP (fun o=>o.dst==some d):=by
 induction l with
 | nil=>rfl
 | cons o r ih=>
  simp only [xX,List.countP_cons,ih]
  by_cases h:o.dst=some d
  ·simp [h];omega
  ·simp [h]
end
theorem YN (o:Oper):yA o=wI o:=by
 unfold yA wI;congr 1
 funext e
 unfold Region.binds
 cases e.ground<;>simp
def Fy (es acc:List Nat) (s:Nat):Nat:=es.foldl (fun s i=>s|||2 ^ i|||acc.getD i 0) s
theorem yuw (acc:List Nat) (b:Nat):∀ (es:List Nat) (s:Nat),(Fy es acc s).testBit b=true→s.testBit b=true∨∃ i∈es,b=i∨(acc.getD i 0).testBit b=true
 | [],s,h=>.inl h
 | i::r,s,h=>by
  have h':(Fy r acc (s|||2 ^ i|||acc.getD i 0)).testBit b=true:=h;rcases yuw acc b r _ h' with h1 | ⟨j,h1,h2⟩
  ·rw [Nat.testBit_or,Nat.testBit_or,sR,sR] at h1;rcases h1 with (h1 | h1) | h1
   ·exact .inl h1
   ·right;rw [Nat.testBit_two_pow] at h1;exact ⟨i,by simp,.inl (by simpa using (of_decide_eq_true h1).symm)⟩
   ·exact .inr ⟨i,by simp,.inr h1⟩
  ·exact .inr ⟨j,by simp [h1],h2⟩
theorem Lx:∀ (l:List Oper) (acc:List Nat),(nC l acc).length=acc.length+l.length
 | [],acc=>by simp [nC]
 | o::r,acc=>by simp only [nC];rw [Lx r];simp;omega
theorem OX:∀ (l:List Oper) (acc:List Nat) (e:Nat),e<acc.length→(nC l acc).getD e 0=acc.getD e 0
 | [],acc,e,_=>rfl
 | o::r,acc,e,h=>by simp only [nC];rw [OX r _ e (by simp;omega)];simp [rB,h]
theorem YO:∀ (l:List Oper) (acc:List Nat) (k:Nat) (o:Oper),l[k]?=some o→∃ acc',(nC l acc).getD (acc.length+k) 0=Fy (yA o) acc' 0∧∀ e,(acc'.getD e 0≠0→e<acc.length+k)∧(e<acc.length+k→acc'.getD e 0=(nC l acc).getD e 0)
 | [],acc,k,o,h=>by simp at h
 | x::r,acc,k,o,h=>by
  cases k with
  | zero=>
   simp only [HC,cP] at h;subst h;refine ⟨acc,?_,fun e=>⟨fun hne=>?_,fun he=>(OX _ acc e (by simpa using he)).symm⟩⟩
   ·simp only [nC,tV];rw [OX r _ acc.length (by simp)];simp [Fy]
   ·rcases qA2 e acc.length with h1 | h1
    ·simpa using h1
    ·rw [dQ,kJ h1] at hne;simp at hne
  | succ k=>
   simp only [Ky] at h;obtain ⟨acc',h1,h2⟩:=YO r (acc++[Fy (yA x) acc 0]) k o h;have hl:(acc++[Fy (yA x) acc 0]).length+k=acc.length+(k+1):=by simp;omega
   rw [hl] at h1 h2;exact ⟨acc',h1,h2⟩
theorem YP {l:List Oper} (h:HL l=true):∀ (i:Nat) (o:Oper),l[i]?=some o→∀ k∈yA o,k<i:=by
 intro i o ho k hk;simp only [HL,vS,CC] at h;have hi:i<l.length:=by
  rcases qA2 i l.length with h1|h1
  ·exact h1
  ·rw [kJ h1] at ho;cases ho
 have:=h i hi;rw [ho] at this;simp only [vS,decide_eq_true_eq] at this;exact this k hk
theorem OY {ops:Array Oper} {σ:List Nat} (hback:HL ops.toList=true) (hσ:∀ a j b,σ=a++j::b→∀ o,ops[j]?=some o→∀ k∈wI o,k∈a) :
  ∀ (j:Nat) (a b:List Nat) (i:Nat),σ=a++j::b→j<ops.size→((nC ops.toList []).getD j 0).testBit i=true→i∈a:=by
 intro j;induction j using Nat.strongRecOn with
 | _ j ih=>
  intro a b i e hj hbit;have hoj:ops.toList[j]?=some ops[j]:=by simp [hj]
  obtain ⟨acc',h1,h2⟩:=YO ops.toList [] j _ hoj;simp only [EV,lW] at h1 h2;rw [h1] at hbit;rcases yuw acc' i (yA ops[j]) 0 hbit with h3 | ⟨k,hk,h3⟩
  ·simp at h3
  ·have hka:k∈a:=hσ a j b e ops[j] (by simp [hj]) k (by rw [← YN];exact hk);rcases h3 with rfl | h3
   ·exact hka
   ·have hkj:k<j:=YP hback j _ hoj k hk;obtain ⟨a1,a2,ea⟩:=List.append_of_mem hka;rw [(h2 k).2 hkj] at h3;have:=ih k hkj a1 (a2++j::b) i (by rw [e,ea];simp) (by omega) h3;rw [ea];simp [this]
theorem OZ {cl:List Nat} {i j:Nat} (hij:i<j) (hj:j<cl.length) (hb:(cl.getD j 0).testBit i=false):(i,j)∈Fl cl:=by simp only [Fl,List.mem_flatMap,CC,List.mem_filterMap];exact ⟨j,hj,i,hij,by rw [hb];rfl⟩
section
variable {P:Program} {E:Env}
theorem iq (hE:EO P E) (hm:P.follows .mixedOrders=true):∀ call,yaR P E call→HV P E call:=by
 intro call hc ro nt base g F H a w loc ops l F' H' id hro hl hd hb h hr hL hdf;obtain ⟨hlen,hget⟩:=HU _ _ hl;have hsz:l.length=ops.size:=by simpa using hlen
 refine wpIn_region_draw fun t=>?_
 have hsched:Region.schedule (P.follows .mixedOrders) ops t=Region.linearise.go .any ops ops.size t (Array.replicate ops.size false) []:=by rw [hm];rfl
 rw [hsched];have hcount:(List.range ops.size).countP (fun i=>!(Array.replicate ops.size false).getD i true)≤ops.size:=by
  have:=List.countP_le_length (p:=fun i=>!(Array.replicate ops.size false).getD i true) (l:=List.range ops.size);simpa using this
 obtain ⟨hmem,hnd,hord⟩:=fq ops (fun i o ho k hk=>YP hb i o (by simpa using ho) k (by rw [YN];exact hk)) ops.size t (Array.replicate ops.size false) (by simp) hcount;revert hmem hnd hord;generalize Region.linearise.go .any ops ops.size t (Array.replicate ops.size false) []=σ;intro hmem hnd hord;have hmem':∀ i,i∈σ↔i<ops.size:=by
  intro i;rw [← hmem i];refine ⟨fun x=>x.1,fun x=>⟨x,?_⟩⟩;simp [x]
 have hord':∀ a j b,σ=a++j::b→∀ o,ops[j]?=some o→∀ k∈wI o,k∈a:=by
  intro a j b e o ho k hk;rcases hord a j b e o ho k hk with h1 | h1
  ·simp only [AP,Array.getElem?_replicate] at h1;split at h1<;>simp at h1
  ·exact h1
 have hperm:σ.Perm (List.range ops.size):=(List.perm_ext_iff_of_nodup hnd List.nodup_range).2 fun i=>by rw [hmem' i,CC]
 have hlperm:(σ.filterMap (l[·]?)).Perm l:=by have:=hperm.filterMap (l[·]?);rw [← hsz,OL] at this;exact this
 have hrd:Rel E nt g F H a.tmps { w with drawn:=w.drawn+1 }:=hr.drew;have hclean:∀ (l:List AO) (F:aG) s x,fget (xY F l) s=some x→fget F s=some x:=by
  intro l;induction l with
  | nil=>intro F s x e;exact e
  | cons o r ih=>
   intro F s x e;simp only [xY] at e;split at e
   ·rename_i d _;have:=ih _ s x e;rw [Bc] at this;split at this
    ·cases this
    ·exact Oa F d s x this
   ·exact ih _ s x e
 cases ht:Fe l (Fl (nC ops.toList [])) with
 | true=>
  obtain ⟨hp,s,t0,t1,t2,t3,d0,d1,esz,by_,pu,k,z,rfl,hdj⟩:=gv ht;have hrun:yaK E call (CG s t0 t1 t2 t3 d0 d1 esz by_ pu k z) F H=some (F',H'):=by
   unfold yfX at h;rcases hp with hp | hp
   ·rw [hp] at h ht;dsimp only [KB] at h ht;rw [ht] at h;exact h
   ·rw [hp] at h ht;dsimp only [Fd] at h ht;rw [ht] at h;exact h
  have h6:ops.size=6:=by rw [← hsz];rfl
  have hσl:σ.length=6:=by rw [hperm.length_eq,List.length_range,h6]
  have hσ:σ∈yF:=by
   rw [← gx,← hσl];refine YD σ [] (by simpa using hnd) (fun i hi=>by have:=(hmem' i).1 hi;omega) fun a j b e i hij hf=>?_
   have hj:j<ops.size:=(hmem' j).1 (by rw [e];simp);rw [CA];refine OY hb hord' j a b i e hj ?_
   cases hbit:((nC ops.toList []).getD j 0).testBit i
   ·have:=OZ hij (by rw [Lx];simpa using hj) hbit;unfold Ic at hf;rw [List.elem_eq_mem,decide_eq_false_iff_not] at hf;exact absurd (gw hp _ this) hf
   ·rfl
  have hlow:∀ (id:Nat) (hb:HB),H[id]?=some hb→yaH (fun _=>true) (fun id=>Nat.blt id H.length) hb.rows=true:=fun id hb e=>by
   obtain ⟨b,o,hk⟩:=hr.heap id hb e;exact Yx _ _ _ _ hk.rows
  rcases yCC (E:=E) (call:=call) hrun hdj hσ with ⟨F2,h1,h3⟩|⟨F2,Z,h1,hH,hZ,h3⟩
  ·refine Lk (F':=F2) (H':=H') hE hc hl hd hro σ g F H a _ (fun i hi=>(hmem' i).1 hi) hrd (hL.nx (Nx.drew g H w)) h1 ?_;intro a' w' g' d1 n1 r1;exact ⟨trivial,g',(Nx.drew g H w).trans n1,r1.less fun s x hs=>by rw [h3 s];exact hs,(hdf.nx ((Nx.drew g H w).trans n1)).go d1⟩
  ·refine Lk (F':=F2) (H':=H') hE hc hl hd hro σ g F H a _ (fun i hi=>(hmem' i).1 hi) hrd (hL.nx (Nx.drew g H w)) h1 ?_;intro a' w' g' d1 n1 r1;have nx:=((Nx.drew g H w).trans n1).swap (n:=H.length) rfl;refine ⟨trivial,g'.swp H.length,nx,r1.swap hH rfl hZ hlow fun s fv e=>?_,(hdf.nx nx).go d1⟩;rcases h3 s fv e with ⟨e1,e2⟩ | e1 | e1
   ·refine .inl ⟨e1,?_⟩;rcases e2 with e2 | ⟨q,n,rfl⟩
    ·exact gu (hr.frame s fv e2)
    ·rfl
   ·exact .inr (.inl e1)
   ·exact .inr (.inr e1)
 | false=>
 have hrun:∃ F0 F2 H2,(∀ s x,fget F0 s=some x→fget F s=some x)∧yaK E call (σ.filterMap (l[·]?)) F0 H=some (F2,H2)∧H2=H'∧∀ s,fget F2 s=fget F' s:=by
  unfold yfX at h
  cases hp:Fl (nC ops.toList []) with
  | nil=>
   rw [hp] at h;have hsort:σ=List.range ops.size:=by
    have key:∀ (τ:List Nat) (k:Nat),(∀ a j b,τ=a++j::b→∀ i,k≤i→i<j→i∈a)→τ.Nodup→(∀ i,i∈τ↔k≤i∧i<ops.size)→k≤ops.size→τ=List.range' k (ops.size-k):=by
     intro τ;induction τ with
     | nil=>
      intro k _ _ h3 hk;have:¬(k<ops.size):=fun hlt=>by have:=(h3 k).2 ⟨cQ k,hlt⟩;cases this
      have:ops.size-k=0:=by omega
      rw [this];rfl
     | cons x τ ih=>
      intro k h1 h2 h3 hk;have hx:=(h3 x).1 (by simp);have hxk:x=k:=by
       rcases qA2 k x with hlt|hge
       ·have:=h1 [] x τ rfl k (cQ k) hlt;cases this
       ·omega
      subst hxk;have:ops.size-x=(ops.size-(x+1))+1:=by omega
      rw [this,List.range'_succ];congr 1;rw [CB] at h2;refine ih (x+1) (fun a j b e i hi hij=>?_) h2.2 (fun i=>?_) (by omega)
      ·have:=h1 (x::a) j b (by rw [e];rfl) i (by omega) hij;rcases qAs.1 this with e2 | e2
       ·omega
       ·exact e2
      ·have h4:=h3 i;rw [qAs] at h4;constructor
       ·intro hi;have h5:=h4.1 (.inr hi);have:i≠x:=fun e=>h2.1 (e ▸ hi)
        omega
       ·intro hi;rcases h4.2 ⟨by omega,hi.2⟩ with e | e
        ·omega
        ·exact e
    have:=key σ 0 (fun a j b e i _ hij=>?_) hnd (fun i=>by rw [hmem' i];simp) (jA _)
    ·rw [this,Nat.sub_zero,List.range_eq_range']
    ·have hj:j<ops.size:=(hmem' j).1 (by rw [e];simp);refine OY hb hord' j a b i e hj ?_
     cases hbit:((nC ops.toList []).getD j 0).testBit i
     ·have:=OZ hij (by rw [Lx];simpa using hj) hbit;rw [hp] at this;cases this
     ·rfl
   rw [hsort,← hsz,OL];exact ⟨F,F',H',fun _ _ e=>e,h,rfl,fun _=>rfl⟩
  | cons pr prs=>
   rw [hp] at h ht;simp only [ht,cond_false] at h;split at h
   ·rename_i F1 H1 ps hps;split at h
    ·rename_i hok
     cases h
     rw [← hp] at hok;have hcl:=hclean l F;obtain ⟨F0,hF0⟩:∃ F0,F0=xY F l:=⟨_,rfl⟩;rw [← hF0] at hps hok hcl;obtain ⟨s1,s2,s3,s4⟩:=YG _ _ _ _ _ _ hps;let st:Nat→aG×Hp:=fun i=>stAt E call l i (F0,H)
     let R:Nat→Loc→Prop:=fun i x=>∃ p,ps[i]?=some p∧RdP p x
     let W:Nat→Loc→Prop:=fun i x=>∃ p,ps[i]?=some p∧WrP p x
     have hlocal:Local look (ygJ E call) l st R W:=by
      refine ⟨fun i o ho=>?_,fun i o ho S' hag=>?_⟩
      ·exact (s4 i o ho).1
      ·obtain ⟨h1,h2⟩:=s4 i o ho;obtain ⟨T',k1,k2,k3⟩:=io h1 S' (fun x hx=>hag x ⟨_,h2,hx⟩);refine ⟨T',k1,fun x ⟨p,e,hx⟩=>?_,fun x hx=>k3 x fun hw=>hx ⟨_,h2,hw⟩⟩;rw [h2] at e;cases e;exact k2 x hx
     have hfree:∀ i j,i<j→(i∈σ∧j∈([]:List Nat)∨(∃ a b c,σ=a++j::(b++i::c)))→yE R W i j:=by
      intro i j hij hcase;rcases hcase with ⟨_,hx⟩ | ⟨a,b,c,e⟩
      ·cases hx
      ·have hj:j<ops.size:=(hmem' j).1 (by rw [e];simp);have hbit:((nC ops.toList []).getD j 0).testBit i=false:=by
        cases hbit:((nC ops.toList []).getD j 0).testBit i
        ·rfl
        ·have hia:=OY hb hord' j a _ i e hj hbit;rw [e,List.nodup_append] at hnd;exact absurd rfl (hnd.2.2 i hia i (by simp))
       obtain ⟨p,q,hp1,hq1,hcl⟩:=YH _ hok.1 i j (OZ hij (by rw [Lx];simpa using hj) hbit);intro x;obtain ⟨f1,f2⟩:=ip hcl x;refine ⟨fun ⟨⟨p',e1,w1⟩,r1⟩=>f1 ?_,fun ⟨⟨q',e1,w1⟩,⟨p',e2,r1⟩⟩=>f2 ?_⟩
       ·rw [hp1] at e1;cases e1;refine ⟨w1,r1.imp (fun ⟨q',e2,r2⟩=>?_) (fun ⟨q',e2,r2⟩=>?_)⟩
        ·rw [hq1] at e2;cases e2;exact r2
        ·rw [hq1] at e2;cases e2;exact r2
       ·rw [hq1] at e1;cases e1;rw [hp1] at e2;cases e2;exact ⟨w1,r1⟩
     obtain ⟨T',k1,k2⟩:=hlocal.perm σ [] (F0,H) (by simpa using hnd) (fun i=>by rw [hsz,CA,hmem' i]) hfree (fun x _=>by show look (F0,H) x=look (st 0) x;rw [show st 0=(F0,H) from s2]) (fun x i hi=>by cases hi);have hfin:st l.length=(F',H'):=s3;rw [hfin] at k2;have hfresh:=YJ _ F0 H T' k1 fun o ho d hdo=>by
      obtain ⟨b1,b2,b3⟩:=YL l hok.2 o (hlperm.mem_iff.1 ho) d hdo;refine ⟨b1,b2,?_⟩;rw [YM,hlperm.countP_eq,← YM];exact b3
     refine ⟨F0,T'.1,T'.2,hcl,hfresh,rD fun k=>?_,fun s=>?_⟩
     ·have:=k2 (.bk k);simpa [look] using this
     ·have:=k2 (.sl s);simpa [look] using this
    ·cases h
   ·cases h
 obtain ⟨F0,F2,H2,h0,h1,rfl,h3⟩:=hrun;refine Lk (F':=F2) (H':=H2) hE hc hl hd hro σ g F0 H a _ (fun i hi=>(hmem' i).1 hi) (hrd.less h0) (hL.nx (Nx.drew g H w)) h1 ?_;intro a' w' g' d1 n1 r1;exact ⟨trivial,g',(Nx.drew g H w).trans n1,r1.less fun s x hs=>by rw [h3 s];exact hs,(hdf.nx ((Nx.drew g H w).trans n1)).go d1⟩
theorem YQ (hE:EO P E) (hm:P.follows .mixedOrders=true) (n:Nat):yaR P E (ya9 E n):=
 (fp (fun _ hE=>iq hE hm) n E hE).2.2.2
end
def topV (E:Env) (n f:Nat) (args:List PV):Option PV:=
 match ya9 E n f args [] with
 | some (r,H)=>mN (E.nl f) H r
 | none=>none
section
variable {P:Program} {E:Env}
theorem YR (hE:EO P E) (hm:P.follows .mixedOrders=true) {n f:Nat} {args:List PV} {q:PV} (h:topV E n f args=some q):rK P E.glob f args q:=by
 intro I w vs himm hgl hv;unfold topV at h;split at h
 ·rename_i r H hin;exact run_pure (YQ hE hm n) himm hgl hv hin h
 ·cases h
def ysy:List (Nat×AFn)→Nat→Option AFn
 | [],_=>none
 | (k,a)::r,n=>bif Nat.beq k n then some a else ysy r n
def CS (P:Program):List (Nat×AFn)→Prop
 | []=>True
 | (n,a)::r=>(∃ f loc fg,P.funcs[n]?=some f∧cH P loc fg f=some a)∧CS P r
theorem Pa:∀ (l:List (Nat×AFn)),CS P l→∀ n a,ysy l n=some a→∃ f loc fg,P.funcs[n]?=some f∧cH P loc fg f=some a
 | [],_,_,_,h=>by simp [ysy] at h
 | (k,b)::r,hl,n,a,h=>by
  simp only [CS] at hl;simp only [ysy] at h
  cases hc:Nat.beq k n with
  | true =>rw [hc] at h;simp only [cond_true,cP] at h;have:=jT hc;subst this;subst h;exact hl.1
  | false =>rw [hc] at h;exact Pa r hl.2 n a (by simpa using h)
def memN:List Nat→Nat→Bool
 | [],_=>false
 | k::r,n=>bif Nat.beq k n then true else memN r n
def u6 (n:Nat):PV:=.int .u64 (n:Int)
def sumC (add sub:Nat) (n:Nat) (as:List PV):Option PV:=
 match as with
 | [.int .u64 a,.int .u64 b,.int .u64 c]=>
  bif Nat.beq n add&&Nat.ble c.toNat 1 then some (.tup [u6 ((a.toNat+b.toNat+c.toNat)%18446744073709551616),u6 ((a.toNat+b.toNat+c.toNat)/18446744073709551616)])
  else bif Nat.beq n sub&&Nat.ble c.toNat 1 then some (.tup [u6 ((a.toNat+18446744073709551616-b.toNat-c.toNat)%18446744073709551616),u6 (bif Nat.ble (b.toNat+c.toNat) a.toNat then 0 else 1)])
  else none
 | _=>none
def Id:Array Value→Sem Value:=fun args=>do
 let (x, y, b) ← Extern.MathBitsCarry.three "Sub64" args
 pure (Extern.MathBitsCarry.pair ((x+Extern.MathBitsCarry.m64-y-b)%Extern.MathBitsCarry.m64) (if x<y+b then 1 else 0))
theorem ir (x y:Int) (b:Nat) (hb:b≤1) (w:World) :
  (Id #[.int .u64 x,.int .u64 y,.int .u64 b]).run P w =
   .ok (.tuple #[.int .u64 (((x.toNat+18446744073709551616-y.toNat-b)%18446744073709551616:Nat):Int),.int .u64 ((if x.toNat<y.toNat+b then 1 else 0:Nat):Int)]) w:=by
 have:b=0∨b=1:=by omega
 rcases this with rfl | rfl<;>rfl
theorem it (x y:Int) (b:Nat) (hb:b≤1) (w:World) :
  (add64Entry #[.int .u64 x,.int .u64 y,.int .u64 b]).run P w =
   .ok (.tuple #[.int .u64 (((x.toNat+y.toNat+b)%18446744073709551616:Nat):Int),.int .u64 (((x.toNat+y.toNat+b)/18446744073709551616:Nat):Int)]) w:=by
 have:b=0∨b=1:=by omega
 rcases this with rfl | rfl<;>rfl
theorem YS {I:Nat→Prop} {w:World} {a b c:Int} {vs:List Value} (h:gL I w [.int .u64 a,.int .u64 b,.int .u64 c] vs):vs=[.int .u64 a,.int .u64 b,.int .u64 c]:=by simp only [gL,fS,RC,lI,and_true] at h;obtain ⟨v,r,rfl,⟨rfl,_⟩,v2,r2,rfl,⟨rfl,_⟩,v3,r3,rfl,⟨rfl,_⟩,rfl⟩:=h;rfl
structure IsExtern (P:Program) (f:FuncId) (e:Array Value→Sem Value):Prop where
 h : ∃ fn, P.funcs[f]? = some fn ∧ (fn.name == "runtime.NumGoroutine") = false ∧ fn.body.isNone = true ∧ Extern.findNext fn = none ∧ Extern.find fn = some e
theorem IsExtern.run {f:FuncId} {e:Array Value→Sem Value} (h:IsExtern P f e) (args:Array Value) (w:World):(callFunc f args).run P w=((e args).run P w).andThen fun v w'=>.ok (.value v) w':=by obtain ⟨fn,h1,h2,h3,h4,h5⟩:=h.h;exact run_callFunc_extern h1 h2 h3 h4 h5 args w
theorem YT (n:Nat) (h:n<18446744073709551616):jB .u64 (n:Int):=by
 have h0:u64.min=0:=by decide
 have h1:u64.max=18446744073709551615:=by decide
 exact ⟨by rw [h0];omega,by rw [h1];omega⟩
theorem YU {G:Nat→Option PV} {f:FuncId} {as:List PV} {a b:Nat} (ha:a<18446744073709551616) (hb:b<18446744073709551616)
  (h:∀ (I:Nat→Prop) (w:World) (vs:List Value),gL I w as vs→(callFunc f vs.toArray).run P w=.ok (.value (.tuple #[.int .u64 (a:Int),.int .u64 (b:Int)])) w):rK P G f as (.tup [u6 a,u6 b]):=by
 intro I w vs _ _ hv;unfold oK;rw [h I w vs hv];refine ⟨Bel.refl _ _,?_⟩;simp only [VP,gL,fS,RC,u6];exact ⟨_,rfl,_,_,rfl,⟨rfl,YT a ha⟩,_,_,rfl,⟨rfl,YT b hb⟩,rfl⟩
theorem YV {G:Nat→Option PV} {add sub:Nat} (ha:IsExtern P add add64Entry) (hs:IsExtern P sub Id):∀ n as r,sumC add sub n as=some r→rK P G n as r:=by
 intro n as r h;unfold sumC at h;split at h
 ·rename_i a b c;have key:∀ (x y:Int) (I:Nat→Prop) (w:World) (vs:List Value),gL I w [.int .u64 a,.int .u64 b,.int .u64 c] vs→a.toNat<18446744073709551616∧b.toNat<18446744073709551616∧0≤c:=by
   intro x y I w vs hv;simp only [gL,fS,RC,jB] at hv;obtain ⟨v,r,-,⟨-,h1⟩,v2,r2,-,⟨-,h2⟩,v3,r3,-,⟨-,h3⟩,-⟩:=hv;have e1:u64.max=18446744073709551615:=by decide
   have e0:u64.min=0:=by decide
   rw [e1] at h1 h2;rw [e0] at h3;exact ⟨by omega,by omega,h3.1⟩
  cases h1:(Nat.beq n add&&Nat.ble c.toNat 1) with
  | true=>
   rw [h1] at h;simp only [cond_true,cP] at h;simp only [cU] at h1;have e:=jT h1.1;have hc:=AS h1.2;subst e;subst h;intro I w vs hI hgl hv;obtain ⟨la,lb,-⟩:=key 0 0 I w vs hv;refine YU (Nat.mod_lt _ (by omega)) (by omega) (fun I w vs hv=>?_) I w vs hI hgl hv;have h0:=(key 0 0 I w vs hv).2.2;have ec:c=(c.toNat:Int):=by omega
   rw [YS hv,ha.run,ec];exact Aaa (fun r=>Result.andThen r fun v w'=>Result.ok (Next.value v) w') (it a b c.toNat hc w)
  | false=>
   rw [h1] at h;simp only [cond_false] at h
   cases h2:(Nat.beq n sub&&Nat.ble c.toNat 1) with
   | true=>
    rw [h2] at h;simp only [cond_true,cP] at h;simp only [cU] at h2;have e:=jT h2.1;have hc:=AS h2.2;subst e;subst h;refine YU (Nat.mod_lt _ (by omega)) (by cases Nat.ble (b.toNat+c.toNat) a.toNat<;>simp) (fun I w vs hv=>?_);have:(if a.toNat<b.toNat+c.toNat then 1 else 0:Nat)=(bif Nat.ble (b.toNat+c.toNat) a.toNat then 0 else 1):=by
     cases hh:Nat.ble (b.toNat+c.toNat) a.toNat with
     | true=>have:=AS hh;simp;omega
     | false=>
      have:¬(b.toNat+c.toNat≤a.toNat):=fun hle=>by rw [EN hle] at hh;cases hh
      simp;omega
    have h0:=(key 0 0 I w vs hv).2.2;have ec:c=(c.toNat:Int):=by omega
    rw [← this,YS hv,hs.run,ec];exact Aaa (fun r=>Result.andThen r fun v w'=>Result.ok (Next.value v) w') (ir a b c.toNat hc w)
   | false=>rw [h2] at h;cases h
 ·cases h
def iu (add sub:Nat) (tab:List (Nat×AFn)) (qui:List Nat):Env:={ glob:=fun _=>none,sum:=sumC add sub,fns:=ysy tab,frz:=fun _=>false,qui:=memN qui }
theorem iv {add sub:Nat} {tab:List (Nat×AFn)} {qui:List Nat} (ha:IsExtern P add add64Entry) (hs:IsExtern P sub Id) (ht:CS P tab):EO P (iu add sub tab qui) where
 sum:=fun n as r h=>YV ha hs n as r h
 fns:=fun n fn h=>Pa tab ht n fn h
 eff:=fun _ _ _ _ _ _ _ h=>by cases h
 dn:=fun _ h=>by cases h
 top:=fun _ _=>rfl
 yl:=fun _ _ _ _ _ _ h=>by cases h
end
def iw (P:Program) (n:Nat):Prop:=∀ (args:Array Value) (w:World),(callFunc n args).run P w=.ok (.enter n args) w∧CallsDIn (Fc none) 0 P n args .returning w fun e u w'=>u=.returning∧w'=w∧∃ v,e=.returned v
def CT:List Nat→List Nat
 | []=>[]
 | k::r=>bif Nat.ble 6000000 k then (k-6000000)::CT r else CT r
theorem YW {n:Nat}:∀ {l:List Nat},memN l (n+6000000)=true→n∈CT l
 | [],h=>by cases h
 | k::r,h=>by
  have h:(bif Nat.beq k (n+6000000) then true else memN r (n+6000000))=true:=h
  cases hb:Nat.beq k (n+6000000) with
  | true =>have e:=jT hb;subst e;have:Nat.ble 6000000 (n+6000000)=true:=EN (by omega);simp only [CT,this,cond_true,Nat.add_sub_cancel,qAs,true_or]
  | false=>
   rw [hb] at h;have:=YW (l:=r) h;simp only [CT]
   cases Nat.ble 6000000 k with
   | true=>exact iY _ this
   | false=>exact this
end Go.Pf
namespace Go.Pf
open Go
def aM (b:Bool) (x y:Prop):Prop:=match b with | true=>x | false=>y
def aI (b:Bool) (x:Prop):Prop:=match b with | true=>x | false=>False
theorem rM {b:Bool} {x y:Prop}:aM b x y↔(b=true→x)∧(b=false→y):=by cases b<;>simp [aM]
theorem bZ {b:Bool} {x:Prop}:aI b x↔b=true∧x:=by cases b<;>simp [aI]
inductive Cs where
 | i (k:IntKind)
 | b
 | d
 deriving DecidableEq,Inhabited
inductive Sh where
 | raw
 | one (c:Cs)
 | agg (l:List Cs)
 deriving Inhabited
def bV:PV→Int
 | .int _ n=>n
 | _=>0
def YX:PV→Bool
 | .bool b=>b
 | _=>false
def lM:PV→List PV
 | .data l=>l
 | _=>[]
def fB (r:PV) (j:Nat):PV:=r.cells.getD j .nils
def Fz:Cs→PV→PV
 | .i k,x=>.int k (bV x)
 | .b,x=>.bool (YX x)
 | .d,x=>.data (lM x)
def Ie:List Cs→PV→Nat→List PV
 | [],_,_=>[]
 | c::t,r,j=>Fz c (fB r j)::Ie t r (j+1)
def rN:Sh→PV→PV
 | .raw,r=>r
 | .one c,r=>Fz c r
 | .agg l,r=>.agg (Ie l r 0)
def tE:Cs→PV→Bool
 | .i k,.int l _=>decide (k=l)
 | .b,.bool _=>true
 | .d,.data _=>true
 | _,_=>false
def FA:List Cs→List PV→Bool
 | [],[]=>true
 | c::t,x::r=>tE c x&&FA t r
 | _,_=>false
def aZ:Sh→PV→Bool
 | .raw,_=>true
 | .one c,x=>tE c x
 | .agg l,.agg cs=>FA l cs
 | .agg _,_=>false
theorem YZ:∀ (c:Cs) (x:PV),tE c x=true→Fz c x=x
 | .i k,x,h=>by cases x<;>simp [tE] at h;simp [Fz,bV,h]
 | .b,x,h=>by cases x<;>simp [tE] at h;simp [Fz,YX]
 | .d,x,h=>by cases x<;>simp [tE] at h;simp [Fz,lM]
theorem Za:∀ (l:List Cs) (pre cs:List PV),FA l cs=true→Ie l (.agg (pre++cs)) pre.length=cs
 | [],pre,cs,h=>by cases cs<;>simp [FA] at h;simp [Ie]
 | c::t,pre,cs,h=>by
  cases cs with
  | nil=>simp [FA] at h
  | cons x r=>
   simp only [FA,cU] at h;have h1:fB (.agg (pre++x::r)) pre.length=x:=by simp [fB,PV.cells]
   have h2:=Za t (pre++[x]) r h.2;simp only [xQ,List.singleton_append,lU,List.length_singleton] at h2;simp only [Ie,h1,YZ c x h.1,h2]
theorem Zb:∀ (s:Sh) (r:PV),aZ s r=true→rN s r=r
 | .raw,_,_=>rfl
 | .one c,x,h=>YZ c x h
 | .agg l,x,h=>by
  cases x with
  | agg cs=>have:=Za l [] cs h;simpa [rN] using this
  | _=>simp [aZ] at h
structure An where
 at_:Nat
 sh:Sh
 md:Nat
 deriving Inhabited
inductive TC where
 | skip
 | ops (l:List AO) (an:List An) (pairs:List (Nat×Nat)) (forget:List Nat)
 | seq (a b:TC)
 | cond (c:Opd) (a b:TC)
 | block (id:Nat) (b:TC)
 | loop (id:Nat) (b:TC)
 | lG (id:Nat) (b:TC)
 | exit (id:Nat)
 | ret
 | bad
 | rangeF (g:Opd) (f np:Nat) (ib:TC) (ps:List Nat) (as bd:TC)
 | yret (c:AC) (pre:List AO) (d:Nat) (y:Opd) (args:List Opd) (e:Nat) (fgt:List Nat)
 | cut (c:AC)
 | join (id:Nat) (b:TC)
 deriving Inhabited
def bM:TC→AC
 | .skip=>.skip
 | .ops l _ ps fg=>.ops l ps fg
 | .seq a b=>.seq (bM a) (bM b)
 | .cond c a b=>.cond c (bM a) (bM b)
 | .block id b=>.block id (bM b)
 | .loop _ b=>.loop (bM b)
 | .lG _ b=>.lG (bM b)
 | .exit id=>.exit id
 | .ret=>.ret
 | .bad=>.bad
 | .rangeF g _ _ _ ps as bd=>.rangeF g ps (bM as) (bM bd)
 | .yret c pre d y args e fgt=>.yret c pre d y args e fgt
 | .cut c=>c
 | .join _ b=>bM b
structure TFn where
 nparams:Nat
 results:List ARes
 body:TC
 deriving Inhabited
def TFn.fn (t:TFn):AFn:=⟨t.nparams,t.results,bM t.body⟩
def CU:List An→Nat→An
 | [],_=>⟨0,.raw,0⟩
 | a::r,i=>bif Nat.beq a.at_ i then a else CU r i
def Ig:Nat→List PV→Hp→Option (PV×Hp):=fun _ _ _=>none
abbrev OK:=Option FV→Option (Nat×PV)→Hp→Prop
abbrev CK:=PV→List PV→Hp→(PV→Hp→Prop)→Prop
def wv (H:Hp) (K:OK) (p:PV):Prop:=K (some (.v p)) none H
def Ih (H:Hp) (x:PV) (K:PV→Hp→Prop):Prop:=
 match x with
 | .bool b=>K (.bool b) H
 | .int k n=>K (.int k n) H
 | .nils | .emp=>K (.data []) H
 | .data rows=>K (.data rows) H
 | .own id lo len ext _=>
  (match H[id]? with
   | some b=>aI (decide (b.rows.length=ext)) (aI (decide (lo+len≤ext)) (aI b.pu (K (.data ((b.rows.drop lo).take len)) (H.set id { b with fz:=true }))))
   | none=>False)
 | _=>False
def Ly:Hp→List PV→(List PV→Hp→Prop)→Prop
 | H,[],K=>K [] H
 | H,x::r,K=>Ih H x fun y H'=>Ly H' r fun ys H''=>K (y::ys) H''
def yG (H:Hp) (x:PV) (K:PV→Hp→Prop):Prop:=
 match x with
 | .agg cs=>Ly H cs fun ys H'=>K (.agg ys) H'
 | x=>Ih H x K
def FC:Hp→List PV→(List PV→Hp→Prop)→Prop
 | H,[],K=>K [] H
 | H,x::r,K=>yG H x fun y H'=>FC H' r fun ys H''=>K (y::ys) H''
def Lz (H:Hp) (x:PV) (K:PV→Prop):Prop:=
 match x with
 | .tup ps=>FC H ps fun qs _=>K (.tup qs)
 | x=>yG H x fun q _=>K q
def LA (H:Hp) (x:PV) (K:PV→Prop):Prop:=
 match x with
 | .ptr id ext i off=>(match H[id]? with
  | some b=>aI (decide (b.rows.length=ext)) (match b.rows[i]? with
   | some row=>yG H row fun q _=>K (.eptr [q] 0 off)
   | none=>False)
  | none=>False)
 | .eptr rows i off=>K (.eptr rows i off)
 | x=>yG H x fun q _=>K q
def LC (H:Hp):List PV→(List PV→Prop)→Prop
 | [],K=>K []
 | x::r,K=>LA H x fun y=>LC H r fun ys=>K (y::ys)
def Ii (pu:Bool) (H:Hp) (x:PV) (K:PV→Hp→Prop):Prop:=match pu with | true=>yG H x K | false=>K x H
def FD (E:Env) (F:aG) (pu:Bool) (esz:Nat):List PV→Hp→List (Nat×Opd)→(List PV→Hp→Prop)→Prop
 | rows,H,[],K=>K rows H
 | rows,H,(i,x)::r,K=>
  match evV E F x with
  | some p=>Ii pu H p fun q H'=>aI (Nat.beq q.cells.length esz&&Nat.blt i rows.length&&kM q.cells) (FD E F pu esz (rows.set i q) H' r K)
  | none=>False
def CV (op:BinOp) (k k':IntKind) (a b:Int) (K:PV→Prop):Prop:=
 match op with
 | .quo=>aI (decide (k=k')) (aI (!decide (b=0)) (K (.int k (k.wrap (a.tdiv b)))))
 | .rem=>aI (decide (k=k')) (aI (!decide (b=0)) (K (.int k (a.tmod b))))
 | .shl=>aI (!decide (b<0)) (K (.int k (k.wrap (a*2 ^ (min b.toNat k.bits)))))
 | .shr=>aI (!decide (b<0)) (K (.int k (a.fdiv (2 ^ (min b.toNat k.bits)))))
 | op=>aI (decide (k=k')) (match binI op k a b with | some r=>K r | none=>False)
def Bs (n:Nat) (j:Int) (K:Nat→Prop):Nat→Prop
 | 0=>False
 | m+1=>aM (decide (j=((n-(m+1):Nat):Int))) (K (n-(m+1))) (Bs n j K m)
def Ij:List PV→Bool
 | []=>true
 | .int .u8 _::r=>Ij r
 | _=>false
def Pb (agg:Bool) (n esz:Nat) (cs:List PV) (j:Int) (K:PV→Prop):Prop:=
 aI (!agg&&(Nat.beq esz 1&&(Nat.beq n cs.length&&Ij cs))) (aI (decide (0≤j)) (aI (decide (j<(n:Int))) (K (.int .u8 (bV (cs.getD j.toNat .nils))))))
def Pc (H:Hp) (x:PV) (K:List PV→Prop):Prop:=
 match x with
 | .nils | .emp=>K []
 | .data rows=>K rows
 | .own id lo len ext _=>
  (match H[id]? with
   | some b=>aI (decide (b.rows.length=ext)) (aI (decide (lo+len≤ext)) (K ((b.rows.drop lo).take len)))
   | none=>False)
 | _=>False
def FE (H:Hp) (pu:Bool) (esz bytes:Nat) (rows:List PV) (K:PV→Hp→Prop):Prop:=
 aI (decide ((rows.length+64)*(bytes+1)≤room)) (K (.own H.length 0 rows.length rows.length none) (H++[⟨false,pu,esz,rows⟩]))
def CW (md:Nat) (H:Hp) (pu:Bool) (esz bytes:Nat) (s:PV) (ys:List PV) (K:PV→Hp→Prop):Prop:=
 match s with
 | .nils=>aM ys.isEmpty (K .nils H) (FE H pu esz bytes ys K)
 | .emp=>aM ys.isEmpty (K .emp H) (FE H pu esz bytes ys K)
 | .own id lo len ext cap=>
  (match H[id]? with
   | some b=>
    aI (decide (b.rows.length=ext)) (aI (decide (b.pu=pu)&&decide (b.esz=esz)) (aI (decide (lo+len≤ext))
     (aM ys.isEmpty (K (.own id lo len ext cap) H)
      (match cap with
       | some c=>
        let W1:=aI (!b.fz) (K (.own id lo (len+ys.length) ext cap) (H.set id { b with rows:=b.rows.take (lo+len)++(ys++b.rows.drop (lo+len+ys.length)) }));let W2:=FE H pu esz bytes ((b.rows.drop lo).take len++ys) K
        (match md with
         | 9=>aM (decide (len+ys.length≤c)) W1 W2
         | 8=>aM (decide (len+ys.length≤c)) W1 W2
         | 2=>aI (!decide (len+ys.length≤c)) W2
         | _=>aI (decide (len+ys.length≤c)) W1)
       | none=>
        let W1:=K (.own id lo (len+ys.length) ext none) (H.set id { b with rows:=b.rows.take (lo+len)++(ys++b.rows.drop (lo+len+ys.length)) });let W3:=aI (decide (lo=0)) (aI (decide (len=ext)) (aI (decide ((ext+ys.length+64)*(bytes+1)≤room))
          (K (.own id 0 (b.rows++ys).length (b.rows++ys).length none) (H.set id { b with rows:=b.rows++ys }))))
        let W4:=aI (decide (lo=0)) (aI (decide (len≤ext)) (aI (decide ((len+ys.length+64)*(bytes+1)≤room))
          (K (.own id 0 (len+ys.length) (len+ys.length) none) (H.set id { b with rows:=b.rows.take len++ys }))))
        aI (!b.fz) (match md with
         | 9=>aM (decide (lo+len+ys.length≤ext)) W1 W3
         | 8=>aM (decide (lo+len+ys.length≤ext)) W1 W4
         | 1=>aI (decide (lo+len+ys.length≤ext)) W1
         | _=>aI (!decide (lo+len+ys.length≤ext)) W3)))))
   | none=>False)
 | _=>False
def Pd (H:Hp) (esz:Nat) (lo hi mx:Option Int) (x:PV) (K:PV→Prop):Prop:=
 match x with
 | .nils=>aI (decide (lo.getD 0=0)&&(decide (hi.getD 0=0)&&decide (mx.getD 0=0))) (K .nils)
 | .emp=>aI (decide (lo.getD 0=0)&&(decide (hi.getD 0=0)&&decide (mx.getD 0=0))) (K .emp)
 | .data rows=>
  let h:=hi.getD rows.length;let l:=lo.getD 0
  (match mx with
   | none=>aI (decide (0≤l)) (aI (decide (l≤h)) (aI (decide (h≤rows.length)) (aI (decide (l=0)||qL esz rows) (K (.data ((rows.take h.toNat).drop l.toNat))))))
   | some m=>aI (decide (0≤l)) (aI (decide (l≤h)) (aI (decide (h≤m)) (aI (decide (m≤rows.length)) (aI (decide (l=0)||qL esz rows)
      (aM (decide (l=m)) (K .emp) (K (.data ((rows.take h.toNat).drop l.toNat)))))))))
 | .own id lo0 len ext cap=>
  let h:=hi.getD len;let l:=lo.getD 0
  (match H[id]? with
   | some b=>aI (b.esz==esz)
    (match mx with
     | none=>aI (decide (0≤l)) (aI (decide (l≤h)) (aI (decide (h≤len)||decide (h≤CF len cap)) (K (.own id (lo0+l.toNat) (h-l).toNat ext (cap.map fun c=>c-l.toNat)))))
     | some m=>aI (decide (0≤l)) (aI (decide (l≤h)) (aI (decide (h≤m)) (aI (decide (m≤len)||decide (m≤CF len cap)) (K (.own id (lo0+l.toNat) (h-l).toNat ext (some (m-l).toNat)))))))
   | none=>False)
 | _=>False
def yH (sh:Sh) (rows:List PV) (i:Nat) (K:PV→Prop):Prop:=
 match sh with
 | .raw=>(match rows[i]? with | some r=>K r | none=>False)
 | sh=>aI (decide (i<rows.length)) (aI (aZ sh (rows.getD i .nils)) (K (rN sh (rows.getD i .nils))))
def Zc:List Cs→Bool
 | []=>true
 | .i _::r=>Zc r
 | _=>false
def ix (sh:Sh) (esz sz:Nat):Sh:=
 match sh with
 | .agg l=>bif !(Nat.beq esz sz)&&(Nat.beq l.length sz&&Zc l) then .raw else .agg l
 | x=>x
def Zd:List Cs→Bool
 | []=>false
 | .d::_=>true
 | _::r=>Zd r
def Ze (sh:Sh) (pu:Bool):Sh:=
 match sh with
 | .agg l=>bif !pu&&Zd l then .raw else .agg l
 | x=>x
def kW (E:Env) (callK:CK) (a:An) (F:aG) (H:Hp) (o:AOp) (K:OK):Prop:=
 match o with
 | .pick c x y=>
  (match evV E F c with
   | some (.bool t)=>aM t (match evV E F x with | some p=>wv H K p | none=>False) (match evV E F y with | some p=>wv H K p | none=>False)
   | _=>False)
 | .bin op x y=>
  (match evV E F x,evV E F y with
   | some (.int k p),some (.int k' q)=>CV op k k' p q (wv H K)
   | _,_=>False)
 | .load agg sz x=>
  (match ev E F x with
   | some (.v (.ptr id ext i off))=>
    (match H[id]? with
     | some b=>aI (decide (b.rows.length=ext)) (yH (Ze (ix a.sh b.esz sz) b.pu) b.rows i fun row=>match yeH agg sz row off with | some p=>wv H K p | none=>False)
     | none=>False)
   | _=>(match yae E Ig F H (.load agg sz x) with | some ⟨x,bx,H'⟩=>K x bx H' | none=>False))
 | .store sz x y=>
  (match ev E F x with
   | some (.v (.ptr id ext i off))=>
    (match evV E F y with
     | some p=>
       (match H[id]? with
        | some b0=>
         Ii b0.pu H p fun q H'=>
          (match H'[id]? with
           | some b=>aI (decide (b.rows.length=ext)) (aI (!b.fz) (yH (Ze a.sh b.pu) b.rows i fun row=>match ygO row off sz q with
            | some row'=>K none none (H'.set id { b with rows:=b.rows.set i row' })
            | none=>False))
           | none=>False)
        | none=>False)
     | none=>False)
   | _=>(match yae E Ig F H (.store sz x y) with | some ⟨x,bx,H'⟩=>K x bx H' | none=>False))
 | .iad esz x i=>
  (match evV E F x,yc9 E F i with
   | some (.data rows),some n=>
    aI (decide (0≤n)) (aI (decide (n<rows.length)) (aI (aZ a.sh (rows.getD n.toNat .nils)) (aI (decide ((rN a.sh (rows.getD n.toNat .nils)).cells.length=esz)) (wv H K (.eptr [rN a.sh (rows.getD n.toNat .nils)] 0 0)))))
   | some (.own id lo len ext _),some n=>
    (match H[id]? with
     | some b=>aI (decide (0≤n)) (aI (decide (n<len)) (aI (decide (b.esz=esz)) (wv H K (.ptr id ext (lo+n.toNat) 0))))
     | none=>False)
   | some (.sub id ext r off m e),some j=>aI (Nat.beq e esz) (Bs m j (fun k=>wv H K (.ptr id ext r (off+k*esz))) m)
   | _,_=>False)
 | .iadA n esz x i=>
  (match ev E F x,yc9 E F i with
   | some (.bp s o),some j=>Bs n j (fun k=>K (some (.bp s (o+k*esz))) none H) n
   | some (.v (.ptr id e r o)),some j=>Bs n j (fun k=>wv H K (.ptr id e r (o+k*esz))) n
   | some (.v (.eptr rows r o)),some j=>Bs n j (fun k=>wv H K (.eptr rows r (o+k*esz))) n
   | _,_=>False)
 | .idx agg n esz x i=>
  (match evV E F x,yc9 E F i with
   | some (.agg cs),some j=>(match x with
    | .c _=>Pb agg n esz cs j (wv H K)
    | _=>Bs n j (fun k=>match yeH agg esz (.agg cs) (k*esz) with | some p=>wv H K p | none=>False) n)
   | _,_=>False)
 | .slc esz x lo hi mx=>
  (match evV E F x,pE E F lo,pE E F hi,pE E F mx with
   | some p,some l,some h,some m=>(match (m.isSome&&h.isNone) with | true=>False | false=>Pd H esz l h m p (wv H K))
   | _,_,_,_=>False)
 | .mkSl pu esz bytes z l c=>
  (match yc9 E F l,yc9 E F c with
   | some l,some c=>aI (decide (0≤l)) (aI (decide (l≤c)) (aI (decide ((c.toNat+64)*(bytes+1)≤room))
      (K (some (.v (.own H.length 0 l.toNat c.toNat (some c.toNat)))) none (H++[⟨false,pu,esz,replicate c.toNat z⟩]))))
   | _,_=>False)
 | .app pu esz bytes s x=>
  (match evV E F s,evV E F x with
   | some s,some x=>Pc H x fun ys=>aI (qL esz ys) (aI (wA H pu x) (CW a.md H pu esz bytes s ys fun r H'=>K (some (.v r)) none H'))
   | _,_=>False)
 | .appZ pu esz bytes z s n=>
  (match evV E F s,yc9 E F n with
   | some .nils,some k=>aI (decide (0≤k)) (aM (decide (k.toNat=0)) (wv H K .nils) (FE H pu esz bytes (replicate k.toNat z) fun r H'=>K (some (.v r)) none H'))
   | _,_=>False)
 | .eqN neg x=>
  (match evV E F x with
   | some .nils=>wv H K (.bool (bif neg then false else true))
   | some (.mt b)=>wv H K (.bool (bif neg then !b else b))
   | some (.data rows)=>aI (!rows.isEmpty) (wv H K (.bool neg))
   | some (.own _ _ _ _ _)=>wv H K (.bool neg)
   | _=>False)
 | .clr pu esz z x=>
  (match evV E F x with
   | some .nils=>wv H K (.tup [])
   | some .emp=>wv H K (.tup [])
   | some (.mt _)=>wv H K (.tup [])
   | some (.own id lo len ext _)=>(match H[id]? with
    | some b=>aM (decide (len=0)) (wv H K (.tup [])) (aI (decide (b.rows.length=ext)) (aI (decide (lo+len≤ext)) (aI (!b.fz) (aI (b.pu==pu) (aI (Nat.beq b.esz esz) (K (some (.v (.tup []))) none (H.set id { b with rows:=b.rows.take lo++(replicate len z++b.rows.drop (lo+len)) })))))))
    | none=>False)
   | _=>False)
 | .boxH pu esz x=>
  (match evV E F x with
   | some p=>Ii pu H p fun q H'=>aI (Nat.beq q.cells.length esz&&kM q.cells) (K (some (.v (.ptr H'.length 1 0 0))) none (H'++[⟨false,pu,esz,[q]⟩]))
   | none=>False)
 | .bSl pu esz z len parts=>
  (match len with
   | 0=>wv H K .emp
   | len+1=>FD E F pu esz (replicate (len+1) z) H parts fun rows H'=>K (some (.v (.own H'.length 0 (len+1) (len+1) (some (len+1))))) none (H'++[⟨false,pu,esz,rows⟩]))
 | .buildN pu esz z len parts=>
  (match len with
   | 0=>wv H K .emp
   | len+1=>FD E F pu esz (replicate (len+1) z) H parts fun rows H'=>K (some (.v (.own H'.length 0 (len+1) (len+1) none))) none (H'++[⟨false,pu,esz,rows⟩]))
 | .bD esz z len parts=>
  (match len with
   | 0=>wv H K .emp
   | len+1=>FD E F true esz (replicate (len+1) z) H parts fun rows H'=>K (some (.v (.data rows))) none H')
 | .mvD x=>
  (match evV E F x with
   | some p=>Ih H p fun q H'=>(match q with | .data rows=>K (some (.v (.data rows))) none H' | _=>False)
   | none=>False)
 | .call f args=>
  (match evV E F f,evs E F args with
   | some g,some vs=>callK g vs H fun r H'=>K (some (.v r)) none H'
   | _,_=>False)
 | o=>(match yae E Ig F H o with | some ⟨x,bx,H'⟩=>K x bx H' | none=>False)
def kB:aG→Nat→FV→aG
 | [],_,_=>[]
 | (k,y)::r,s,x=>bif Nat.beq k s then (k,x)::r else (k,y)::kB r s x
def LD (F:aG) (g:Option (Nat×Bool)) (yes no:aG→Prop):Prop:=
 match g with
 | none=>yes F
 | some (s,want)=>(match fget F s with
  | some (.v (.bool b))=>(match want with
   | true=>aM b (yes (kB F s (.v (.bool true)))) (no (kB F s (.v (.bool false))))
   | false=>aM b (no (kB F s (.v (.bool true)))) (yes (kB F s (.v (.bool false)))))
  | some (.v (.tup []))=>no F
  | _=>False)
def yI (F:aG) (c:Opd) (b:Bool):aG:=
 match c with
 | .t s=>kB F s (.v (.bool b))
 | _=>F
def FF (F:aG):Option Nat→aG
 | some d=>aS F d (.v (.tup []))
 | none=>F
def CX (p:PV) (K:PV→Prop):Prop:=
 match p with
 | .bool b=>K (.bool b)
 | .int k n=>K (.int k n)
 | .agg cs=>K (.agg cs)
 | .data r=>K (.data r)
 | .own a b c d e=>K (.own a b c d e)
 | .ptr a b c d=>K (.ptr a b c d)
 | .sub a b c d e f=>K (.sub a b c d e f)
 | p=>K p
def uG:List PV→(List PV→Prop)→Prop
 | [],K=>K []
 | x::r,K=>CX x fun x=>uG r fun r=>K (x::r)
def yJ (p:PV) (K:PV→Prop):Prop:=
 match p with
 | .agg cs=>uG cs fun cs=>K (.agg cs)
 | .tup cs=>uG cs fun cs=>K (.tup cs)
 | p=>CX p K
def CY (x:FV) (K:FV→Prop):Prop:=
 match x with
 | .v p=>yJ p fun p=>K (.v p)
 | .box p=>yJ p fun p=>K (.box p)
 | .bp s o=>K (.bp s o)
def yK:aG→(aG→Prop)→Prop
 | [],K=>K []
 | (k,x)::r,K=>CY x fun x=>yK r fun r=>K ((k,x)::r)
def CZ (b:Bool) (K:Bool→Prop):Prop:=match b with | true=>K true | false=>K false
def yL:Hp→(Hp→Prop)→Prop
 | [],K=>K []
 | ⟨fz,pu,esz,rows⟩::r,K=>CZ fz fun fz=>CZ pu fun pu=>yL r fun r=>K (⟨fz,pu,esz,rows⟩::r)
theorem Zf (p:PV) (K:PV→Prop):CX p K=K p:=by cases p<;>rfl
theorem Zg:∀ (l:List PV) (K:List PV→Prop),uG l K=K l
 | [],_=>rfl
 | x::r,K=>by simp only [uG,Zf,Zg r]
theorem iy (p:PV) (K:PV→Prop):yJ p K=K p:=by cases p<;>simp only [yJ,Zg,Zf]
theorem iz (x:FV) (K:FV→Prop):CY x K=K x:=by cases x<;>simp only [CY,iy]
theorem Zh:∀ (F:aG) (K:aG→Prop),yK F K=K F
 | [],_=>rfl
 | (k,x)::r,K=>by simp only [yK,iz,Zh r]
theorem ja (b:Bool) (K:Bool→Prop):CZ b K=K b:=by cases b<;>rfl
theorem Zi:∀ (H:Hp) (K:Hp→Prop),yL H K=K H
 | [],_=>rfl
 | ⟨fz,pu,esz,rows⟩::r,K=>by simp only [yL,ja,Zi r]
def Bt (F:aG) (H:Hp) (K:aG→Hp→Prop):Prop:=yK F fun F=>yL H fun H=>K F H
theorem FG (F:aG) (H:Hp) (K:aG→Hp→Prop):Bt F H K=K F H:=by simp only [Bt,Zh,Zi]
def pI (E:Env) (callK:CK) (an:List An):List AO→Nat→aG→Hp→(aG→Hp→Prop)→Prop
 | [],_,F,H,K=>K F H
 | o::r,i,F,H,K=>
  LD F o.guard
   (fun F=>kW E callK (CU an i) F H o.op fun x bx H'=>match ycE (kO F bx) o.dst x with
    | none=>False
    | some F'=>Bt F' H' fun F' H'=>pI E callK an r (i+1) F' H' K)
   (fun F=>pI E callK an r (i+1) (FF F o.dst) H K)
def yEc (E:Env) (F:aG) (f:Opd) (as:List Opd):Option (List Nat):=
 match evV E F f,evs E F as with
 | some g,some vs=>(match yik E g vs with
  | some x=>some (x.id::gC (x.all.set x.j (.int .i64 0)))
  | none=>(match g with
   | .fn (.func n) first captured=>bif E.qui n then some (gC (first++vs++captured)) else none
   | _=>none))
 | _,_=>none
def Bu (E:Env) (F:aG) (H:Hp) (o:AOp):FP:=
 match o with
 | .call f as=>bif wC E F f as then bC E F H (.call f as) else (match yEc E F f as with | some l=>⟨f.slots++xW as,[],List.range H.length,l,true,false⟩ | none=>bC E F H (.call f as))
 | o=>bC E F H o
def yBz (E:Env) (F:aG) (H:Hp) (o:AO):FP:=
 let p:=Bu E F H o.op;⟨Fa o.guard++p.rd,o.dst.toList++p.wr,p.hr,p.hw,p.push,p.all⟩
def fpNo (o:AO):FP:=⟨Fa o.guard,o.dst.toList,[],[],false,false⟩
def rO (E:Env) (callK:CK) (an:List An) (F0:aG) (l0:List AO) (pairs:List (Nat×Nat)):List AO→Nat→aG→Hp→List FP→(aG→Hp→Prop)→Prop
 | [],_,F,H,ps,K=>aI (yg6 ps.reverse pairs&&Fb F0 l0 l0) (K F H)
 | o::r,i,F,H,ps,K=>
  LD F o.guard
   (fun F=>kW E callK (CU an i) F H o.op fun x bx H'=>match yfv (kO F bx) o.dst x with
    | none=>False
    | some F'=>Bt F' H' fun F' H'=>rO E callK an F0 l0 pairs r (i+1) F' H' (yBz E F H o::ps) K)
   (fun F=>rO E callK an F0 l0 pairs r (i+1) (FF F o.dst) H (fpNo o::ps) K)
abbrev LP:=Nat→aG→aG→Hp→(Ex→aG→Hp→Prop)→Prop
abbrev YK:=List PV→Hp→(Option Nat→Hp→Prop)→Prop
def cJ:YK:=fun _ _ _=>False
def Da (K:Nat) (H:Hp) (Q:Hp→Prop):Prop:=aI (jZ (noY K) (fun _=>true) H) (Q H)
def WC (E:Env) (callK:CK) (lp:LP):aG→YK→TC→aG→Hp→(Ex→aG→Hp→Prop)→Prop
 | _,_,.skip,F,H,Q=>Q .norm F H
 | _,_,.ops l an [] fg,F,H,Q=>pI E callK an l 0 F H fun F' H'=>Bt (fdels F' fg) H' fun F' H'=>Q .norm F' H'
 | _,_,.ops l an (p::ps) fg,F,H,Q=>bif Fe l (p::ps) then pI E callK an l 0 F H fun F' H'=>Bt (fdels F' fg) H' fun F' H'=>Q .norm F' H' else rO E callK an (xY F l) l (p::ps) l 0 (xY F l) H [] fun F' H'=>Bt (fdels F' fg) H' fun F' H'=>Q .norm F' H'
 | G,yk,.seq a b,F,H,Q=>WC E callK lp G yk a F H fun x F' H'=>match x with
  | .norm=>WC E callK lp G yk b F' H' Q
  | .exit i=>Q (.exit i) F' H'
  | .ret=>Q .ret F' H'
  | .brk k i=>Q (.brk k i) F' H'
 | G,yk,.cond c a b,F,H,Q=>(match evV E F c with
  | some (.bool t)=>aM t (WC E callK lp G yk a (yI F c true) H Q) (WC E callK lp G yk b (yI F c false) H Q)
  | _=>False)
 | G,yk,.block id b,F,H,Q=>WC E callK lp G yk b F H fun x F' H'=>match x with
  | .norm=>Q .norm F' H'
  | .exit i=>(bif Nat.beq i id then Q .norm F' H' else Q (.exit i) F' H')
  | .ret=>Q .ret F' H'
  | .brk k i=>Q (.brk k i) F' H'
 | G,_,.loop id _,F,H,Q=>lp id G F H Q
 | G,_,.lG id _,F,H,Q=>lp id G F H Q
 | G,_,.join id _,F,H,Q=>lp id G F H Q
 | _,_,.exit id,F,H,Q=>Q (.exit id) F H
 | _,_,.ret,F,H,Q=>Q .ret F H
 | _,_,.bad,_,_,_=>False
 | _,_,.cut _,_,_,_=>False
 | _,_,.rangeF g f np ib ps as bd,F,H,Q=>(match evV E F g with
  | some (.fn (.func n) first cap)=>aI (Nat.beq n f&&decide ((first++[PV.fn (.yield E.yn) [] []]++cap).length=np))
   (WC E callK lp (iI F) (fun vs H K=>match yil (iI F) ps vs with
     | some F1=>WC E callK lp [] cJ as F1 H fun x F2 H2=>match x with
      | .norm=>WC E callK lp [] cJ bd F2 H2 fun x _ H3=>match x with
       | .norm=>K none H3
       | .exit i=>K (some i) H3
       | .ret | .brk _ _=>False
      | .exit _ | .ret | .brk _ _=>False
     | none=>False) ib (jY 0 (first++[PV.fn (.yield E.yn) [] []]++cap)) H fun x _ H'=>match x with
    | .norm | .ret=>Da E.yn H' fun H'=>Q .norm F H'
    | .brk k i=>aI (Nat.beq k E.yn) (Da E.yn H' fun H'=>Q (.exit i) F H')
    | .exit _=>False)
  | _=>False)
 | _,yk,.yret _ pre d y args e fgt,F,H,Q=>pI E callK [] pre 0 F H fun F1 H1=>(match evV E F1 y,evs E F1 args with
  | some (.fn (.yield k) [] []),some vs=>aI (Nat.beq k E.yn) (yk vs H1 fun r H2=>match r with
   | none=>Bt (fdels (aS (aS F1 d (.v (.bool true))) e (.v (.bool false))) fgt) H2 fun F' H'=>Q .norm F' H'
   | some i=>Q (.brk k i) (aS (aS F1 d (.v (.bool false))) e (.v (.bool true))) H2)
  | _,_=>False)
def Pe (E:Env) (callK:CK) (lp:LP) (G:aG) (ps:List Nat) (as bd:TC):YK:=fun vs H K=>match yil G ps vs with
 | some F1=>WC E callK lp [] cJ as F1 H fun x F2 H2=>match x with
  | .norm=>WC E callK lp [] cJ bd F2 H2 fun x _ H3=>match x with
   | .norm=>K none H3
   | .exit i=>K (some i) H3
   | .ret | .brk _ _=>False
  | .exit _ | .ret | .brk _ _=>False
 | none=>False
abbrev Qx:Type:=Ex→aG→Hp→Prop
abbrev Zj (R:aG→Hp→Prop) (Q:Qx):Qx:=fun x F' H'=>match x with | .norm=>R F' H' | .exit i=>Q (.exit i) F' H' | .ret=>Q .ret F' H' | .brk k i=>Q (.brk k i) F' H'
def LE (E:Env) (callK:CK) (lp:LP) (fn:TFn) (args:List PV) (H:Hp) (K:PV→Hp→Prop):Prop:=
 aI (decide (args.length=fn.nparams)) (WC E callK lp [] cJ fn.body (jY 0 args) H fun x F' H'=>match x with
  | .exit _ | .brk _ _=>False
  | .norm | .ret=>(match ycF F' H' fn.results with | some ps=>K (lL ps) H' | none=>False))
structure SE where
 E:Env
 sumK:Nat→Option (List PV→(PV→Prop)→Prop)
 inl:Nat→Option TFn
 lp:LP
 sumL:Nat→Option (List PV→HB→(PV→List PV→Prop)→Prop)
def Ik (wp:List PV→HB→(PV→List PV→Prop)→Prop) (x:LocC) (H:Hp) (K:PV→Hp→Prop):Prop:=
 FC H (x.all.set x.j (.int .i64 0)) fun as H'=>match H'[x.id]? with
  | some b=>aI (!b.fz&&b.pu) (wp (as.set x.j x.y) b fun q rows=>K q (H'.set x.id { b with rows:=rows }))
  | none=>False
def gJ (S:SE):Nat→CK
 | 0,_,_,_,_=>False
 | d+1,f,args,H,K=>
  match f with
  | .fn (.func n) first captured=>
   (match yik S.E f args with
   | some x=>(match S.sumL x.n with | some wp=>Ik wp x H K | none=>False)
   | none=>
   match S.sumK n with
    | some wp=>(bif S.E.rb n then LC (kS H) (first++args++captured) fun as=>wp as fun r=>aI r.scalar (K r H)
     else FC H (first++args++captured) fun as H'=>wp as fun r=>K r (bif r.scalar then H else H'))
    | none=>(match S.inl n with
     | some fn=>(bif S.E.rb n then False else LE S.E (gJ S d) S.lp fn (first++args++captured) H K)
     | none=>(match S.E.eff n (first++args++captured) H with
      | some (c,t,x,y)=>aI c (aM t (K x.1 x.2) (K y.1 y.2))
      | none=>False)))
  | _=>False
@[irreducible] def WP (S:SE) (d:Nat) (fn:TFn) (args:List PV) (K:PV→Prop):Prop:=
 LE S.E (gJ S d) S.lp fn args [] fun r H=>Lz H r K
abbrev EP:=Nat→Env→Prop
def gN (E e:Env):Prop:=e={ E with yn:=e.yn,ctx:=e.ctx,yl:=e.yl }
def cB (E:Env):EP:=fun _ e=>gN E e
def nQ (E:Env):EP:=fun _ e=>e=E
def wJ (E:Env):EP:=fun _ e=>e=E.ats (E.yn+1)
def aX (P:EP) (E:Env):Prop:=∀ n e,P n e→gN E e
theorem aX.uni (E:Env):aX (cB E) E:=fun _ _ h=>h
theorem aX.solo (E:Env):aX (nQ E) E:=fun _ e h=>by cases h;rfl
theorem aX.ats (E:Env):aX (wJ E) E:=fun _ e h=>by cases h;rfl
def hnd (E:Env) (G:aG) (ps:List Nat) (as bd:AC) (n:Nat):Nat→List PV→Hp→Option (Option Nat×Hp):=fun y vs H=>(match yil G ps vs with
 | some F1=>(match exec (E.ats y) n as F1 H with
  | some (.norm,F2,H2)=>(match exec (E.ats y) n bd F2 H2 with
   | some (.norm,_,H3)=>some (none,H3)
   | some (.exit i,_,H3)=>some (some i,H3)
   | _=>none)
  | _=>none)
 | none=>none)
def Rng (E:Env) (G:aG) (ps:List Nat) (as bd:AC):EP:=fun n e=>e=E.push ⟨G,ps,as,bd⟩ (hnd E G ps as bd n)
theorem aX.rng (E:Env) (G:aG) (ps:List Nat) (as bd:AC):aX (Rng E G ps as bd) E:=fun _ e h=>by cases h;rfl
def Good (P:EP) (callK:CK):Prop:=
 ∀ f args H K,callK f args H K→∃ r H',K r H'∧∃ m0,∀ n e m,m0≤n→P n e→m0≤m→yhG e (ya9 e m) f args H=some (r,H')
theorem Good.sub {E:Env} {P:EP} {callK:CK} (h:Good (cB E) callK) (hP:aX P E):Good P callK:=fun f args H K hk=>by obtain ⟨r,H',k,m0,hm⟩:=h f args H K hk;exact ⟨r,H',k,m0,fun n e m h1 h2 h3=>hm n e m h1 (hP n e h2) h3⟩
section
variable {E:Env} {y:Nat} {cx:Nat→Option LCtx} {yl:Nat→Nat→List PV→Hp→Option (Option Nat×Hp)}
theorem LF (F:aG) (x:Opd):ev { E with yn:=y,ctx:=cx,yl:=yl } F x=ev E F x:=by cases x<;>rfl
theorem wK (F:aG) (x:Opd):evV { E with yn:=y,ctx:=cx,yl:=yl } F x=evV E F x:=by simp only [evV,LF]
theorem FH (F:aG):∀ l:List Opd,evs { E with yn:=y,ctx:=cx,yl:=yl } F l=evs E F l
 | []=>rfl
 | x::r=>by simp only [evs,wK,FH F r]
theorem Zk (F:aG) (x:Opd):yc9 { E with yn:=y,ctx:=cx,yl:=yl } F x=yc9 E F x:=by simp only [yc9,wK]
theorem jb (F:aG) (x:Option Opd):pE { E with yn:=y,ctx:=cx,yl:=yl } F x=pE E F x:=by cases x<;>simp only [pE,Zk]
theorem Zl (F:aG):∀ (l:List (Nat×Nat×Opd)) (cs:List PV),yhF { E with yn:=y,ctx:=cx,yl:=yl } F cs l=yhF E F cs l
 | [],_=>rfl
 | (_,_,x)::r,cs=>by simp only [yhF,wK,Zl F r]
theorem Zm (F:aG) (pu:Bool) (esz:Nat):∀ (l:List (Nat×Opd)) (rows:List PV) (H:Hp),yfa { E with yn:=y,ctx:=cx,yl:=yl } F pu esz rows H l=yfa E F pu esz rows H l
 | [],_,_=>rfl
 | (_,x)::r,rows,H=>by simp only [yfa,wK,Zm F pu esz r]
theorem Zn (F:aG) (x:Opd):mH { E with yn:=y,ctx:=cx,yl:=yl } F x=mH E F x:=by simp only [mH,LF]
theorem jc (F:aG) (x:Opd):sV { E with yn:=y,ctx:=cx,yl:=yl } F x=sV E F x:=by simp only [sV,LF]
theorem Zo (F:aG):∀ l:List (Nat×Opd),oJ { E with yn:=y,ctx:=cx,yl:=yl } F l=oJ E F l
 | []=>rfl
 | (_,x)::r=>by simp only [oJ,Zn,Zo F r]
theorem jd (F:aG) (f:Opd) (as:List Opd):wC { E with yn:=y,ctx:=cx,yl:=yl } F f as=wC E F f as:=by simp only [wC,wK,FH]
theorem je (F:aG) (H:Hp) (o:AOp):bC { E with yn:=y,ctx:=cx,yl:=yl } F H o=bC E F H o:=by
 cases o<;>simp only [bC,Zn,jc,Zo,jd]
theorem jg {F:aG} {H:Hp} {o:AOp} (h:rJ o=false) (c1 c2:Nat→List PV→Hp→Option (PV×Hp)):yae { E with yn:=y,ctx:=cx,yl:=yl } c1 F H o=yae E c2 F H o:=by
 cases o<;>first | (simp [rJ] at h;done) | simp only [yae,LF,wK,FH,Zk,jb,Zl,Zm]
end
def Zp (E:Env) (F:aG) (H:Hp) (o:AOp) (K:OK):Prop:=
 ∃ out:Out,K out.x out.bx out.h∧∃ m0,∀ m,m0≤m→yae E (ya9 E m) F H o=some out
def jh (P:EP) (F:aG) (H:Hp) (o:AOp) (K:OK):Prop:=
 ∃ out:Out,K out.x out.bx out.h∧∃ m0,∀ n e m,m0≤n→P n e→m0≤m→yae e (ya9 e m) F H o=some out
section
variable {E:Env} {callK:CK} {F:aG} {H:Hp} {K:OK}
theorem ji {o:AOp} (h:rJ o=false) (c1 c2:Nat→List PV→Hp→Option (PV×Hp)):yae E c1 F H o=yae E c2 F H o:=by
 cases o<;>first | rfl | simp [rJ] at h
theorem Pg {o:AOp} (hc:rJ o=false) (h:match yae E Ig F H o with | some ⟨x,bx,H'⟩=>K x bx H' | none=>False):Zp E F H o K:=by
 split at h
 ·rename_i x bx H' he;exact ⟨⟨x,bx,H'⟩,h,0,fun m _=>by rw [ji hc (ya9 E m) Ig,he]⟩
 ·exact h.elim
theorem Ph {H:Hp} {x:PV} {K:PV→Hp→Prop} (h:Ih H x K):∃ y H',K y H'∧ydZ H x=some (y,H'):=by
 unfold Ih at h;split at h
 ·exact ⟨_,_,h,rfl⟩
 ·exact ⟨_,_,h,rfl⟩
 ·exact ⟨_,_,h,rfl⟩
 ·exact ⟨_,_,h,rfl⟩
 ·exact ⟨_,_,h,rfl⟩
 ·split at h
  ·rename_i b hb;obtain ⟨h1,h⟩:=bZ.1 h;obtain ⟨h2,h⟩:=bZ.1 h;obtain ⟨h3,h⟩:=bZ.1 h;exact ⟨_,_,h,by simp only [ydZ,hb];rw [WN ⟨by simpa using h1,by simpa using h2,h3⟩]⟩
  ·exact h.elim
 ·exact h.elim
theorem Zq:∀ (l:List PV) (H:Hp) (K:List PV→Hp→Prop),Ly H l K→∃ ys H',K ys H'∧yc7 H l=some (ys,H')
 | [],H,K,h=>⟨_,_,h,rfl⟩
 | x::r,H,K,h=>by simp only [Ly] at h;obtain ⟨y,H1,h,e1⟩:=Ph h;obtain ⟨ys,H2,h,e2⟩:=Zq r H1 _ h;exact ⟨_,_,h,by simp only [yc7,e1,e2]⟩
theorem Il {H:Hp} {x:PV} {K:PV→Hp→Prop} (h:yG H x K):∃ y H',K y H'∧ybm H x=some (y,H'):=by
 cases x with
 | agg cs =>simp only [yG] at h;obtain ⟨ys,H',h,e⟩:=Zq cs H _ h;exact ⟨_,_,h,by simp only [ybm,e,Option.map]⟩
 | _ =>simp only [yG] at h;obtain ⟨y,H',h,e⟩:=Ph h;exact ⟨_,_,h,by simp only [ybm,e]⟩
theorem LG:∀ (l:List PV) (H:Hp) (K:List PV→Hp→Prop),FC H l K→∃ ys H',K ys H'∧yaC H l=some (ys,H')
 | [],H,K,h=>⟨_,_,h,rfl⟩
 | x::r,H,K,h=>by simp only [FC] at h;obtain ⟨y,H1,h,e1⟩:=Il h;obtain ⟨ys,H2,h,e2⟩:=LG r H1 _ h;exact ⟨_,_,h,by simp only [yaC,e1,e2]⟩
theorem jj {H:Hp} {x:PV} {K:PV→Prop} (h:LA H x K):∃ y,K y∧purP H x=some y:=by
 have base:∀ {x:PV},yG H x (fun q _=>K q)→∃ y,K y∧(match ybm H x with | some (q,_)=>some q | none=>none)=some y:=fun h=>by
  obtain ⟨y,H',h,e⟩:=Il h;exact ⟨y,h,by simp only [e]⟩
 cases x with
 | ptr id ext i off=>
  simp only [LA] at h;split at h
  ·rename_i b hb;obtain ⟨h1,h⟩:=bZ.1 h;split at h
   ·rename_i row hrow;obtain ⟨y,H',h,e⟩:=Il h;exact ⟨_,h,by simp only [purP,hb,hrow,e];rw [WN (by simpa using h1)]⟩
   ·exact h.elim
  ·exact h.elim
 | eptr rows i off=>exact ⟨_,h,rfl⟩
 | _=>simp only [LA] at h;exact base h
theorem Zr {H:Hp}:∀ (l:List PV) (K:List PV→Prop),LC H l K→∃ ys,K ys∧yr2 H l=some ys
 | [],K,h=>⟨_,h,rfl⟩
 | x::r,K,h=>by simp only [LC] at h;obtain ⟨y,h,e1⟩:=jj h;obtain ⟨ys,h,e2⟩:=Zr r _ h;exact ⟨_,h,by simp only [yr2,e1,e2]⟩
theorem jk {H:Hp} {x:PV} {K:PV→Prop} (h:Lz H x K):∃ q,K q∧purR H x=some q:=by
 cases x with
 | tup ps =>simp only [Lz] at h;obtain ⟨ys,H',h,e⟩:=LG ps H _ h;exact ⟨_,h,by simp only [purR,e]⟩
 | _ =>simp only [Lz] at h;obtain ⟨y,H',h,e⟩:=Il h;exact ⟨_,h,by simp only [purR,e]⟩
theorem Pi {pu:Bool} {H:Hp} {x:PV} {K:PV→Hp→Prop} (h:Ii pu H x K):∃ y H',K y H'∧(if pu then ybm H x else some (x,H))=some (y,H'):=by
 cases pu with
 | true=>simp only [Ii] at h;obtain ⟨y,H',h,e⟩:=Il h;exact ⟨y,H',h,by simpa using e⟩
 | false=>exact ⟨_,_,h,by simp⟩
theorem LH {pu:Bool} {esz:Nat}:∀ (l:List (Nat×Opd)) (rows:List PV) (H:Hp) (K:List PV→Hp→Prop),FD E F pu esz rows H l K →
  ∃ rows' H',K rows' H'∧yfa E F pu esz rows H l=some (rows',H')
 | [],rows,H,K,h=>⟨_,_,h,rfl⟩
 | (i,x)::r,rows,H,K,h=>by
  simp only [FD] at h;split at h
  ·rename_i p hp;obtain ⟨q,H',h,e⟩:=Pi h;obtain ⟨h1,h⟩:=bZ.1 h;simp only [cU] at h1;obtain ⟨rows',H2,h,e2⟩:=LH r _ H' K h;refine ⟨rows',H2,h,?_⟩;simp only [yfa,hp,e];rw [WN ⟨jT h1.1.1,(show i+1≤rows.length from AS h1.1.2),h1.2⟩];exact e2
  ·exact h.elim
theorem jl {op:BinOp} {k k':IntKind} {a b:Int} {K:PV→Prop} (h:CV op k k' a b K):∃ r,K r∧binV op (.int k a) (.int k' b)=some r:=by
 cases op<;>simp only [CV] at h
 case quo=>
  obtain ⟨h1,h2⟩:=bZ.1 h;obtain ⟨h3,h4⟩:=bZ.1 h2;have e1:k=k':=by simpa using h1
  have e2:¬b=0:=by simpa using h3
  exact ⟨_,h4,by simp [binV,e1,binI,e2]⟩
 case rem=>
  obtain ⟨h1,h2⟩:=bZ.1 h;obtain ⟨h3,h4⟩:=bZ.1 h2;have e1:k=k':=by simpa using h1
  have e2:¬b=0:=by simpa using h3
  exact ⟨_,h4,by simp [binV,e1,binI,e2]⟩
 case shl=>
  obtain ⟨h1,h2⟩:=bZ.1 h;have e1:¬b<0:=by simpa using h1
  exact ⟨_,h2,by simp only [binV,EX,e1,if_false]⟩
 case shr=>
  obtain ⟨h1,h2⟩:=bZ.1 h;have e1:¬b<0:=by simpa using h1
  exact ⟨_,h2,by simp only [binV,EX,e1,if_false]⟩
 all_goals
  obtain ⟨h1,h2⟩:=bZ.1 h;have e1:k=k':=by simpa using h1
  split at h2
  ·rename_i r hr;exact ⟨r,h2,by simp only [binV,e1,if_true];rw [← e1];exact hr⟩
  ·exact h2.elim
theorem FI {n:Nat} {j:Int} {K:Nat→Prop}:∀ m,m≤n→Bs n j K m→∃ k:Nat,K k∧j=(k:Int)∧k<n
 | 0,_,h=>h.elim
 | m+1,hm,h=>by
  simp only [Bs] at h;obtain ⟨h1,h2⟩:=rM.1 h
  by_cases hj:j=((n-(m+1):Nat):Int)
  ·exact ⟨_,h1 (by simpa using hj),hj,by omega⟩
  ·exact FI m (by omega) (h2 (by simpa using hj))
theorem Zs:∀ (cs:List PV) (i:Nat),Ij cs=true→i<cs.length→cs[i]?=some (.int .u8 (bV (cs.getD i .nils)))
 | [],i,_,h=>by simp at h
 | x::r,i,hu,hi=>by
  cases x with
  | int k n=>
   cases k<;>simp only [Ij,iZ] at hu
   cases i with
   | zero=>simp [bV]
   | succ i=>have:=Zs r i hu (by simpa using hi);simpa using this
  | _=>simp [Ij] at hu
theorem jm {x:PV} {K:List PV→Prop} (h:Pc H x K):∃ ys,K ys∧yfV H x=some ys:=by
 unfold Pc at h;split at h
 ·exact ⟨_,h,rfl⟩
 ·exact ⟨_,h,rfl⟩
 ·exact ⟨_,h,rfl⟩
 ·split at h
  ·rename_i b hb;obtain ⟨h1,h2⟩:=bZ.1 h;obtain ⟨h3,h4⟩:=bZ.1 h2;exact ⟨_,h4,by simp only [yfV,hb];rw [WN ⟨by simpa using h1,by simpa using h3⟩]⟩
  ·exact h.elim
 ·exact h.elim
theorem LI {pu:Bool} {esz bytes:Nat} {rows:List PV} {K:PV→Hp→Prop} (h:FE H pu esz bytes rows K):∃ r H',K r H'∧yce H pu esz bytes rows=some (r,H'):=by obtain ⟨h1,h2⟩:=bZ.1 h;exact ⟨_,_,h2,by simp only [yce];rw [WN (by simpa using h1)]⟩
def pJ (H:Hp) (pu:Bool) (esz bytes:Nat) (ys:List PV):PV→Option (PV×Hp)
 | .nils=>if ys.isEmpty then some (.nils,H) else yce H pu esz bytes ys
 | .emp=>if ys.isEmpty then some (.emp,H) else yce H pu esz bytes ys
 | .own id lo len ext cap=>
  (match H[id]? with
   | some b=>if b.rows.length=ext∧b.pu=pu∧b.esz=esz∧lo+len≤ext then
    (if ys.isEmpty then some (.own id lo len ext cap,H) else oH H pu esz bytes ys id lo len ext cap b) else none
   | none=>none)
 | _=>none
theorem jo {md:Nat} {pu:Bool} {esz bytes:Nat} {s x:PV} {ys:List PV} {K:PV→Hp→Prop} (hy:yfV H x=some ys) (hh:qL esz ys=true) (hs:wA H pu x=true) (h:CW md H pu esz bytes s ys K) :
  ∃ r H',K r H'∧appV H pu esz bytes s x=some (r,H'):=by
 have e0:appV H pu esz bytes s x=pJ H pu esz bytes ys s:=by simp only [appV,hy];rw [WN ⟨hh,hs⟩];cases s<;>rfl
 rw [e0];clear e0 hy hs;unfold CW at h;split at h
 ·obtain ⟨h1,h2⟩:=rM.1 h
  cases hE:ys.isEmpty with
  | true=>exact ⟨_,_,h1 hE,by simp [pJ,hE]⟩
  | false =>obtain ⟨r,H',hk,hf⟩:=LI (h2 hE);exact ⟨r,H',hk,by simp [pJ,hE,hf]⟩
 ·obtain ⟨h1,h2⟩:=rM.1 h
  cases hE:ys.isEmpty with
  | true=>exact ⟨_,_,h1 hE,by simp [pJ,hE]⟩
  | false =>obtain ⟨r,H',hk,hf⟩:=LI (h2 hE);exact ⟨r,H',hk,by simp [pJ,hE,hf]⟩
 ·rename_i id lo len ext cap;split at h
  ·rename_i b hb;obtain ⟨h1,h⟩:=bZ.1 h;obtain ⟨h2,h⟩:=bZ.1 h;obtain ⟨h3,h⟩:=bZ.1 h;simp only [cU,decide_eq_true_eq] at h1 h2 h3;obtain ⟨k1,k2⟩:=rM.1 h;have hc:b.rows.length=ext∧b.pu=pu∧b.esz=esz∧lo+len≤ext:=⟨h1,h2.1,h2.2,h3⟩
   cases hE:ys.isEmpty with
   | true=>exact ⟨_,_,k1 hE,by simp only [pJ,hb];rw [WN hc];simp [hE]⟩
   | false=>
    have h:=k2 hE
    suffices ∃ r H',K r H'∧oH H pu esz bytes ys id lo len ext cap b=some (r,H') by obtain ⟨r,H',hk,hf⟩:=this;exact ⟨r,H',hk,by simp only [pJ,hb];rw [WN hc];simp [hE,hf]⟩
    cases cap with
    | some c=>
     simp only at h;have key1:decide (len+ys.length≤c)=true→aI (!b.fz) (K (.own id lo (len+ys.length) ext (some c)) (H.set id { b with rows:=b.rows.take (lo+len)++(ys++b.rows.drop (lo+len+ys.length)) })) →
       ∃ r H',K r H'∧oH H pu esz bytes ys id lo len ext (some c) b=some (r,H'):=by
      intro e1 e2;obtain ⟨e3,e4⟩:=bZ.1 e2;refine ⟨_,_,e4,?_⟩;simp only [oH];rw [WN (by simpa using e1),WN (by simpa using e3)]
     have key2:decide (len+ys.length≤c)=false→FE H pu esz bytes ((b.rows.drop lo).take len++ys) K →
       ∃ r H',K r H'∧oH H pu esz bytes ys id lo len ext (some c) b=some (r,H'):=by
      intro e1 e2;obtain ⟨r,H',hk,hf⟩:=LI e2;refine ⟨r,H',hk,?_⟩;simp only [oH];rw [WO (by simpa using e1)];exact hf
     split at h
     ·obtain ⟨a1,a2⟩:=rM.1 h
      cases hd:decide (len+ys.length≤c) with
      | true=>exact key1 hd (a1 hd)
      | false=>exact key2 hd (a2 hd)
     ·obtain ⟨a1,a2⟩:=rM.1 h
      cases hd:decide (len+ys.length≤c) with
      | true=>exact key1 hd (a1 hd)
      | false=>exact key2 hd (a2 hd)
     ·obtain ⟨a1,a2⟩:=bZ.1 h;exact key2 (by simpa using a1) a2
     ·obtain ⟨a1,a2⟩:=bZ.1 h;exact key1 a1 a2
    | none=>
     simp only at h;obtain ⟨hfz,h⟩:=bZ.1 h;have hfz':¬b.fz=true:=by simpa using hfz
     have key1:decide (lo+len+ys.length≤ext)=true→K (.own id lo (len+ys.length) ext none) (H.set id { b with rows:=b.rows.take (lo+len)++(ys++b.rows.drop (lo+len+ys.length)) }) →
       ∃ r H',K r H'∧oH H pu esz bytes ys id lo len ext none b=some (r,H'):=by
      intro e1 e2;refine ⟨_,_,e2,?_⟩;simp only [oH];rw [WO hfz',WN (by simpa using e1)]
     have key3:decide (lo+len+ys.length≤ext)=false→aI (decide (lo=0)) (aI (decide (len=ext)) (aI (decide ((ext+ys.length+64)*(bytes+1)≤room))
        (K (.own id 0 (b.rows++ys).length (b.rows++ys).length none) (H.set id { b with rows:=b.rows++ys })))) →
       ∃ r H',K r H'∧oH H pu esz bytes ys id lo len ext none b=some (r,H'):=by
      intro e1 e2;obtain ⟨e3,e2⟩:=bZ.1 e2;obtain ⟨e4,e2⟩:=bZ.1 e2;obtain ⟨e5,e2⟩:=bZ.1 e2;simp only [decide_eq_true_eq] at e3 e4 e5;refine ⟨_,_,e2,?_⟩;simp only [oH];rw [WO hfz',WO (by simpa using e1),WN ⟨e3,by omega,by rw [e4];exact e5⟩];have e6:b.rows.take len=b.rows:=AR (by omega);have e7:(b.rows++ys).length=len+ys.length:=by rw [lU,h1,e4]
      rw [e6,e7]
     have key4:decide (lo+len+ys.length≤ext)=false→aI (decide (lo=0)) (aI (decide (len≤ext)) (aI (decide ((len+ys.length+64)*(bytes+1)≤room))
        (K (.own id 0 (len+ys.length) (len+ys.length) none) (H.set id { b with rows:=b.rows.take len++ys })))) →
       ∃ r H',K r H'∧oH H pu esz bytes ys id lo len ext none b=some (r,H'):=by
      intro e1 e2;obtain ⟨e3,e2⟩:=bZ.1 e2;obtain ⟨e4,e2⟩:=bZ.1 e2;obtain ⟨e5,e2⟩:=bZ.1 e2;simp only [decide_eq_true_eq] at e3 e4 e5;refine ⟨_,_,e2,?_⟩;simp only [oH];rw [WO hfz',WO (by simpa using e1),WN ⟨e3,e4,e5⟩]
     split at h
     ·obtain ⟨a1,a2⟩:=rM.1 h
      cases hd:decide (lo+len+ys.length≤ext) with
      | true=>exact key1 hd (a1 hd)
      | false=>exact key3 hd (a2 hd)
     ·obtain ⟨a1,a2⟩:=rM.1 h
      cases hd:decide (lo+len+ys.length≤ext) with
      | true=>exact key1 hd (a1 hd)
      | false=>exact key4 hd (a2 hd)
     ·obtain ⟨a1,a2⟩:=bZ.1 h;exact key1 a1 a2
     ·obtain ⟨a1,a2⟩:=bZ.1 h;exact key3 (by simpa using a1) a2
  ·exact h.elim
 ·exact h.elim
theorem jp {esz:Nat} {lo hi mx:Option Int} {x:PV} {K:PV→Prop} (h:Pd H esz lo hi mx x K):∃ r,K r∧yfW H esz lo hi mx x=some r:=by
 unfold Pd at h;split at h
 ·obtain ⟨h1,h2⟩:=bZ.1 h;simp only [cU,decide_eq_true_eq] at h1;exact ⟨_,h2,by simp only [yfW];rw [WN h1]⟩
 ·obtain ⟨h1,h2⟩:=bZ.1 h;simp only [cU,decide_eq_true_eq] at h1;exact ⟨_,h2,by simp only [yfW];rw [WN h1]⟩
 ·rename_i rows;simp only at h;split at h
  ·obtain ⟨h1,h⟩:=bZ.1 h;obtain ⟨h2,h⟩:=bZ.1 h;obtain ⟨h3,h⟩:=bZ.1 h;obtain ⟨h4,h⟩:=bZ.1 h;simp only [sR,decide_eq_true_eq] at h1 h2 h3 h4;exact ⟨_,h,by simp only [yfW];rw [WN ⟨h1,h2,h3,h4⟩]⟩
  ·rename_i m;obtain ⟨h1,h⟩:=bZ.1 h;obtain ⟨h2,h⟩:=bZ.1 h;obtain ⟨h3,h⟩:=bZ.1 h;obtain ⟨h4,h⟩:=bZ.1 h;obtain ⟨h5,h⟩:=bZ.1 h;obtain ⟨k1,k2⟩:=rM.1 h;simp only [sR,decide_eq_true_eq] at h1 h2 h3 h4 h5
   by_cases hl:lo.getD 0=m
   ·exact ⟨_,k1 (by simpa using hl),by simp only [yfW];rw [WN ⟨h1,h2,h3,h4,h5⟩,WN hl]⟩
   ·exact ⟨_,k2 (by simpa using hl),by simp only [yfW];rw [WN ⟨h1,h2,h3,h4,h5⟩,WO hl]⟩
 ·rename_i id lo0 len ext cap;simp only at h;split at h
  ·rename_i b hb;obtain ⟨h0,h⟩:=bZ.1 h;split at h
   ·obtain ⟨h1,h⟩:=bZ.1 h;obtain ⟨h2,h⟩:=bZ.1 h;obtain ⟨h3,h⟩:=bZ.1 h;simp only [sR,decide_eq_true_eq] at h1 h2 h3;exact ⟨_,h,by simp only [yfW,hb,h0,Bool.true_eq_false,if_false];rw [WN ⟨h1,h2,h3⟩]⟩
   ·obtain ⟨h1,h⟩:=bZ.1 h;obtain ⟨h2,h⟩:=bZ.1 h;obtain ⟨h3,h⟩:=bZ.1 h;obtain ⟨h4,h⟩:=bZ.1 h;simp only [sR,decide_eq_true_eq] at h1 h2 h3 h4;exact ⟨_,h,by simp only [yfW,hb,h0,Bool.true_eq_false,if_false];rw [WN ⟨h1,h2,h3,h4⟩]⟩
  ·exact h.elim
 ·exact h.elim
theorem Zt {sh:Sh} {rows:List PV} {i:Nat} {K:PV→Prop} (h:yH sh rows i K):∃ r,K r∧rows[i]?=some r:=by
 have key:aI (decide (i<rows.length)) (aI (aZ sh (rows.getD i .nils)) (K (rN sh (rows.getD i .nils))))→∃ r,K r∧rows[i]?=some r:=by
  intro h;obtain ⟨h1,h⟩:=bZ.1 h;obtain ⟨h2,h⟩:=bZ.1 h;have hi:i<rows.length:=by simpa using h1
  rw [Zb _ _ h2] at h;refine ⟨_,h,?_⟩;rw [dF hi,dQ,dF hi];rfl
 unfold yH at h;split at h
 ·split at h
  ·rename_i r hr;exact ⟨r,h,hr⟩
  ·exact h.elim
 ·exact key h
theorem jq {a:An} {o:AOp} (hc:rJ o=false) (h:kW E callK a F H o K):Zp E F H o K:=by
 cases o
 case pick c x y=>
  simp only [kW] at h;split at h
  ·rename_i t ht;obtain ⟨h1,h2⟩:=rM.1 h
   cases t with
   | true=>
    have h:=h1 rfl;split at h
    ·rename_i p hp;exact ⟨⟨some (.v p),none,H⟩,h,0,fun m _=>by simp only [yae,ht,hp];rfl⟩
    ·exact h.elim
   | false=>
    have h:=h2 rfl;split at h
    ·rename_i p hp;exact ⟨⟨some (.v p),none,H⟩,h,0,fun m _=>by simp only [yae,ht,hp];rfl⟩
    ·exact h.elim
  ·exact h.elim
 case bin op x y=>
  simp only [kW] at h;split at h
  ·rename_i k p k' q hx hy;obtain ⟨r,hk,hr⟩:=jl h;exact ⟨⟨some (.v r),none,H⟩,hk,0,fun m _=>by simp only [yae,hx,hy,hr];rfl⟩
  ·exact h.elim
 case eqN neg x=>
  simp only [kW] at h;split at h
  ·rename_i hx;exact ⟨⟨some (.v (.bool (bif neg then false else true))),none,H⟩,h,0,fun m _=>by simp only [yae,hx];cases neg<;>rfl⟩
  ·rename_i b hx;exact ⟨⟨some (.v (.bool (bif neg then !b else b))),none,H⟩,h,0,fun m _=>by simp only [yae,hx];cases neg<;>rfl⟩
  ·rename_i rows hx;obtain ⟨h1,h⟩:=bZ.1 h
   cases rows with
   | nil=>simp at h1
   | cons q l=>exact ⟨⟨some (.v (.bool neg)),none,H⟩,h,0,fun m _=>by simp only [yae,hx];cases neg<;>rfl⟩
  ·rename_i hx;exact ⟨⟨some (.v (.bool neg)),none,H⟩,h,0,fun m _=>by simp only [yae,hx];cases neg<;>rfl⟩
  ·exact h.elim
 case load agg sz x=>
  simp only [kW] at h;split at h
  ·rename_i id ext i off hx;split at h
   ·rename_i b hb;obtain ⟨h1,h⟩:=bZ.1 h;obtain ⟨row,h,hr⟩:=Zt h;split at h
    ·rename_i p hp;exact ⟨⟨some (.v p),none,H⟩,h,0,fun m _=>by simp only [yae,hx,hb];rw [WN (by simpa using h1)];simp only [hr,hp];rfl⟩
    ·exact h.elim
   ·exact h.elim
  ·exact Pg rfl h
 case store sz x y=>
  simp only [kW] at h;split at h
  ·rename_i id ext i off hx;split at h
   ·rename_i p hp;split at h
    ·rename_i b0 hb0;obtain ⟨q,H',h,hq⟩:=Pi h;split at h
     ·rename_i b hb;obtain ⟨h1,h⟩:=bZ.1 h;obtain ⟨h2,h⟩:=bZ.1 h;obtain ⟨row,h,hr⟩:=Zt h;split at h
      ·rename_i row' hrow;refine ⟨⟨none,none,H'.set id { b with rows:=b.rows.set i row' }⟩,h,0,fun m _=>?_⟩;have e1:b.rows.length=ext:=by simpa using h1
       have e2:b.fz=false:=by simpa using h2
       simp only [yae,hp,hx,hb0,hq,hb,hr,hrow];rw [WN ⟨e1,e2⟩]
      ·exact h.elim
     ·exact h.elim
    ·exact h.elim
   ·exact h.elim
  ·exact Pg rfl h
 case iad esz x i=>
  simp only [kW] at h;split at h
  ·rename_i rows n hx hi;obtain ⟨h1,h⟩:=bZ.1 h;obtain ⟨h2,h⟩:=bZ.1 h;obtain ⟨h3,h⟩:=bZ.1 h;obtain ⟨h4,h⟩:=bZ.1 h;simp only [decide_eq_true_eq] at h1 h2;rw [Zb _ _ h3] at h h4;have hlt:n.toNat<rows.length:=by omega
   have e:rows[n.toNat]?=some (rows.getD n.toNat .nils):=by rw [dF hlt,dQ,dF hlt];rfl
   refine ⟨⟨_,_,_⟩,h,0,fun m _=>?_⟩;simp only [yae,hx,hi];rw [WN ⟨h1,h2⟩];simp only [e];rw [WN (by simpa using h4)];rfl
  ·rename_i id lo len ext cap n hx hi;split at h
   ·rename_i b hb;obtain ⟨h1,h⟩:=bZ.1 h;obtain ⟨h2,h⟩:=bZ.1 h;obtain ⟨h3,h⟩:=bZ.1 h;simp only [decide_eq_true_eq] at h1 h2 h3;refine ⟨⟨_,_,_⟩,h,0,fun m _=>?_⟩;simp only [yae,hx,hi];rw [WN ⟨h1,h2⟩];simp only [hb];rw [WN h3];rfl
   ·exact h.elim
  ·rename_i id ext r off mm e j hx hi;obtain ⟨h1,h⟩:=bZ.1 h;have h1:e=esz:=jT h1;subst h1;obtain ⟨k,h',rfl,hk⟩:=FI mm (cQ _) h;clear h;refine ⟨⟨_,_,_⟩,h',0,fun m _=>?_⟩;simp only [yae,hx,hi];rw [WN ⟨by omega,by omega,by trivial⟩];simp [outV]
  ·exact h.elim
 case iadA n esz x i=>
  simp only [kW] at h;split at h
  ·rename_i s o j hx hi;obtain ⟨k,h',rfl,hk⟩:=FI n (cQ _) h;clear h;refine ⟨⟨_,_,_⟩,h',0,fun m _=>?_⟩;simp only [yae,hx,hi];rw [WN ⟨by omega,by omega⟩];simp
  ·rename_i id e r o j hx hi;obtain ⟨k,h',rfl,hk⟩:=FI n (cQ _) h;clear h;refine ⟨⟨_,_,_⟩,h',0,fun m _=>?_⟩;simp only [yae,hx,hi];rw [WN ⟨by omega,by omega⟩];simp [outV]
  ·rename_i rows r o j hx hi;obtain ⟨k,h',rfl,hk⟩:=FI n (cQ _) h;clear h;refine ⟨⟨_,_,_⟩,h',0,fun m _=>?_⟩;simp only [yae,hx,hi];rw [WN ⟨by omega,by omega⟩];simp [outV]
  ·exact h.elim
 case idx agg n esz x i=>
  simp only [kW] at h;split at h
  ·rename_i cs j hx hi;split at h
   ·obtain ⟨h0,k0⟩:=bZ.1 h;obtain ⟨h1,k1⟩:=bZ.1 k0;obtain ⟨h2,k2⟩:=bZ.1 k1;clear h k0 k1;simp only [cU,decide_eq_true_eq,pD] at h0 h1 h2;obtain ⟨ha,he,hn,hu⟩:=h0;have he:=jT he;have hn:=jT hn;subst ha;subst he;refine ⟨⟨_,_,_⟩,k2,0,fun m _=>?_⟩;simp only [yae,hx,hi];rw [WN ⟨h1,h2⟩];have hlt:j.toNat<cs.length:=by omega
    have hcell:cs[j.toNat]?=some (.int .u8 (bV (cs.getD j.toNat .nils))):=Zs cs _ hu hlt;simp only [yeH,Nat.mul_one,PV.cells,iZ,if_false,hcell];rfl
   obtain ⟨k,h',rfl,hk⟩:=FI n (cQ _) h;clear h;split at h'
   ·rename_i p hp;refine ⟨⟨_,_,_⟩,h',0,fun m _=>?_⟩;simp only [yae,hx,hi];rw [WN ⟨by omega,by omega⟩];simp only [dR,hp];rfl
   ·exact h'.elim
  ·exact h.elim
 case slc esz x lo hi mx=>
  simp only [kW] at h;split at h
  ·rename_i p l hh m hx hl hhi hm;split at h
   ·exact h.elim
   ·rename_i hb;obtain ⟨r,h,hr⟩:=jp h;refine ⟨⟨_,_,_⟩,h,0,fun _ _=>?_⟩;simp only [yae,hx,hl,hhi,hm];rw [WO (by rw [hb];exact Bool.false_ne_true)];simp only [hr];rfl
  ·exact h.elim
 case mkSl pu esz bytes z l c=>
  simp only [kW] at h;split at h
  ·rename_i l c hl hc;obtain ⟨h1,h⟩:=bZ.1 h;obtain ⟨h2,h⟩:=bZ.1 h;obtain ⟨h3,h⟩:=bZ.1 h;simp only [decide_eq_true_eq] at h1 h2 h3;refine ⟨⟨_,_,_⟩,h,0,fun _ _=>?_⟩;simp only [yae,hl,hc];rw [WN ⟨h1,h2,h3⟩];rfl
  ·exact h.elim
 case app pu esz bytes s x=>
  simp only [kW] at h;split at h
  ·rename_i s x hs hx;obtain ⟨ys,h,hy⟩:=jm h;obtain ⟨h1,h⟩:=bZ.1 h;obtain ⟨h2,h⟩:=bZ.1 h;obtain ⟨r,H',h,hr⟩:=jo hy h1 h2 h;refine ⟨⟨_,_,_⟩,h,0,fun _ _=>?_⟩;simp only [yae,hs,hx,hr];rfl
  ·exact h.elim
 case appZ pu esz bytes z s n=>
  simp only [kW] at h;split at h
  ·rename_i k hs hk;obtain ⟨h1,h⟩:=bZ.1 h;have h1:0≤k:=by simpa using h1
   obtain ⟨ha,hb⟩:=rM.1 h
   cases h0:decide (k.toNat=0) with
   | true=>
    refine ⟨⟨_,_,_⟩,ha h0,0,fun _ _=>?_⟩;have h0:k.toNat=0:=by simpa using h0
    simp only [yae,hs,hk,appZ];rw [WN h1,WN h0];rfl
   | false=>
    obtain ⟨r,H',h2,hr⟩:=LI (hb h0);refine ⟨⟨_,_,_⟩,h2,0,fun _ _=>?_⟩;have h0:¬k.toNat=0:=by simpa using h0
    simp only [yae,hs,hk,appZ];rw [WN h1,WO h0,hr];rfl
  ·exact h.elim
 case clr pu esz z x=>
  simp only [kW] at h;split at h
  ·rename_i hx;exact ⟨⟨_,_,_⟩,h,0,fun _ _=>by simp only [yae,hx,clrV];rfl⟩
  ·rename_i hx;exact ⟨⟨_,_,_⟩,h,0,fun _ _=>by simp only [yae,hx,clrV];rfl⟩
  ·rename_i hx;exact ⟨⟨_,_,_⟩,h,0,fun _ _=>by simp only [yae,hx,clrV];rfl⟩
  ·rename_i id lo len ext cap hx;split at h
   ·rename_i b hb;obtain ⟨ha,hb2⟩:=rM.1 h
    cases len with
    | zero=>exact ⟨⟨_,_,_⟩,ha rfl,0,fun _ _=>by simp only [yae,hx,clrV];rfl⟩
    | succ len =>have h:=hb2 (by simp);obtain ⟨h1,h⟩:=bZ.1 h;obtain ⟨h2,h⟩:=bZ.1 h;obtain ⟨h3,h⟩:=bZ.1 h;obtain ⟨h4,h⟩:=bZ.1 h;obtain ⟨h5,h⟩:=bZ.1 h;simp only [decide_eq_true_eq,pD,beq_iff_eq] at h1 h2 h3 h4;have h5:=jT h5;refine ⟨⟨_,_,_⟩,h,0,fun _ _=>?_⟩;simp only [yae,hx,clrV,hb];rw [WN ⟨h1,h2,h3,h4,h5⟩];rfl
   ·exact h.elim
  ·exact h.elim
 case boxH pu esz x=>
  simp only [kW] at h;split at h
  ·rename_i p hp;obtain ⟨q,H',h,hq⟩:=Pi h;obtain ⟨h1,h⟩:=bZ.1 h;simp only [cU] at h1;refine ⟨⟨_,_,_⟩,h,0,fun _ _=>?_⟩;simp only [yae,hp,hq];rw [WN ⟨jT h1.1,h1.2⟩]
  ·exact h.elim
 case bSl pu esz z len parts=>
  simp only [kW] at h;split at h
  ·exact ⟨⟨_,_,_⟩,h,0,fun _ _=>by simp only [yae,if_true];rfl⟩
  ·obtain ⟨rows,H',h,e⟩:=LH _ _ _ _ h;refine ⟨⟨_,_,_⟩,h,0,fun _ _=>?_⟩;simp only [yae,e];rfl
 case buildN pu esz z len parts=>
  simp only [kW] at h;split at h
  ·exact ⟨⟨_,_,_⟩,h,0,fun _ _=>by simp only [yae,if_true];rfl⟩
  ·obtain ⟨rows,H',h,e⟩:=LH _ _ _ _ h;refine ⟨⟨_,_,_⟩,h,0,fun _ _=>?_⟩;simp only [yae,e];rfl
 case bD esz z len parts=>
  simp only [kW] at h;split at h
  ·exact ⟨⟨_,_,_⟩,h,0,fun _ _=>by simp only [yae,if_true];rfl⟩
  ·obtain ⟨rows,H',h,e⟩:=LH _ _ _ _ h;refine ⟨⟨_,_,_⟩,h,0,fun _ _=>?_⟩;simp only [yae,e];rfl
 case mvD x=>
  simp only [kW] at h;split at h
  ·rename_i p hp;obtain ⟨y,H',h,e⟩:=Ph h;split at h
   ·exact ⟨⟨_,_,_⟩,h,0,fun _ _=>by simp only [yae,hp,e];rfl⟩
   ·exact h.elim
  ·exact h.elim
 case call f args=>simp [rJ] at hc
 all_goals exact Pg rfl h
theorem Zu {P:EP} (hP:aX P E) (hG:Good P callK) {a:An} {o:AOp} (h:kW E callK a F H o K):jh P F H o K:=by
 cases hc:rJ o with
 | false =>obtain ⟨out,hk,m0,hm⟩:=jq hc h;refine ⟨out,hk,0,fun n e m _ hp _=>?_⟩;have hl:=hP n e hp;unfold gN at hl;rw [hl,jg hc _ (ya9 E m0)];exact hm m0 (cQ _)
 | true=>
  cases o with
  | call f args=>
   simp only [kW] at h;split at h
   ·rename_i g vs hg hvs;obtain ⟨r,H',h,m0,hm⟩:=hG _ _ _ _ h;refine ⟨⟨_,_,_⟩,h,m0,fun n e m hn hp hle=>?_⟩;have hl:=hP n e hp;have e1:evV e F f=some g:=by unfold gN at hl;rw [hl,wK];exact hg
    have e2:evs e F args=some vs:=by unfold gN at hl;rw [hl,FH];exact hvs
    simp only [yae,e1,e2,hm n e m hn hp hle];rfl
   ·exact h.elim
  | _=>simp [rJ] at hc
theorem FJ:∀ (F:aG) (s:Nat) (x:FV),fget F s=some x→kB F s x=F
 | [],_,_,h=>by simp [fget] at h
 | (k,y)::r,s,x,h=>by
  simp only [fget] at h;simp only [kB]
  by_cases hk:k=s
  ·subst hk;simp only [if_true,cP] at h;subst h;simp
  ·rw [WO hk] at h;have:Nat.beq k s=false:=by
    cases e:Nat.beq k s with
    | true=>exact absurd (jT e) hk
    | false=>rfl
   rw [this,FJ r s x h];rfl
theorem Zv {c:Opd} {b:Bool} (h:evV E F c=some (.bool b)):yI F c b=F:=by
 cases c with
 | t s=>
  simp only [evV,ev] at h;simp only [yI];apply FJ
  cases e:fget F s with
  | none=>simp [e] at h
  | some fv=>cases fv<;>simp [e] at h;rw [h]
 | _=>rfl
theorem yuF {g:Option (Nat×Bool)} {yes no:aG→Prop} (h:LD F g yes no):(ybN F g=some true∧yes F)∨(ybN F g=some false∧no F):=by
 unfold LD at h;split at h
 ·exact .inl ⟨rfl,h⟩
 ·rename_i s want;split at h
  ·rename_i b hb;have e:ybN F (some (s,want))=some (b==want):=by simp only [ybN,hb]
   split at h
   ·cases b with
    | true=>have h:yes (kB F s (.v (.bool true))):=h;rw [FJ _ _ _ hb] at h;exact .inl ⟨by rw [e];rfl,h⟩
    | false=>have h:no (kB F s (.v (.bool false))):=h;rw [FJ _ _ _ hb] at h;exact .inr ⟨by rw [e];rfl,h⟩
   ·cases b with
    | true=>have h:no (kB F s (.v (.bool true))):=h;rw [FJ _ _ _ hb] at h;exact .inr ⟨by rw [e];rfl,h⟩
    | false=>have h:yes (kB F s (.v (.bool false))):=h;rw [FJ _ _ _ hb] at h;exact .inl ⟨by rw [e];rfl,h⟩
  ·rename_i hb;exact .inr ⟨by simp only [ybN,hb],h⟩
  ·exact h.elim
theorem Im {P:EP} (hP:aX P E) (hG:Good P callK) {an:List An}:∀ (l:List AO) (i:Nat) (F:aG) (H:Hp) (K:aG→Hp→Prop),pI E callK an l i F H K →
  ∃ F' H',K F' H'∧∃ m0,∀ n e m,m0≤n→P n e→m0≤m→yaK e (ya9 e m) l F H=some (F',H')
 | [],i,F,H,K,h=>⟨F,H,h,0,fun _ _ _ _ _ _=>rfl⟩
 | o::r,i,F,H,K,h=>by
  simp only [pI] at h;rcases yuF h with ⟨hg,h⟩ | ⟨hg,h⟩
  ·obtain ⟨out,h,m0,hm⟩:=Zu hP hG h;split at h
   ·exact h.elim
   ·rename_i F' hF';rw [FG] at h;obtain ⟨F2,H2,hk,m1,hm1⟩:=Im hP hG r (i+1) F' out.h K h;refine ⟨F2,H2,hk,max m0 m1,fun n e m hn hp hle=>?_⟩;have e0:yda e (ya9 e m) F H o=some (F',out.h):=by
     simp only [yda,hg,hm n e m (by omega) hp (by omega),hF',Option.map]
    simp only [yaK,e0];exact hm1 n e m (by omega) hp (by omega)
  ·obtain ⟨F2,H2,hk,m1,hm1⟩:=Im hP hG r (i+1) (FF F o.dst) H K h;refine ⟨F2,H2,hk,m1,fun n e m hn hp hle=>?_⟩;have e0:yda e (ya9 e m) F H o=some (FF F o.dst,H):=by
    simp only [yda,hg]
    cases o.dst<;>rfl
   simp only [yaK,e0];exact hm1 n e m hn hp hle
structure Cov (p q:FP):Prop where
 rd:q.rd=p.rd
 wr:q.wr=p.wr
 h:p.all=true∨((∀ x,x∈q.hr→x∈p.hr)∧(∀ x,x∈q.hw→x∈p.hw)∧(q.push=true→p.push=true)∧q.all=false)
theorem Cov.tight (p:FP) (H H1:Hp):Cov p (p.tight H H1):=by
 unfold FP.tight
 cases h:p.all with
 | true=>exact ⟨rfl,rfl,.inl h⟩
 | false=>exact ⟨rfl,rfl,.inr ⟨fun _ h=>h,fun _ h=>h,fun h=>h,h⟩⟩
def yvv:List FP→List FP→Prop
 | [],[]=>True
 | p::r,q::s=>Cov p q∧yvv r s
 | _,_=>False
theorem yvv.get:∀ (l l':List FP),yvv l l'→∀ (i:Nat) (p:FP),l[i]?=some p→∃ q:FP,l'[i]?=some q∧Cov p q
 | [],_,_,i,p,e=>by simp at e
 | p::r,[],h,_,_,_=>h.elim
 | p::r,q::s,h,i,x,e=>by
  obtain ⟨h1,h2⟩:=h
  cases i with
  | zero=>simp at e;subst e;exact ⟨q,rfl,h1⟩
  | succ i=>simp at e;simpa using yvv.get r s h2 i x e
theorem Pj:∀ l:List Nat,kT l []=false
 | []=>rfl
 | x::r=>by simp only [kT,Pj r];rfl
theorem Pk:∀ (l m:List Nat),kT l m=true↔∃ x,x∈l∧x∈m
 | [],m=>by simp [kT]
 | y::r,m=>by
  simp only [kT,sR,Pk r m,List.elem_eq_mem,decide_eq_true_eq,qAs];constructor
  ·rintro (h | ⟨x,h1,h2⟩)
   ·exact ⟨y,.inl rfl,h⟩
   ·exact ⟨x,.inr h1,h2⟩
  ·rintro ⟨x,rfl | h1,h2⟩
   ·exact .inl h2
   ·exact .inr ⟨x,h1,h2⟩
theorem Pl {a b a' b':List Nat} (h:kT a b=false) (ha:∀ x,x∈a'→x∈a) (hb:∀ x,x∈b'→x∈b):kT a' b'=false:=by
 cases e:kT a' b' with
 | false=>rfl
 | true=>
  obtain ⟨x,h1,h2⟩:=(Pk _ _).1 e;have:kT a b=true:=(Pk _ _).2 ⟨x,ha x h1,hb x h2⟩;rw [h] at this
  cases this
theorem Zw {a:List Nat} (h:∀ x,x∈a→x∈([]:List Nat)):a=[]:=by
 cases a with
 | nil=>rfl
 | cons x r=>exact absurd (h x jU) (by simp)
theorem jr {p q p' q':FP} (h:wE p q=false) (hp:Cov p p') (hq:Cov q q'):wE p' q'=false:=by
 have hpx:∀ {x x':FP},x.heapy=false→Cov x x'→x'.push=false∧x'.all=false∧x'.hr=[]∧x'.hw=[]:=by
  intro x x' hx hc;simp only [FP.heapy,AT,Bool.not_eq_false',List.isEmpty_iff] at hx;obtain ⟨⟨⟨h1,h2⟩,h3⟩,h4⟩:=hx;rcases hc.h with h | ⟨k1,k2,k3,k4⟩
  ·rw [h2] at h;cases h
  ·rw [h3] at k1;rw [h4] at k2;refine ⟨?_,k4,Zw k1,Zw k2⟩
   cases e:x'.push with
   | false=>rfl
   | true=>rw [k3 e] at h1;cases h1
 simp only [wE,AT] at h;obtain ⟨⟨⟨⟨⟨⟨⟨⟨A,B⟩,C⟩,D⟩,E⟩,G⟩,I⟩,J⟩,K⟩:=h;have A':kT p'.wr q'.rd=false:=by rw [hp.wr,hq.rd];exact A
 have B':kT p'.wr q'.wr=false:=by rw [hp.wr,hq.wr];exact B
 have C':kT q'.wr p'.rd=false:=by rw [hp.rd,hq.wr];exact C
 cases ea:p.all with
 | true =>rw [ea,sS] at D;obtain ⟨h1,h2,h3,h4⟩:=hpx D hq;simp [wE,A',B',C',h1,h2,h3,h4,Pj,kT,FP.heapy]
 | false=>
  cases eb:q.all with
  | true =>rw [eb,sS] at E;obtain ⟨h1,h2,h3,h4⟩:=hpx E hp;simp [wE,A',B',C',h1,h2,h3,h4,Pj,kT,FP.heapy]
  | false=>
   rcases hp.h with h|⟨k1,k2,k3,k4⟩
   ·rw [ea] at h;cases h
   rcases hq.h with h|⟨l1,l2,l3,l4⟩
   ·rw [eb] at h;cases h
   have G':(p'.push&&q'.push)=false:=by
    cases e1:p'.push with
    | false=>rfl
    | true=>
     cases e2:q'.push with
     | false=>rfl
     | true=>rw [k3 e1,l3 e2] at G;cases G
   simp only [wE,A',B',C',k4,l4,qK,G',Pl I k2 l1,Pl J k2 l2,Pl K l2 k1,Bool.or_self]
theorem Zx {l l':List FP} (ht:yvv l l'):∀ (pairs:List (Nat×Nat)),yg6 l pairs=true→yg6 l' pairs=true
 | [],_=>rfl
 | (i,j)::r,h=>by
  simp only [yg6,cU] at h ⊢;refine ⟨?_,Zx ht r h.2⟩;have h1:=h.1;split at h1
  ·rename_i p q e1 e2;obtain ⟨p',k1,c1⟩:=yvv.get l l' ht i p e1;obtain ⟨q',k2,c2⟩:=yvv.get l l' ht j q e2;rw [k1,k2];simp only [pD] at h1 ⊢;exact jr h1 c1 c2
  ·cases h1
theorem Io {E e:Env} (h:gN E e) (f:PV) (args:List PV):yik e f args=yik E f args:=by unfold gN at h;rw [h];rfl
theorem js {p q:PV} {H H1:Hp} (h:ybm H p=some (q,H1)):EffI (dH p) H H1 H H1:=by
 obtain ⟨H1',e,k⟩:=Fx (H':=H) (fun _ _=>rfl) h;rw [h] at e
 cases e
 exact k
theorem Pm:∀ (l ps:List PV) (H H1:Hp),yaC H l=some (ps,H1)→H1.length=H.length∧∀ id,id∉gC l→H1[id]?=H[id]?
 | [],ps,H,H1,h=>by simp only [yaC,cP,Prod.mk.injEq] at h;rw [← h.2];exact ⟨rfl,fun _ _=>rfl⟩
 | x::r,ps,H,H1,h=>by
  simp only [yaC] at h;split at h
  ·rename_i y H2 hy;split at h
   ·rename_i ys H3 hys;simp only [cP,Prod.mk.injEq] at h;obtain ⟨_,rfl⟩:=h;obtain ⟨l1,o1⟩:=Pm r ys H2 _ hys;have k:=js hy;refine ⟨l1.trans k.len.1,fun id hid=>?_⟩;simp only [gC,qAz,not_or] at hid;rw [o1 id hid.2,(k.out id hid.1).1]
   ·cases h
  ·cases h
theorem ju {call:Nat→List PV→Hp→Option (PV×Hp)} {x:LocC} {H H1:Hp} {r:PV} (h:EY call x H=some (r,H1)):∀ id,id∈dN 0 H H1→id∈x.id::gC (x.all.set x.j (.int .i64 0)):=by
 intro id hm;unfold EY at h;split at h
 ·rename_i as H' hp;split at h
  ·rename_i b hb;split at h
   ·split at h
    ·rename_i q rows hq;simp only [cP,Prod.mk.injEq] at h;obtain ⟨_,rfl⟩:=h;obtain ⟨l1,o1⟩:=Pm _ _ _ _ hp
     by_cases hi:id=x.id
     ·rw [hi];exact jU
     ·by_cases hj:id∈gC (x.all.set x.j (.int .i64 0))
      ·exact iY _ hj
      ·refine absurd hm ?_;have:=OW 0 H (H'.set x.id { b with rows:=rows }) (by simp [l1]) id (by
        rw [xP (fun e=>hi e.symm),o1 id hj])
       simpa using this
    ·cases h
   ·cases h
  ·cases h
 ·cases h
theorem Pn {H H1:Hp} {l:List Nat} (h1:H1.length=H.length) (h2:∀ id,id∉l→H1[id]?=H[id]?):∀ id,id∈dN 0 H H1→id∈l:=by
 intro id hm
 by_cases hj:id∈l
 ·exact hj
 ·refine absurd hm ?_;have:=OW 0 H H1 h1 id (h2 id hj);simpa using this
theorem jv {e:Env} {call:Nat→List PV→Hp→Option (PV×Hp)} {n:Nat} {first captured vs:List PV} {H H1:Hp} {r:PV} (hq:e.qui n=true) (h:qM e call (.fn (.func n) first captured) vs H=some (r,H1)):∀ id,id∈dN 0 H H1→id∈gC (first++vs++captured):=by
 simp only [qM,hq,if_true] at h;split at h
 ·split at h
  ·split at h
   ·split at h
    ·cases h
     exact Pn rfl fun _ _=>rfl
    ·cases h
   ·cases h
  ·cases h
 ·split at h
  ·rename_i x hx
   cases h
   split at hx
   ·rename_i as H' hp;obtain ⟨l1,o1⟩:=Pm _ _ _ _ hp;split at hx
    ·split at hx
     ·cases hx
      exact Pn rfl fun _ _=>rfl
     ·cases hx
      exact Pn l1 o1
    ·cases hx
   ·cases hx
  ·cases h
theorem jw {e:Env} (hl:gN E e) {call:Nat→List PV→Hp→Option (PV×Hp)} {F:aG} {H:Hp} {o:AOp} {out:Out} (h:yae e call F H o=some out) (a b _ _:List Nat) :
  Cov ⟨a++(Bu E F H o).rd,b++(Bu E F H o).wr,(Bu E F H o).hr,(Bu E F H o).hw,(Bu E F H o).push,(Bu E F H o).all⟩
   ((⟨a++(bC E F H o).rd,b++(bC E F H o).wr,(bC E F H o).hr,(bC E F H o).hw,(bC E F H o).push,(bC E F H o).all⟩:FP).tight H out.h):=by
 unfold Bu;split
 ·rename_i f as
  cases hq:wC E F f as with
  | true=>exact Cov.tight _ _ _
  | false=>
  rw [cond_false];split
  ·rename_i l hli;unfold yEc at hli;split at hli
   ·rename_i g vs hg hvs;have hg':evV e F f=some g:=by unfold gN at hl;rw [hl,wK];exact hg
    have hv':evs e F as=some vs:=by unfold gN at hl;rw [hl,FH];exact hvs
    simp only [yae,hg',hv'] at h;split at h
    ·rename_i r H1 hr
     cases h
     have key:∀ id,id∈dN 0 H H1→id∈l:=by
      split at hli
      ·rename_i x hx
       cases hli
       simp only [yhG,(Io hl g vs).trans hx] at hr;exact ju hr
      ·rename_i hx;simp only [yhG,(Io hl g vs).trans hx] at hr;split at hli
       ·rename_i n first captured
        cases hqu:E.qui n with
        | false=>rw [hqu] at hli;cases hli
        | true=>
         rw [hqu] at hli
         cases hli
         have:e.qui n=true:=by unfold gN at hl;rw [hl];exact hqu
         exact jv this hr
       ·cases hli
     simp only [bC,hq,Bool.not_false,FP.tight,if_true];exact ⟨rfl,rfl,.inr ⟨fun _ h=>h,key,fun h=>h,rfl⟩⟩
    ·cases h
   ·cases hli
  ·exact Cov.tight _ _ _
 ·exact Cov.tight _ _ _
theorem Po {P:EP} (hP:aX P E) (hG:Good P callK) {an:List An} {F0:aG} {l0:List AO} {pairs:List (Nat×Nat)}:∀ (l:List AO) (i:Nat) (F:aG) (H:Hp) (ps:List FP) (K:aG→Hp→Prop),rO E callK an F0 l0 pairs l i F H ps K →
  ∃ F' H' qs,K F' H'∧yg6 (ps.reverse++qs) pairs=true∧Fb F0 l0 l0=true∧∃ m0,∀ n e m,m0≤n→P n e→m0≤m→∃ qt,yvv qs qt∧ykJ e (ya9 e m) l F H=some (F',H',qt)
 | [],i,F,H,ps,K,h=>by simp only [rO] at h;obtain ⟨h1,h⟩:=bZ.1 h;simp only [cU] at h1;exact ⟨F,H,[],h,by simpa using h1.1,h1.2,0,fun _ _ _ _ _ _=>⟨[],trivial,rfl⟩⟩
 | o::r,i,F,H,ps,K,h=>by
  simp only [rO] at h;have hfp:∀ n e,P n e→∀ F H,ydV e F H o=ydV E F H o:=by
   intro n e hp F H;have hl:=hP n e hp;unfold gN at hl;rw [hl];simp only [ydV,je]
  rcases yuF h with ⟨hg,h⟩|⟨hg,h⟩
  ·obtain ⟨out,h,m0,hm⟩:=Zu hP hG h;split at h
   ·exact h.elim
   ·rename_i F' hF';rw [FG] at h;obtain ⟨F2,H2,qs,hk,ha,hb,m1,hm1⟩:=Po hP hG r (i+1) F' out.h (yBz E F H o::ps) K h;refine ⟨F2,H2,yBz E F H o::qs,hk,by simpa using ha,hb,max m0 m1,fun n e m hn hp hle=>?_⟩;obtain ⟨qt,ht,hq⟩:=hm1 n e m (by omega) hp (by omega);have ho:=hm n e m (by omega) hp (by omega);have e0:ygJ e (ya9 e m) o (F,H)=some (F',out.h):=by
     simp only [ygJ,hg,ho,hF',Option.map]
    refine ⟨(ydV E F H o).tight H out.h::qt,⟨?_,ht⟩,?_⟩
    ·simp only [ydV,hg,yBz];exact jw (hP n e hp) ho _ _ [] []
    ·simp only [ykJ,e0,hq,hfp n e hp]
  ·obtain ⟨F2,H2,qs,hk,ha,hb,m1,hm1⟩:=Po hP hG r (i+1) (FF F o.dst) H (fpNo o::ps) K h;refine ⟨F2,H2,fpNo o::qs,hk,by simpa using ha,hb,m1,fun n e m hn hp hle=>?_⟩;obtain ⟨qt,ht,hq⟩:=hm1 n e m hn hp hle;have e0:ygJ e (ya9 e m) o (F,H)=some (FF F o.dst,H):=by
    simp only [ygJ,hg]
    cases o.dst<;>rfl
   have e2:ydV E F H o=fpNo o:=by simp only [ydV,hg,fpNo]
   refine ⟨(fpNo o).tight H H::qt,⟨Cov.tight _ _ _,ht⟩,?_⟩;simp only [ykJ,e0,hq,hfp n e hp,e2]
def cF (P:EP) (c:AC) (F:aG) (H:Hp) (Q:Ex→aG→Hp→Prop):Prop:=
 ∃ x F' H',Q x F' H'∧∃ m0,∀ n e m,m0≤n→P n e→m0≤m→exec e m c F H=some (x,F',H')
theorem cF.sub {P P':EP} {c:AC} {F:aG} {H:Hp} {Q:Ex→aG→Hp→Prop} (h:cF P c F H Q) (hs:∀ n e,P' n e→P n e):cF P' c F H Q:=by obtain ⟨x,F',H',h1,m0,h2⟩:=h;exact ⟨x,F',H',h1,m0,fun n e m k1 k2 k3=>h2 n e m k1 (hs n e k2) k3⟩
def cV (P:EP) (c:TC) (F:aG) (H:Hp) (Q:Ex→aG→Hp→Prop):Prop:=cF P (bM c) F H Q
def ybs:TC→Bool
 | .seq a b | .cond _ a b=>ybs a&&ybs b
 | .block _ b=>ybs b
 | .loop _ b=>ybs b
 | .lG _ b=>ybs b
 | .join _ b=>ybs b
 | .rangeF _ _ _ _ _ _ _=>false
 | _=>true
def LpOk (P:EP) (E:Env) (lp:LP) (G:aG):TC→Prop
 | .seq a b=>LpOk P E lp G a∧LpOk P E lp G b
 | .cond _ a b=>LpOk P E lp G a∧LpOk P E lp G b
 | .block _ b=>LpOk P E lp G b
 | .loop id b=>LpOk P E lp G b∧∀ F H Q,lp id G F H Q→cV P (.loop id b) F H Q
 | .lG id b=>LpOk P E lp G b∧∀ F H Q,lp id G F H Q→cV P (.lG id b) F H Q
 | .join id b=>LpOk P E lp G b∧∀ F H Q,lp id G F H Q→cV P (.join id b) F H Q
 | .rangeF _ f np ib ps as bd=>(∃ rs,E.fns f=some ⟨np,rs,bM ib⟩∧rs.length=0)∧(ybs ib=true∧ybs as=true∧ybs bd=true)∧(∀ G,LpOk (Rng E G ps (bM as) (bM bd)) E lp G ib)∧LpOk (wJ E) E lp [] as∧LpOk (wJ E) E lp [] bd
 | _=>True
def mI:TC→List (Nat×TC)
 | .seq a b | .cond _ a b=>mI a++mI b
 | .block _ b=>mI b
 | .loop id b=>mI b++[(id,.loop id b)]
 | .lG id b=>mI b++[(id,.lG id b)]
 | .join id b=>mI b++[(id,.join id b)]
 | _=>[]
theorem yM {P:EP} {E:Env} {lp:LP} {G:aG}:∀ (c:TC),ybs c=true→(∀ p∈mI c,∀ F H Q,lp p.1 G F H Q→cV P p.2 F H Q)→LpOk P E lp G c
 | .skip,_,_ | .ops _ _ _ _,_,_ | .exit _,_,_ | .ret,_,_ | .bad,_,_ | .yret _ _ _ _ _ _ _,_,_ | .cut _,_,_=>trivial
 | .rangeF _ _ _ _ _ _ _,hf,_=>by simp [ybs] at hf
 | .seq a b,hf,h=>by simp only [ybs,cU] at hf;exact ⟨yM a hf.1 fun p hp=>h p (by simp only [mI,qAz];exact .inl hp),yM b hf.2 fun p hp=>h p (by simp only [mI,qAz];exact .inr hp)⟩
 | .cond _ a b,hf,h=>by simp only [ybs,cU] at hf;exact ⟨yM a hf.1 fun p hp=>h p (by simp only [mI,qAz];exact .inl hp),yM b hf.2 fun p hp=>h p (by simp only [mI,qAz];exact .inr hp)⟩
 | .block _ b,hf,h=>yM b hf h
 | .loop id b,hf,h=>⟨yM b hf fun p hp=>h p (by simp only [mI,qAz];exact .inl hp),h (id,.loop id b) (by simp [mI])⟩
 | .lG id b,hf,h=>⟨yM b hf fun p hp=>h p (by simp only [mI,qAz];exact .inl hp),h (id,.lG id b) (by simp [mI])⟩
 | .join id b,hf,h=>⟨yM b hf fun p hp=>h p (by simp only [mI,qAz];exact .inl hp),h (id,.join id b) (by simp [mI])⟩
def dT (P:EP) (E:Env) (yk:YK):Prop:=∀ vs H K,yk vs H K→∃ r H',K r H'∧∃ m0,∀ n e,m0≤n→P n e→e.yl e.yn E.yn vs H=some (r,H')
theorem dT.no (P:EP) (E:Env):dT P E cJ:=fun _ _ _ h=>h.elim
def cG (P:EP) (E:Env) (callK:CK) (c:TC):Prop:=ybs c=false→Good (cB E) callK∧∀ n e,P n e→e=E
theorem cF.up {P:EP} {c:AC} {F:aG} {H:Hp} {Q:Ex→aG→Hp→Prop} {x:Ex} {F':aG} {H':Hp} {m0:Nat} (hk:Q x F' H') (h:∀ n e k,m0≤n→P n e→m0≤k→exec e (k+1) c F H=some (x,F',H')):cF P c F H Q:=
 ⟨x,F',H',hk,m0+1,fun n e m hn hp hm=>by
  obtain ⟨k,rfl⟩:∃ k,m=k+1:=⟨m-1,by omega⟩;exact h n e k (by omega) hp (by omega)⟩
def FK (E:Env) (F:aG) (H:Hp):Option (Ex×aG×Hp)→Option (Ex×aG×Hp)
 | some (.norm,_,H') | some (.ret,_,H')=>(match clrY E.yn H.length H' with | some H2=>some (.norm,F,H2) | none=>none)
 | some (.brk k i,_,H')=>if k=E.yn then (match clrY E.yn H.length H' with | some H2=>some (.exit i,F,H2) | none=>none) else none
 | _=>none
theorem Ip {E:Env} {n:Nat} {g:Opd} {ps:List Nat} {as bd:AC} {F:aG} {H:Hp} {f:Nat} {first cap:List PV} {fn:AFn} (hg:evV E F g=some (.fn (.func f) first cap)) (hf:E.fns f=some fn) (hc:(first++[PV.fn (.yield E.yn) [] []]++cap).length=fn.nparams∧fn.results.length=0) :
  exec E (n+1) (.rangeF g ps as bd) F H=FK E F H (exec (E.push ⟨iI F,ps,as,bd⟩ (hnd E (iI F) ps as bd n)) n fn.body (jY 0 (first++[PV.fn (.yield E.yn) [] []]++cap)) H):=by
 simp only [exec,hg];simp only [hf];rw [WN hc];rfl
theorem Zy {K n0:Nat}:∀ (H:Hp) (i:Nat),jZ (noY K) (fun _=>true) H=true→badY K n0 [] i H=[]
 | [],_,_=>rfl
 | b::r,i,h=>by simp only [jZ,cU] at h;have h1:yaH (noY K) (fun id=>!memB [] id) b.rows=true:=h.1;simp only [badY,h1,Bool.not_true,Bool.and_false,cond_false];exact Zy r (i+1) h.2
theorem jx {K n0:Nat} {H:Hp} (h:jZ (noY K) (fun _=>true) H=true):clrY K n0 H=some H:=by simp only [clrY,Zy H 0 h,h,cond_true]
theorem nR {lp:LP}:∀ (c:TC) (P:EP) (_:aX P E) (_:Good P callK) (_:cG P E callK c) (G:aG) (yk:YK) (_:dT P E yk) (_:LpOk P E lp G c) (F:aG) (H:Hp) (Q:Ex→aG→Hp→Prop),WC E callK lp G yk c F H Q→cF P (bM c) F H Q
 | .skip,P,hP,hG,hR,G,yk,hY,_,F,H,Q,h=>by simp only [WC] at h;exact cF.up (m0:=0) h fun n e k _ _ _=>by simp only [bM,exec]
 | .exit id,P,hP,hG,hR,G,yk,hY,_,F,H,Q,h=>by simp only [WC] at h;exact cF.up (m0:=0) h fun n e k _ _ _=>by simp only [bM,exec]
 | .ret,P,hP,hG,hR,G,yk,hY,_,F,H,Q,h=>by simp only [WC] at h;exact cF.up (m0:=0) h fun n e k _ _ _=>by simp only [bM,exec]
 | .bad,P,hP,hG,hR,G,yk,hY,_,F,H,Q,h=>by simp only [WC] at h
 | .cut _,P,hP,hG,hR,G,yk,hY,_,F,H,Q,h=>by simp only [WC] at h
 | .ops l an ps fg,P,hP,hG,hR,G,yk,hY,_,F,H,Q,h=>by
  cases ps with
  | nil =>simp only [WC] at h;obtain ⟨F',H',hk,m0,hm⟩:=Im hP hG l 0 F H _ h;rw [FG] at hk;exact cF.up (m0:=m0) hk fun n e k hn hp hle=>by simp only [bM,exec,yfX,hm n e k hn hp hle]
  | cons p ps=>
   simp only [WC] at h
   cases htw:Fe l (p::ps) with
   | true =>rw [htw,cond_true] at h;obtain ⟨F',H',hk,m0,hm⟩:=Im hP hG l 0 F H _ h;rw [FG] at hk;exact cF.up (m0:=m0) hk fun n e k hn hp hle=>by simp only [bM,exec,yfX,htw,cond_true,hm n e k hn hp hle]
   | false=>
    rw [htw,cond_false] at h;obtain ⟨F',H',qs,hk,ha,hb,m0,hm⟩:=Po hP hG l 0 _ H [] _ h;rw [FG] at hk;refine cF.up (m0:=m0) hk fun n e k hn hp hle=>?_
    obtain ⟨qt,ht,hq⟩:=hm n e k hn hp hle;simp only [bM,exec,yfX,htw,cond_false,hq];rw [WN ⟨Zx ht _ (by simpa using ha),hb⟩]
 | .seq a b,P,hP,hG,hR,G,yk,hY,hl,F,H,Q,h=>by
  simp only [WC] at h;simp only [LpOk] at hl;have hRa:cG P E callK a:=fun hf=>hR (by simp only [ybs,hf,qK])
  have hRb:cG P E callK b:=fun hf=>hR (by simp only [ybs,hf,Bool.and_false])
  obtain ⟨x,F',H',hk,m0,hm⟩:=nR a P hP hG hRa G yk hY hl.1 F H _ h
  cases x with
  | norm =>obtain ⟨x2,F2,H2,hk2,m1,hm1⟩:=nR b P hP hG hRb G yk hY hl.2 F' H' Q hk;exact cF.up (m0:=max m0 m1) hk2 fun n e k hn hp hle=>by simp only [bM,exec,hm n e k (by omega) hp (by omega),hm1 n e k (by omega) hp (by omega)]
  | exit i=>exact cF.up (m0:=m0) hk fun n e k hn hp hle=>by simp only [bM,exec,hm n e k hn hp hle]
  | ret=>exact cF.up (m0:=m0) hk fun n e k hn hp hle=>by simp only [bM,exec,hm n e k hn hp hle]
  | brk _ _=>exact cF.up (m0:=m0) hk fun n e k hn hp hle=>by simp only [bM,exec,hm n e k hn hp hle]
 | .cond c a b,P,hP,hG,hR,G,yk,hY,hl,F,H,Q,h=>by
  simp only [WC] at h;simp only [LpOk] at hl;have hRa:cG P E callK a:=fun hf=>hR (by simp only [ybs,hf,qK])
  have hRb:cG P E callK b:=fun hf=>hR (by simp only [ybs,hf,Bool.and_false])
  split at h
  ·rename_i t ht;have hte:∀ n e,P n e→evV e F c=some (.bool t):=fun n e hp=>by
    have hl:=hP n e hp;unfold gN at hl;rw [hl,wK];exact ht
   obtain ⟨h1,h2⟩:=rM.1 h
   cases t with
   | true =>obtain ⟨x,F',H',hk,m0,hm⟩:=nR a P hP hG hRa G yk hY hl.1 F H Q (Zv ht ▸ h1 rfl);exact cF.up (m0:=m0) hk fun n e k hn hp hle=>by simp only [bM,exec,hte n e hp,hm n e k hn hp hle]
   | false =>obtain ⟨x,F',H',hk,m0,hm⟩:=nR b P hP hG hRb G yk hY hl.2 F H Q (Zv ht ▸ h2 rfl);exact cF.up (m0:=m0) hk fun n e k hn hp hle=>by simp only [bM,exec,hte n e hp,hm n e k hn hp hle]
  ·exact h.elim
 | .block id b,P,hP,hG,hR,G,yk,hY,hl,F,H,Q,h=>by
  simp only [WC] at h;simp only [LpOk] at hl;have hRb:cG P E callK b:=fun hf=>hR (by simp only [ybs,hf])
  obtain ⟨x,F',H',hk,m0,hm⟩:=nR b P hP hG hRb G yk hY hl F H _ h
  cases x with
  | norm=>exact cF.up (m0:=m0) hk fun n e k hn hp hle=>by simp only [bM,exec,hm n e k hn hp hle]
  | exit i=>
   simp only at hk
   cases hb:Nat.beq i id with
   | true =>rw [hb] at hk;have e:=jT hb;subst e;exact cF.up (m0:=m0) (x:=.norm) hk fun n e k hn hp hle=>by simp only [bM,exec,hm n e k hn hp hle,if_true]
   | false=>
    rw [hb] at hk;have e:¬i=id:=fun e=>by subst e;rw [Nat.beq_refl] at hb;cases hb
    exact cF.up (m0:=m0) (x:=.exit i) hk fun n e' k hn hp hle=>by simp only [bM,exec,hm n e' k hn hp hle,e,if_false]
  | ret=>exact cF.up (m0:=m0) hk fun n e k hn hp hle=>by simp only [bM,exec,hm n e k hn hp hle]
  | brk _ _=>exact cF.up (m0:=m0) hk fun n e k hn hp hle=>by simp only [bM,exec,hm n e k hn hp hle]
 | .loop id b,P,hP,hG,hR,G,yk,hY,hl,F,H,Q,h=>by simp only [WC] at h;simp only [LpOk] at hl;exact hl.2 F H Q h
 | .lG id b,P,hP,hG,hR,G,yk,hY,hl,F,H,Q,h=>by simp only [WC] at h;simp only [LpOk] at hl;exact hl.2 F H Q h
 | .join id b,P,hP,hG,hR,G,yk,hY,hl,F,H,Q,h=>by simp only [WC] at h;simp only [LpOk] at hl;exact hl.2 F H Q h
 | .yret c pre d y args e0 fgt,P,hP,hG,hR,G,yk,hY,_,F,H,Q,h=>by
  simp only [WC] at h;obtain ⟨F1,H1,hk,m0,hm⟩:=Im hP hG pre 0 F H _ h;split at hk
  ·rename_i k vs hy hvs;obtain ⟨hb,hk⟩:=bZ.1 hk;have hb:=jT hb;subst hb;obtain ⟨r,H2,hk,m1,hm1⟩:=hY _ _ _ hk;have hye:∀ n e,P n e→evV e F1 y=some (.fn (.yield E.yn) [] [])∧evs e F1 args=some vs:=fun n e hp=>by
    have hl:=hP n e hp;unfold gN at hl;rw [hl,wK,FH];exact ⟨hy,hvs⟩
   cases r with
   | none=>
    simp only [FG] at hk;refine cF.up (m0:=max m0 m1) hk fun n e k hn hp hle=>?_
    simp only [bM,exec,yfX,hm n e k (by omega) hp (by omega),(hye n e hp).1,(hye n e hp).2,hm1 n e (by omega) hp]
   | some i=>
    refine cF.up (m0:=max m0 m1) hk fun n e k hn hp hle=>?_
    simp only [bM,exec,yfX,hm n e k (by omega) hp (by omega),(hye n e hp).1,(hye n e hp).2,hm1 n e (by omega) hp]
  ·exact hk.elim
 | .rangeF g f np ib ps as bd,P,hP,hG,hR,G,yk,hY,hl,F,H,Q,h=>by
  simp only [WC] at h;simp only [LpOk] at hl;obtain ⟨⟨rs,hfn,hrs⟩,hflat,hl1,hl2,hl3⟩:=hl;obtain ⟨hU,hE⟩:=hR rfl;split at h
  ·rename_i n first cap hg;obtain ⟨hc,h2⟩:=bZ.1 h;clear h;simp only [cU,decide_eq_true_eq] at hc;have hn:=jT hc.1;subst hn;have hq:∀ (P':EP) (c:TC) (_:aX P' E),ybs c=true→cG P' E callK c:=fun _ _ _ hf hf'=>by rw [hf] at hf';cases hf'
   have hyo:dT (Rng E (iI F) ps (bM as) (bM bd)) E (fun vs H K=>match yil (iI F) ps vs with
      | some F1=>WC E callK lp [] cJ as F1 H fun x F2 H2=>match x with
       | .norm=>WC E callK lp [] cJ bd F2 H2 fun x _ H3=>match x with
        | .norm=>K none H3
        | .exit i=>K (some i) H3
        | .ret | .brk _ _=>False
       | .exit _ | .ret | .brk _ _=>False
      | none=>False):=by
    intro vs H K hk;simp only at hk;split at hk
    ·rename_i F1 hF1;obtain ⟨x,F2,H2,hk,m0,hm⟩:=nR as (wJ E) (aX.ats E) (hU.sub (aX.ats E)) (hq _ _ (aX.ats E) hflat.2.1) [] cJ (dT.no _ _) hl2 F1 H _ hk
     cases x with
     | norm=>
      simp only at hk;obtain ⟨x,F3,H3,hk,m1,hm1⟩:=nR bd (wJ E) (aX.ats E) (hU.sub (aX.ats E)) (hq _ _ (aX.ats E) hflat.2.2) [] cJ (dT.no _ _) hl3 F2 H2 _ hk;have key:∀ n e,max m0 m1≤n→Rng E (iI F) ps (bM as) (bM bd) n e→e.yl e.yn E.yn vs H=hnd E (iI F) ps (bM as) (bM bd) n (E.yn+1) vs H:=by
       intro n e hn he
       cases he
       simp only [Env.push,if_true]
      cases x with
      | norm =>refine ⟨none,H3,hk,max m0 m1,fun n e hn he=>?_⟩;rw [key n e hn he];simp only [hnd,hF1,hm n _ n (by omega) rfl (by omega),hm1 n _ n (by omega) rfl (by omega)]
      | exit i =>refine ⟨some i,H3,hk,max m0 m1,fun n e hn he=>?_⟩;rw [key n e hn he];simp only [hnd,hF1,hm n _ n (by omega) rfl (by omega),hm1 n _ n (by omega) rfl (by omega)]
      | ret=>exact hk.elim
      | brk _ _=>exact hk.elim
     | exit i=>exact hk.elim
     | ret=>exact hk.elim
     | brk _ _=>exact hk.elim
    ·exact hk.elim
   obtain ⟨x,F',H',hk,m0,hm⟩:=nR ib (Rng E (iI F) ps (bM as) (bM bd)) (aX.rng E (iI F) ps (bM as) (bM bd)) (hU.sub (aX.rng E (iI F) ps (bM as) (bM bd))) (hq _ _ (aX.rng E (iI F) ps (bM as) (bM bd)) hflat.1) (iI F) _ hyo (hl1 _) _ H _ h2;have hclr:∀ {H':Hp} {Q':Hp→Prop},Da E.yn H' Q'→Q' H'∧clrY E.yn H.length H'=some H':=fun hw=>by
    obtain ⟨h1,h2⟩:=bZ.1 hw;exact ⟨h2,jx h1⟩
   have run:∀ k,m0≤k→exec (E.push ⟨iI F,ps,bM as,bM bd⟩ (hnd E (iI F) ps (bM as) (bM bd) k)) k (bM ib) (jY 0 (first++[PV.fn (.yield E.yn) [] []]++cap)) H=some (x,F',H'):=fun k hle=>hm k _ k hle rfl hle
   cases x with
   | norm=>
    obtain ⟨hk,hcl⟩:=hclr hk;refine cF.up (m0:=m0) hk fun n e k hn hp hle=>?_
    cases hE n e hp
    simp only [bM];rw [Ip hg hfn ⟨hc.2,hrs⟩];simp only;rw [run k hle];simp only [FK,hcl]
   | ret=>
    obtain ⟨hk,hcl⟩:=hclr hk;refine cF.up (m0:=m0) hk fun n e k hn hp hle=>?_
    cases hE n e hp
    simp only [bM];rw [Ip hg hfn ⟨hc.2,hrs⟩];simp only;rw [run k hle];simp only [FK,hcl]
   | brk k0 i=>
    obtain ⟨hb,hk2⟩:=bZ.1 hk;clear hk;have hb:=jT hb;subst hb;obtain ⟨hk,hcl⟩:=hclr hk2;refine cF.up (m0:=m0) hk fun n e k hn hp hle=>?_
    cases hE n e hp
    simp only [bM];rw [Ip hg hfn ⟨hc.2,hrs⟩];simp only;rw [run k hle];simp only [FK,if_true,hcl]
   | exit i=>exact hk.elim
  ·exact h.elim
theorem jy {lp:LP} {G:aG} {ps:List Nat} {as bd:TC} (hU:Good (cB E) callK) (ha:ybs as=true) (hb:ybs bd=true) (hla:LpOk (wJ E) E lp [] as) (hlb:LpOk (wJ E) E lp [] bd):dT (Rng E G ps (bM as) (bM bd)) E (Pe E callK lp G ps as bd):=by
 intro vs H K hk;unfold Pe at hk;have hq:∀ c,ybs c=true→cG (wJ E) E callK c:=fun _ hf hf'=>by rw [hf] at hf';cases hf'
 split at hk
 ·rename_i F1 hF1;obtain ⟨x,F2,H2,hk,m0,hm⟩:=nR as (wJ E) (aX.ats E) (hU.sub (aX.ats E)) (hq _ ha) [] cJ (dT.no _ _) hla F1 H _ hk
  cases x with
  | norm=>
   simp only at hk;obtain ⟨x,F3,H3,hk,m1,hm1⟩:=nR bd (wJ E) (aX.ats E) (hU.sub (aX.ats E)) (hq _ hb) [] cJ (dT.no _ _) hlb F2 H2 _ hk;have key:∀ n e,Rng E G ps (bM as) (bM bd) n e→e.yl e.yn E.yn vs H=hnd E G ps (bM as) (bM bd) n (E.yn+1) vs H:=by
    intro n e he
    cases he
    simp only [Env.push,if_true]
   cases x with
   | norm =>refine ⟨none,H3,hk,max m0 m1,fun n e hn he=>?_⟩;rw [key n e he];simp only [hnd,hF1,hm n _ n (by omega) rfl (by omega),hm1 n _ n (by omega) rfl (by omega)]
   | exit i =>refine ⟨some i,H3,hk,max m0 m1,fun n e hn he=>?_⟩;rw [key n e he];simp only [hnd,hF1,hm n _ n (by omega) rfl (by omega),hm1 n _ n (by omega) rfl (by omega)]
   | ret=>exact hk.elim
   | brk _ _=>exact hk.elim
  | exit i=>exact hk.elim
  | ret=>exact hk.elim
  | brk _ _=>exact hk.elim
 ·exact hk.elim
theorem cV.intro {id:Nat} {P:EP} (hP:aX P E) (hG:Good P callK) {lp:LP} {b:TC} (hf:ybs b=true) {G:aG} {yk:YK} (hY:dT P E yk) (hl:LpOk P E lp G b) {Q:Ex→aG→Hp→Prop} (R:Nat→aG→Hp→Prop) (h0:∀ F H,¬R 0 F H)
  (hs:∀ n F H,R (n+1) F H→WC E callK lp G yk b F H fun x F' H'=>match x with | .norm=>R n F' H' | .exit i=>Q (.exit i) F' H' | .ret=>Q .ret F' H' | .brk k i=>Q (.brk k i) F' H') :
  ∀ n F H,R n F H→cV P (.loop id b) F H Q
 | 0,F,H,h=>(h0 F H h).elim
 | n+1,F,H,h=>by
  obtain ⟨x,F',H',hk,m0,hm⟩:=nR b P hP hG (fun hf'=>by rw [hf] at hf';cases hf') G yk hY hl F H _ (hs n F H h)
  cases x with
  | norm =>have hk:R n F' H':=hk;obtain ⟨x2,F2,H2,hk2,m1,hm1⟩:=cV.intro (id:=id) hP hG hf hY hl R h0 hs n F' H' hk;simp only [bM] at hm1;exact cF.up (m0:=max m0 m1) hk2 fun n e k hn hp hle=>by simp only [bM,exec,hm n e k (by omega) hp (by omega),hm1 n e k (by omega) hp (by omega)]
  | exit i=>exact cF.up (m0:=m0) hk fun n e k hn hp hle=>by simp only [bM,exec,hm n e k hn hp hle]
  | ret=>exact cF.up (m0:=m0) hk fun n e k hn hp hle=>by simp only [bM,exec,hm n e k hn hp hle]
  | brk _ _=>exact cF.up (m0:=m0) hk fun n e k hn hp hle=>by simp only [bM,exec,hm n e k hn hp hle]
theorem cV.introG {id:Nat} {P:EP} (hP:aX P E) (hG:Good P callK) {lp:LP} {b:TC} (hf:ybs b=true) {G:aG} {yk:YK} (hY:dT P E yk) (hl:LpOk P E lp G b) {Q:Ex→aG→Hp→Prop} (R:Nat→aG→Hp→Prop) (h0:∀ F H,¬R 0 F H)
  (hs:∀ n F H,R (n+1) F H→WC E callK lp G yk b F H fun x F' H'=>match x with | .norm=>R n (fdels F' (gD (bM b))) (uB (fdels F' (gD (bM b))) H.length H') | .exit i=>Q (.exit i) F' H' | .ret=>Q .ret F' H' | .brk k i=>Q (.brk k i) F' H') :
  ∀ n F H,R n F H→cV P (.lG id b) F H Q
 | 0,F,H,h=>(h0 F H h).elim
 | n+1,F,H,h=>by
  obtain ⟨x,F',H',hk,m0,hm⟩:=nR b P hP hG (fun hf'=>by rw [hf] at hf';cases hf') G yk hY hl F H _ (hs n F H h)
  cases x with
  | norm =>have hk:R n (fdels F' (gD (bM b))) (uB (fdels F' (gD (bM b))) H.length H'):=hk;obtain ⟨x2,F2,H2,hk2,m1,hm1⟩:=cV.introG (id:=id) hP hG hf hY hl R h0 hs n _ _ hk;simp only [bM] at hm1;exact cF.up (m0:=max m0 m1) hk2 fun n e k hn hp hle=>by simp only [bM,exec,hm n e k (by omega) hp (by omega),hm1 n e k (by omega) hp (by omega)]
  | exit i=>exact cF.up (m0:=m0) hk fun n e k hn hp hle=>by simp only [bM,exec,hm n e k hn hp hle]
  | ret=>exact cF.up (m0:=m0) hk fun n e k hn hp hle=>by simp only [bM,exec,hm n e k hn hp hle]
  | brk _ _=>exact cF.up (m0:=m0) hk fun n e k hn hp hle=>by simp only [bM,exec,hm n e k hn hp hle]
theorem cV.introC {id:Nat} {P:EP} {b:TC} {Q:Ex→aG→Hp→Prop} (R:Nat→aG→Hp→Prop) (h0:∀ F H,¬R 0 F H)
  (hs:∀ n F H,R (n+1) F H→cF P (bM b) F H fun x F' H'=>match x with | .norm=>R n (fdels F' (gD (bM b))) (uB (fdels F' (gD (bM b))) H.length H') | .exit i=>Q (.exit i) F' H' | .ret=>Q .ret F' H' | .brk k i=>Q (.brk k i) F' H') :
  ∀ n F H,R n F H→cV P (.lG id b) F H Q
 | 0,F,H,h=>(h0 F H h).elim
 | n+1,F,H,h=>by
  obtain ⟨x,F',H',hk,m0,hm⟩:=hs n F H h
  cases x with
  | norm =>have hk:R n (fdels F' (gD (bM b))) (uB (fdels F' (gD (bM b))) H.length H'):=hk;obtain ⟨x2,F2,H2,hk2,m1,hm1⟩:=cV.introC (id:=id) R h0 hs n _ _ hk;simp only [bM] at hm1;exact cF.up (m0:=max m0 m1) hk2 fun n e k hn hp hle=>by simp only [bM,exec,hm n e k (by omega) hp (by omega),hm1 n e k (by omega) hp (by omega)]
  | exit i=>exact cF.up (m0:=m0) hk fun n e k hn hp hle=>by simp only [bM,exec,hm n e k hn hp hle]
  | ret=>exact cF.up (m0:=m0) hk fun n e k hn hp hle=>by simp only [bM,exec,hm n e k hn hp hle]
  | brk _ _=>exact cF.up (m0:=m0) hk fun n e k hn hp hle=>by simp only [bM,exec,hm n e k hn hp hle]
end
def jH (P:EP) (n:Nat) (as:List PV) (r:PV):Prop:=∃ m0,∀ k e m,m0≤k→P k e→m0≤m→ycj e (ya9 e m) n as=some r
def tF (E:Env) (n:Nat) (as:List PV) (r:PV):Prop:=jH (cB E) n as r
def mP (E:Env) (n:Nat) (as:List PV) (r:PV):Prop:=jH (nQ E) n as r
theorem jH.sub {P P':EP} {n:Nat} {as:List PV} {r:PV} (h:jH P n as r) (hs:∀ k e,P' k e→P k e):jH P' n as r:=by obtain ⟨m0,hm⟩:=h;exact ⟨m0,fun k e m h1 h2 h3=>hm k e m h1 (hs k e h2) h3⟩
theorem tF.solo {E:Env} {n:Nat} {as:List PV} {r:PV} (h:tF E n as r):mP E n as r:=jH.sub h fun _ e h=>by cases h;rfl
def Pp (E:Env):Prop:=∀ n as H x,E.eff n as H=some x→E.qui n=false∧E.frz n=false∧(∀ as,E.sum n as=none)∧E.rb n=false
def Iq (P:EP) (n:Nat) (as:List PV) (b:HB) (q:PV) (rows:List PV):Prop:=∃ m0,∀ k e m,m0≤k→P k e→m0≤m→yzj (ya9 e m) n as b=some (q,rows)
structure SEOk (P:EP) (S:SE):Prop where
 sb:aX P S.E
 sum:∀ n wp,S.sumK n=some wp→∀ as K,wp as K→∃ r,K r∧jH P n as r
 inl:∀ n fn,S.inl n=some fn→S.E.fns n=some fn.fn∧S.E.qui n=false∧S.E.frz n=false∧(∀ as,S.E.sum n as=none)∧(∀ as H,S.E.eff n as H=none)∧ybs fn.body=true∧LpOk P S.E S.lp [] fn.body
 eff:Pp S.E
 sumL:∀ n wp,S.sumL n=some wp→∀ as b K,wp as b K→∃ q rows,K q rows∧Iq P n as b q rows
section
variable {S:SE} {P:EP} {callK:CK} {H:Hp}
theorem wL {E e:Env} (h:gN E e):e.fns=E.fns∧e.sum=E.sum∧e.qui=E.qui∧e.frz=E.frz∧e.rb=E.rb∧e.nl=E.nl∧e.eff=E.eff:=by unfold gN at h;rw [h];exact ⟨rfl,rfl,rfl,rfl,rfl,rfl,rfl⟩
theorem Pq (hP:aX P S.E) (hG:Good P callK) {fn:TFn} (hR:cG P S.E callK fn.body) (hl:LpOk P S.E S.lp [] fn.body) {n:Nat} (hf:S.E.fns n=some fn.fn) (he:∀ as H,S.E.eff n as H=none) {args:List PV} {K:PV→Hp→Prop} (h:LE S.E callK S.lp fn args H K) :
  ∃ r H',K r H'∧∃ m0,∀ k e m,m0≤k→P k e→m0≤m→ya9 e m n args H=some (r,H'):=by
 obtain ⟨h1,h⟩:=bZ.1 h;have h1:args.length=fn.nparams:=by simpa using h1
 obtain ⟨x,F',H',hk,m0,hm⟩:=nR fn.body P hP hG hR [] cJ (dT.no _ _) hl _ H _ h;have key:(match ycF F' H' fn.results with | some ps=>K (lL ps) H' | none=>False)→(x=.norm∨x=.ret) →
   ∃ r H',K r H'∧∃ m0,∀ k e m,m0≤k→P k e→m0≤m→ya9 e m n args H=some (r,H'):=by
  intro hk hx;split at hk
  ·rename_i ps hps;refine ⟨_,_,hk,m0+1,fun k e m hkl hp hle=>?_⟩;obtain ⟨q,rfl⟩:∃ q,m=q+1:=⟨m-1,by omega⟩;have e0:=hm k e q (by omega) hp (by omega);obtain ⟨l1,_,_,_,_,_,l7⟩:=wL (hP k e hp);simp only [ya9,Env.effx,xV,l7,l1,he,hf,TFn.fn,h1,if_true];rw [e0];rcases hx with rfl | rfl<;>simp only [hps]
  ·exact hk.elim
 cases x with
 | norm=>exact key hk (.inl rfl)
 | exit i=>exact hk.elim
 | brk _ _=>exact hk.elim
 | ret=>exact key hk (.inr rfl)
theorem FM {e:Env} {call:Nat→List PV→Hp→Option (PV×Hp)} {f:PV} {args:List PV} (h:yik e f args=none):yhG e call f args H=qM e call f args H:=by simp only [yhG,h]
theorem eJ (hS:SEOk P S):∀ d,Good P (gJ S d)
 | 0,f,args,H,K,h=>h.elim
 | d+1,f,args,H,K,h=>by
  unfold gJ at h;split at h
  ·rename_i n first captured;split at h
   ·rename_i x hx;split at h
    ·rename_i wp hwp;unfold Ik at h;obtain ⟨as,H',h,hp⟩:=LG _ _ _ h;split at h
     ·rename_i b hb;obtain ⟨hc,h⟩:=bZ.1 h;simp only [cU,pD] at hc;obtain ⟨q,rows,hk,m0,hm⟩:=hS.sumL _ wp hwp _ _ _ h;refine ⟨q,_,hk,m0,fun k e m hkl he hle=>?_⟩;simp only [yhG,Io (hS.sb k e he),hx,EY,hp,hb];rw [WN hc];simp only [hm k e m hkl he hle]
     ·exact h.elim
    ·exact h.elim
   rename_i hx;have hx':∀ k e,P k e→yik e (.fn (.func n) first captured) args=none:=fun k e he=>(Io (hS.sb k e he) _ _).trans hx
   split at h
   ·rename_i wp hwp
    cases hb:S.E.rb n with
    | true =>rw [hb,cond_true] at h;obtain ⟨as,h,hp⟩:=Zr _ _ h;obtain ⟨r,hk,m0,hm⟩:=hS.sum n wp hwp as _ h;obtain ⟨hs,hk⟩:=bZ.1 hk;refine ⟨r,_,hk,m0,fun k e m hkl he hle=>?_⟩;obtain ⟨_,_,_,_,l5,_,_⟩:=wL (hS.sb k e he);rw [FM (hx' k e he)];simp only [qM,l5,hb,if_true,hp,hm k e m hkl he hle,hs]
    | false=>
     rw [hb,cond_false] at h;obtain ⟨as,H',h,hp⟩:=LG _ _ _ h;obtain ⟨r,hk,m0,hm⟩:=hS.sum n wp hwp as _ h;refine ⟨r,_,hk,m0,fun k e m hkl he hle=>?_⟩;obtain ⟨_,_,_,_,l5,_,_⟩:=wL (hS.sb k e he);rw [FM (hx' k e he)];simp only [qM,l5,hb,iZ,if_false,hp,hm k e m hkl he hle]
     cases r.scalar<;>simp
   ·split at h
    ·rename_i fn hfn;obtain ⟨h1,h2,h3,h4,h6,h7,h5⟩:=hS.inl n fn hfn
     cases hb:S.E.rb n with
     | true =>rw [hb,cond_true] at h;exact h.elim
     | false=>
      rw [hb,cond_false] at h;obtain ⟨r,H',hk,m0,hm⟩:=Pq hS.sb (eJ hS d) (fun hf=>by rw [h7] at hf;cases hf) h5 h1 h6 h;refine ⟨r,H',hk,m0,fun k e m hkl he hle=>?_⟩;obtain ⟨_,l2,l3,l4,l5,_,_⟩:=wL (hS.sb k e he);have e0:∀ as,ycj e (ya9 e m) n as=none:=by
       intro as;simp only [ycj,l2,l3,h4 as,h2];rfl
      rw [FM (hx' k e he)];simp only [qM,e0,l3,l4,l5,h2,h3,hb]
      cases yaC H (first++args++captured)<;>simp only [iZ,if_false,hm k e m hkl he hle]
    ·split at h
     ·rename_i c t x y he;obtain ⟨hc,h⟩:=bZ.1 h;subst hc;obtain ⟨h2,h3,h4,h7⟩:=hS.eff n _ _ _ he;obtain ⟨r,H',h,hrt⟩:∃ r H',K r H'∧(bif t then x else y)=(r,H'):=by
       cases t with
       | true=>exact ⟨_,_,h,rfl⟩
       | false=>exact ⟨_,_,h,rfl⟩
      refine ⟨r,H',h,1,fun k e m hkl hp hle=>?_⟩;obtain ⟨k,rfl⟩:∃ k,m=k+1:=⟨m-1,by omega⟩;obtain ⟨_,l2,l3,l4,l5,_,l7⟩:=wL (hS.sb _ e hp);have e0:∀ as,ycj e (ya9 e (k+1)) n as=none:=by
       intro as;simp only [ycj,l2,l3,h4 as,h2];rfl
      have hi:ya9 e (k+1) n (first++args++captured) H=some (r,H'):=by simp only [ya9,Env.effx,xV,l7,he,hrt]
      rw [FM (hx' _ e hp)];simp only [qM,e0,l3,l4,l5,h2,h3,h7]
      cases yaC H (first++args++captured)<;>simp only [iZ,if_false,hi]
     ·exact h.elim
  ·exact h.elim
theorem Ir (hS:SEOk P S) {d:Nat} {fn:TFn} {n:Nat} (hR:cG P S.E (gJ S d) fn.body) (hl:LpOk P S.E S.lp [] fn.body) (hf:S.E.fns n=some fn.fn) (hq:S.E.qui n=true) (hs:∀ as,S.E.sum n as=none) (he:∀ as H,S.E.eff n as H=none) {as:List PV} {K:PV→Prop} (h:WP S d fn as K) (hn:S.E.nl n=false:=by kernel_rfl) :
  ∃ r,K r∧jH P n as r:=by
 unfold WP at h;obtain ⟨r,H',hk,m0,hm⟩:=Pq hS.sb (eJ hS d) hR hl hf he h;obtain ⟨q,hk,hq'⟩:=jk hk;refine ⟨q,hk,m0,fun k e m hkl hp hle=>?_⟩;obtain ⟨_,l2,l3,_,_,l6,_⟩:=wL (hS.sb k e hp);simp only [ycj,l2,l3,l6,hs as,hq,hm k e m hkl hp hle,hn,mN,cond_false,hq',if_true]
theorem cG.flat {E:Env} {c:TC} (h:ybs c=true:=by kernel_rfl):cG P E callK c:=fun hf=>by rw [h] at hf;cases hf
end
def uH (P:EP) (lp:LP) (G:aG):List (Nat×TC)→Prop
 | []=>True
 | p::r=>(∀ F H Q,lp p.1 G F H Q→cV P p.2 F H Q)∧uH P lp G r
theorem uH.mem {P:EP} {lp:LP} {G:aG}:∀ {l:List (Nat×TC)},uH P lp G l→∀ p∈l,∀ F H Q,lp p.1 G F H Q→cV P p.2 F H Q
 | [],_,p,hp=>by cases hp
 | q::r,h,p,hp=>by
  rcases qAs.1 hp with rfl|hp
  ·exact h.1
  ·exact uH.mem h.2 p hp
theorem fM {P:EP} {E:Env} {lp:LP} {G:aG} {c:TC} {l:List (Nat×TC)} (h:uH P lp G l) (e:mI c=l) (hf:ybs c=true:=by kernel_rfl):LpOk P E lp G c:=yM c hf (by rw [e];exact h.mem)
theorem bW {P:EP} {E:Env} {lp:LP} {G:aG} {c:TC} (e:mI c=[]) (hf:ybs c=true:=by kernel_rfl):LpOk P E lp G c:=fM (l:=[]) trivial e hf
theorem LpOk.sub {P P':EP} {E:Env} {lp:LP} {G:aG} (hs:∀ n e,P' n e→P n e):∀ (c:TC),ybs c=true→LpOk P E lp G c→LpOk P' E lp G c
 | .skip,_,_ | .ops _ _ _ _,_,_ | .exit _,_,_ | .ret,_,_ | .bad,_,_ | .yret _ _ _ _ _ _ _,_,_ | .cut _,_,_=>trivial
 | .rangeF _ _ _ _ _ _ _,hf,_=>by simp [ybs] at hf
 | .seq a b,hf,h=>by simp only [ybs,cU] at hf;exact ⟨LpOk.sub hs a hf.1 h.1,LpOk.sub hs b hf.2 h.2⟩
 | .cond _ a b,hf,h=>by simp only [ybs,cU] at hf;exact ⟨LpOk.sub hs a hf.1 h.1,LpOk.sub hs b hf.2 h.2⟩
 | .block _ b,hf,h=>LpOk.sub hs b hf h
 | .loop _ b,hf,h=>⟨LpOk.sub hs b hf h.1,fun F H Q k=>(h.2 F H Q k).sub hs⟩
 | .lG _ b,hf,h=>⟨LpOk.sub hs b hf h.1,fun F H Q k=>(h.2 F H Q k).sub hs⟩
 | .join _ b,hf,h=>⟨LpOk.sub hs b hf h.1,fun F H Q k=>(h.2 F H Q k).sub hs⟩
theorem SEOk.solo {S:SE} (h:SEOk (cB S.E) S):SEOk (nQ S.E) S where
 sb:=aX.solo _
 sum:=fun n wp hw as K k=>by
  obtain ⟨r,h1,h2⟩:=h.sum n wp hw as K k;exact ⟨r,h1,h2.sub fun _ _ he=>aX.solo _ _ _ he⟩
 inl:=fun n fn hf=>by
  obtain ⟨h1,h2,h3,h4,h5,h6,h7⟩:=h.inl n fn hf;exact ⟨h1,h2,h3,h4,h5,h6,LpOk.sub (fun n e he=>aX.solo _ n e he) _ h6 h7⟩
 eff:=h.eff
 sumL:=fun n wp hw as b K k=>by obtain ⟨q,rows,h1,m0,h2⟩:=h.sumL n wp hw as b K k;exact ⟨q,rows,h1,m0,fun k e m k1 k2 k3=>h2 k e m k1 (aX.solo _ _ _ k2) k3⟩
def yko:List (Nat×(List PV→(PV→Prop)→Prop))→Nat→Option (List PV→(PV→Prop)→Prop)
 | [],_=>none
 | (k,f)::r,n=>bif Nat.beq k n then some f else yko r n
def yeG:List (Nat×TFn)→Nat→Option TFn
 | [],_=>none
 | (k,f)::r,n=>bif Nat.beq k n then some f else yeG r n
def yN (P:EP):List (Nat×(List PV→(PV→Prop)→Prop))→Prop
 | []=>True
 | (k,f)::r=>(∀ as K,f as K→∃ q,K q∧jH P k as q)∧yN P r
def yO (P:EP) (E:Env) (lp:LP):List (Nat×TFn)→Prop
 | []=>True
 | (k,f)::r=>(E.fns k=some f.fn∧E.qui k=false∧E.frz k=false∧(∀ as,E.sum k as=none)∧(∀ as H,E.eff k as H=none)∧ybs f.body=true∧LpOk P E lp [] f.body)∧yO P E lp r
theorem Zz {P:EP}:∀ (l:List (Nat×(List PV→(PV→Prop)→Prop))),yN P l→∀ n wp,yko l n=some wp→∀ as K,wp as K→∃ r,K r∧jH P n as r
 | [],_,_,_,h=>by simp [yko] at h
 | (k,f)::r,hl,n,wp,h=>by
  simp only [yN] at hl;simp only [yko] at h
  cases hc:Nat.beq k n with
  | true =>rw [hc] at h;simp only [cond_true,cP] at h;have:=jT hc;subst this;subst h;exact hl.1
  | false =>rw [hc] at h;exact Zz r hl.2 n wp (by simpa using h)
theorem ZA {P:EP} {E:Env} {lp:LP}:∀ (l:List (Nat×TFn)),yO P E lp l→∀ n fn,yeG l n=some fn→E.fns n=some fn.fn∧E.qui n=false∧E.frz n=false∧(∀ as,E.sum n as=none)∧(∀ as H,E.eff n as H=none)∧ybs fn.body=true∧LpOk P E lp [] fn.body
 | [],_,_,_,h=>by simp [yeG] at h
 | (k,f)::r,hl,n,fn,h=>by
  simp only [yO] at hl;simp only [yeG] at h
  cases hc:Nat.beq k n with
  | true =>rw [hc] at h;simp only [cond_true,cP] at h;have:=jT hc;subst this;subst h;exact hl.1
  | false =>rw [hc] at h;exact ZA r hl.2 n fn (by simpa using h)
theorem cT {P:EP} {E:Env} {ls:List (Nat×(List PV→(PV→Prop)→Prop))} {li:List (Nat×TFn)} {lp:LP} (hb:aX P E) (hs:yN P ls) (hi:yO P E lp li) (he:Pp E):SEOk P ⟨E,yko ls,yeG li,lp,fun _=>none⟩ where
 sb:=hb
 sum:=fun n wp h=>Zz ls hs n wp h
 inl:=fun n fn h=>ZA li hi n fn h
 eff:=he
 sumL:=fun n wp h=>by cases h
theorem jz {add sub n:Nat} (h1:Nat.beq n add=false) (h2:Nat.beq n sub=false) (as:List PV):sumC add sub n as=none:=by
 unfold sumC;split
 ·rw [h1,h2];rfl
 ·rfl
def FN (p0 p1 p2:Int) (K:Int→Int→Prop):Prop:=
 aI (decide (p2.toNat≤1)) (K (((p0.toNat+p1.toNat+p2.toNat)%18446744073709551616:Nat):Int) (((p0.toNat+p1.toNat+p2.toNat)/18446744073709551616:Nat):Int))
def uI:List PV:=([0,1,2,2,3,3,3,3,4,4,4,4,4,4,4,4,5,5,5,5,5,5,5,5,5,5,5,5,5,5,5,5,6,6,6,6,6,6,6,6,6,6,6,6,6,6,6,6,6,6,6,6,6,6,6,6,6,6,6,6,6,6,6,6,7,7,7,7,7,7,7,7,7,7,7,7,7,7,7,7,7,7,7,7,7,7,7,7,7,7,7,7,7,7,7,7,7,7,7,7,7,7,7,7,7,7,7,7,7,7,7,7,7,7,7,7,7,7,7,7,7,7,7,7,7,7,7,7,8,8,8,8,8,8,8,8,8,8,8,8,8,8,8,8,8,8,8,8,8,8,8,8,8,8,8,8,8,8,8,8,8,8,8,8,8,8,8,8,8,8,8,8,8,8,8,8,8,8,8,8,8,8,8,8,8,8,8,8,8,8,8,8,8,8,8,8,8,8,8,8,8,8,8,8,8,8,8,8,8,8,8,8,8,8,8,8,8,8,8,8,8,8,8,8,8,8,8,8,8,8,8,8,8,8,8,8,8,8,8,8,8,8,8,8,8,8,8,8,8,8,8,8,8,8,8,8]:List Int).map (PV.int .u8)
def Pr (w:Int→Int→Int→(Int→Int→Prop)→Prop) (as:List PV) (K:PV→Prop):Prop:=
 match as with
 | [(.int .u64 p0),(.int .u64 p1),(.int .u64 p2)]=>w p0 p1 p2 (fun (r0:Int) (r1:Int)=>K (.tup [(.int .u64 r0),(.int .u64 r1)]))
 | _=>False
def ynq (as:List PV) (K:PV→Prop):Prop:=Pr FN as K
def FO (p0 p1 p2:Int) (K:Int→Int→Prop):Prop:=
 aI (decide (p2.toNat≤1)) (K (((p0.toNat+18446744073709551616-p1.toNat-p2.toNat)%18446744073709551616:Nat):Int) ((bif Nat.ble (p1.toNat+p2.toNat) p0.toNat then 0 else 1:Nat):Int))
def Ps (w:Int→Int→Int→(Int→Int→Prop)→Prop) (as:List PV) (K:PV→Prop):Prop:=
 match as with
 | [(.int .u64 p0),(.int .u64 p1),(.int .u64 p2)]=>w p0 p1 p2 (fun (r0:Int) (r1:Int)=>K (.tup [(.int .u64 r0),(.int .u64 r1)]))
 | _=>False
def yns (as:List PV) (K:PV→Prop):Prop:=Ps FO as K
theorem ka {P:Program} {E:Env} (hE:EO P E) (hm:P.follows .mixedOrders=true) {n:Nat} {as:List PV} {r:PV} (hs:E.sum n as=none) (hq:E.qui n=true) (h:mP E n as r):rK P E.glob n as r:=by
 obtain ⟨m0,hm0⟩:=h;have:=hm0 m0 E m0 (cQ _) rfl (cQ _);simp only [ycj,hs,hq,if_true] at this;refine YR hE hm (n:=m0) ?_;unfold topV;split at this
 ·rename_i x H hx;rw [hx];exact this
 ·cases this
end Go.Pf
namespace Go.Pf
open Go Go.RowKit
section
variable {P:Program} {E:Env}
theorem kb {b:Bool} {call} (hc:yaR P E call) {I:Nat→Prop} {w:World} {f:Nat} {args:List PV} {vs:List Value} {r q:PV} {H:Hp} (himm:∀ b,I b→b<w.heap.size)
  (hg:∀ n x,E.glob n=some x→I n∧∃ vs,0<vs.length∧RC I w x vs∧At w n 0 vs) (hv:bQ ⟨fun _=>none,fun _=>none,I,fun _=>none⟩ [] w args vs) (hin:call f args []=some (r,H)) (h:mN b H r=some q) :
  oK P f vs.toArray w fun v w'=>Bel w.heap.size w w'∧VP (fun b=>I b∨(w.heap.size≤b∧b<w'.heap.size)) w' q v:=by
 let g0:Gh:=⟨fun _=>none,fun _=>none,I,fun _=>none⟩;have hr:Rel E 0 g0 [] [] #[] w:=by
  refine ⟨jA _,fun s fv e=>by simp [fget] at e,fun id hb e=>by simp at e,fun id id' hb b o b' o' e=>by simp at e,fun id b o e=>by simp [g0] at e,fun s s' b e=>by simp [g0] at e,fun s b id o e=>by simp [g0] at e,fun s b e=>by simp [g0] at e,himm,hg⟩
 refine (hc f args [] r H hin 0 g0 [] #[] w vs hr (Lps.none_ fun _=>rfl) hv).mono ?_;rintro v w' ⟨g',n1,r1,hvr⟩;obtain ⟨g2,H2,r2,n2,hvp⟩:=XJ r1 hvr h;have n3:=n1.trans n2;have noR:∀ b,¬RngR g0 b:=fun b ⟨id,o,e⟩=>by simp [g0] at e
 have noM:∀ b,¬lX g0 b:=fun b ⟨s,e⟩=>by simp [g0] at e
 refine ⟨⟨⟨n3.os,n3.tape,n3.output,n3.size,fun k hk=>n3.kept k hk (noR k) (noM k)⟩,n3.drawn⟩,OD (fun b hb=>⟨?_,rfl⟩) hvp⟩;rcases qA2 b w.heap.size with h1 | h1
 ·rcases hb with hb | hb
  ·rcases n3.immb b h1 hb with h2 | h2
   ·exact .inl h2
   ·exact absurd h2 (noR b)
  ·exact absurd (n3.rng b h1 hb) (noR b)
 ·exact .inr ⟨h1,hb.elim (r2.imm b) r2.brng⟩
theorem kc (hE:EO P E) (hm:P.follows .mixedOrders=true) {n f:Nat} {q:PV} (h:∀ b,topV E n f [.mt b]=some q):rK P E.glob f [.data []] q:=by
 intro I w vs himm hgl hv;simp only [gL,fS,RC] at hv;obtain ⟨v,vr,rfl,⟨a,len,cap,e,hl,hc,hm2,_⟩,rfl⟩:=hv;simp only [lI,and_true] at e;subst e;have hl:len=0:=hl;subst hl;have hh:=h a.isNone;unfold topV at hh;split at hh
 ·rename_i r H hin;refine kb (YQ hE hm n) himm hgl (args:=[.mt a.isNone]) ?_ hin hh;simp only [bQ,VR];exact ⟨_,_,rfl,⟨a,cap,rfl,hm2,rfl⟩,rfl⟩
 ·cases hh
end
def FQ (esz bytes:Nat) (z:PV):AFn:=⟨1,[.tmp 2],
 (.seq
  (.ops [⟨some 2,(.mv (.c .nils)),none⟩] [] [2])
  (.seq
   (.seq
    (.ops [⟨some 3,(.mv (.t 0)),none⟩,
     ⟨some 4,(.eqN false (.t 3)),none⟩] [] [3])
    (.cond (.t 4)
     (.seq (.ops [⟨some 2,(.mv (.c .nils)),none⟩] [] [0,4]) .ret)
     .skip))
   (.seq
    (.ops [⟨some 5,(.bSl true esz z 0 []),none⟩,
     ⟨some 6,(.mv (.t 0)),none⟩,
     ⟨some 7,(.app true esz bytes (.t 5) (.t 6)),none⟩,
     ⟨some 2,(.mv (.t 7)),none⟩] [] [0,4,5,6,7])
    .ret)))⟩
abbrev qR:=List (Nat×Nat×Nat)
def LJ (esz bytes:Nat) (rows:List PV):Bool:=qL esz rows&&decide ((rows.length+64)*(bytes+1)≤room)
def yhm:qR→Nat→List PV→Option PV
 | [],_,_=>none
 | (k,esz,bytes)::r,n,as=>bif Nat.beq k n then (match as with
  | [.data rows]=>(bif LJ esz bytes rows then some (.data rows) else none)
  | _=>none) else yhm r n as
def LK:qR→Nat→Bool
 | [],_=>false
 | (k,_,_)::r,n=>Nat.beq k n||LK r n
section
variable {P:Program} {E:Env}
theorem kd {n esz bytes:Nat} {z:PV} (hf:E.fns n=some (FQ esz bytes z)) (he:∀ as H,E.eff n as H=none) (hnl:E.nl n=false) (b:Bool):topV E 12 n [.mt b]=some (.data []):=by
 unfold topV
 cases b<;>simp [ya9,Env.effx,xV,he,exec,hf,FQ,yfX,yaK,yda,ybN,yae,evV,ev,jY,fget,aS,fdels,fR,kO,ycE,outV,Option.map,ycF,yug,lL,mN,hnl,purR,ybm,ydZ,appV,yfV,qL,wA]
theorem ke {n esz bytes:Nat} {z:PV} (hf:E.fns n=some (FQ esz bytes z)) (he:∀ as H,E.eff n as H=none) (hnl:E.nl n=false) {x:PV} {r:List PV} (h:LJ esz bytes (x::r)=true):topV E 12 n [.data (x::r)]=some (.data (x::r)):=by simp only [LJ,cU,decide_eq_true_eq,kK] at h;obtain ⟨h1,h2⟩:=h;unfold topV;simp [ya9,Env.effx,xV,he,exec,hf,FQ,yfX,yaK,yda,ybN,yae,evV,ev,jY,fget,aS,fdels,fR,kO,ycE,outV,Option.map,ycF,yug,lL,mN,hnl,purR,ybm,ydZ,appV,yfV,h1,wA,yce,h2]
theorem ZB (hE:EO P E) (hm:P.follows .mixedOrders=true) (he:∀ n as H,E.eff n as H=none) (hnl:∀ n,E.nl n=false):∀ (cl:qR),(∀ n esz bytes,(n,esz,bytes)∈cl→∃ z,E.fns n=some (FQ esz bytes z))→∀ n as r,yhm cl n as=some r→rK P E.glob n as r
 | [],_,_,_,_,h=>by simp [yhm] at h
 | (k,esz,bytes)::t,hc,n,as,r,h=>by
  simp only [yhm] at h
  cases hb:Nat.beq k n with
  | false=>rw [hb] at h;exact ZB hE hm he hnl t (fun n e b hm=>hc n e b (iY _ hm)) n as r (by simpa using h)
  | true=>
   rw [hb] at h;have e:=jT hb;subst e;simp only [cond_true] at h;split at h
   ·rename_i rows
    cases hk:LJ esz bytes rows with
    | false=>rw [hk] at h;simp at h
    | true=>
     rw [hk] at h;simp only [cond_true,cP] at h;subst h;obtain ⟨z,hf⟩:=hc k esz bytes jU
     cases rows with
     | nil=>exact kc hE hm (fun b=>kd hf (he k) (hnl k) b)
     | cons x r=>exact YR hE hm (ke hf (he k) (hnl k) hk)
   ·cases h
end
def ZC:List (Nat×PV)→Nat→Option PV
 | [],_=>none
 | (k,a)::r,n=>bif Nat.beq k n then some a else ZC r n
theorem rK.any {P:Program} {G:Nat→Option PV} {f:FuncId} {as:List PV} {r:PV} (h:rK P (fun _=>none) f as r):rK P G f as r:=
 fun I w vs hI _ hv=>h I w vs hI (fun _ _ e=>nomatch e) hv
def uJ (add sub:Nat) (tab:List (Nat×AFn)) (qui:List Nat) (cl:qR) (gl:List (Nat×PV)):Env:=
 { glob:=ZC gl,sum:=fun n as=>match sumC add sub n as with | some r=>some r | none=>yhm cl n as,fns:=ysy tab,frz:=fun _=>false,qui:=memN qui,nl:=fun n=>memN qui (n+1000000),rb:=fun n=>memN qui (n+3000000),lo:=fun n=>bif memN qui (n+4000000) then some 1 else bif memN qui (n+5000000) then some 0 else bif memN qui (n+2000000) then some 4 else none,dn:=fun n=>memN qui (n+6000000) }
def LM (add sub:Nat) (cl:qR) (n:Nat):Bool:=Nat.beq n add||(Nat.beq n sub||LK cl n)
theorem ZD:∀ (cl:qR) (n:Nat) (as:List PV),LK cl n=false→yhm cl n as=none
 | [],_,_,_=>rfl
 | (k,_,_)::r,n,as,h=>by simp only [LK,AT] at h;simp only [yhm,h.1,cond_false];exact ZD r n as h.2
theorem kg {add sub:Nat} {tab:List (Nat×AFn)} {qui:List Nat} {cl:qR} {gl:List (Nat×PV)} {n:Nat} (h:LM add sub cl n=false) (as:List PV):(uJ add sub tab qui cl gl).sum n as=none:=by simp only [LM,AT] at h;simp only [uJ,jz h.1 h.2.1,ZD cl n as h.2.2]
theorem kh {P:Program} {add sub:Nat} {tab:List (Nat×AFn)} {qui:List Nat} {cl:qR} {gl:List (Nat×PV)} (hm:P.follows .mixedOrders=true) (ha:IsExtern P add add64Entry) (hs:IsExtern P sub Id) (ht:CS P tab)
  (hd:∀ n∈CT qui,iw P n) (hc:∀ n esz bytes,(n,esz,bytes)∈cl→∃ z,ysy tab n=some (FQ esz bytes z)):EO P (uJ add sub tab qui cl gl) where
 sum:=by
  intro n as r h;simp only [uJ] at h;split at h
  ·rename_i q hq;cases h;exact YV ha hs n as _ hq
  ·exact (ZB (iv (qui:=[]) ha hs ht) hm (fun _ _ _=>rfl) (fun _=>rfl) cl (fun n e b hmem=>hc n e b hmem) n as r h).any
 fns:=fun n fn h=>Pa tab ht n fn h
 eff:=fun _ _ _ _ _ _ _ h=>by cases h
 dn:=fun n h=>hd n (YW h)
 top:=fun _ _=>rfl
 yl:=fun _ _ _ _ _ _ h=>by cases h
end Go.Pf
namespace Go.Pf
abbrev Ls:Type:=List PV
def O (d:Nat) (x:AOp):AO:=⟨some d,x,none⟩
def M (d s:Nat):AO:=⟨some d,.mv (.t s),none⟩
def I (n:Int):Opd:=.c (.int .i64 n)
def oX (d:Nat) (op:BinOp) (a b:Nat):AO:=⟨some d,.bin op (.t a) (.t b),none⟩
def oT (d sz a:Nat):AO:=⟨some d,.load true sz (.t a),none⟩
def oF (d sz a:Nat):AO:=⟨some d,.load false sz (.t a),none⟩
def oQ (l:List AO) (d:List Nat):TC:=.ops l [] [] d
abbrev cR (E:Env) (wp:List PV→(PV→Prop)→Prop) (n:Nat):Prop:=∀ as K,wp as K→∃ r,K r∧tF E n as r
abbrev OkL (E:Env) (wp:List PV→HB→(PV→List PV→Prop)→Prop) (n:Nat):Prop:=∀ as b K,wp as b K→∃ q rows,K q rows∧Iq (cB E) n as b q rows
abbrev LN (E:Env) (wp:List PV→(PV→Prop)→Prop) (n:Nat):Prop:=∀ as K,wp as K→∃ r,K r∧mP E n as r
theorem cR.solo {E:Env} {wp:List PV→(PV→Prop)→Prop} {n:Nat} (h:cR E wp n):LN E wp n:=fun as K k=>by obtain ⟨r,h1,h2⟩:=h as K k;exact ⟨r,h1,h2.solo⟩
theorem mP.unique {E:Env} {n:Nat} {as:List PV} {r r':PV} (h:mP E n as r) (h':mP E n as r'):r=r':=by obtain ⟨m,hm⟩:=h;obtain ⟨m',hm'⟩:=h';have e:=hm (m+m') E (m+m') (by omega) rfl (by omega);rw [hm' (m+m') E (m+m') (by omega) rfl (by omega)] at e;exact (AX e).symm
theorem Is {E:Env} {n:Nat} {wp:List PV→(PV→Prop)→Prop} (ok:LN E wp n) {as:List PV} {x:PV}
  (h:∀ K:PV→Prop,K x→wp as K) {K:PV→Prop} (k:wp as K):K x:=by
 obtain ⟨r,h1,h2⟩:=ok as K k;obtain ⟨q,h3,h4⟩:=ok as (fun y=>y=x) (h _ rfl);subst h3;rw [← h2.unique h4];exact h1
theorem dO {E:Env} {n:Nat} {wp:List PV→(PV→Prop)→Prop} (ok:∀ as K,wp as K→∃ r,K r∧tF E n as r) {as:List PV} {x:PV}
 (h:∀ K:PV→Prop,K x→wp as K) {K:PV→Prop} (k:wp as K):K x:=Is (cR.solo ok) h k
end Go.Pf
namespace Go.Pf
open Go
inductive DS where
 | b
 | i (k:IntKind)
 | s (e:DS)
 | a (l:List DS)
def DS.isA:DS→Bool
 | .a _=>true
 | _=>false
def PV.isAgg:PV→Bool
 | .agg _=>true
 | _=>false
mutual
def HasF:DS→List PV→Prop
 | .b,c=>∃ x,c=[.bool x]
 | .i k,c=>∃ n,c=[.int k n]∧jB k n
 | .s e,c=>∃ rows:List PV,c=[.data rows]∧rows.length≤maxLen∧∀ x∈rows,x.isAgg=e.isA∧HasF e x.cells
 | .a l,c=>HasL l c
def HasL:List DS→List PV→Prop
 | [],c=>c=[]
 | d::l,c=>∃ c1 c2,c=c1++c2∧HasF d c1∧HasL l c2
end
mutual
def jI (P:Program):DS→TypeId→Bool
 | .b,t=>(match P.underlying t with | some .bool=>true | _=>false)
 | .i k,t=>(match P.underlying t with | some (.int q)=>decide (q=k) | _=>false)
 | .s e,t=>(match P.underlying t with | some (.slice u)=>decide (0<P.cellsOf u)&&jI P e u | _=>false)
 | .a l,t=>(match P.underlying t with | some (.struct fs)=>mQ P l (fs.toList.map (·.type)) | some (.array n u)=>mQ P l (replicate n u) | _=>false)
def mQ (P:Program):List DS→List TypeId→Bool
 | [],[]=>true
 | d::l,t::r=>jI P d t&&mQ P l r
 | _,_=>false
end
theorem ZE (P:Program):∀ (l:List DS) (ts:List TypeId),mQ P l ts=true→l.length=ts.length
 | [],[],_=>rfl
 | _::l,_::r,h=>by unfold mQ at h;simp only [cU] at h;simp [ZE P l r h.2]
 | [],_::_,h=>by unfold mQ at h;cases h
 | _::_,[],h=>by unfold mQ at h;cases h
theorem ZF (P:Program):∀ (l:List DS) (ts:List TypeId),mQ P l ts=true→∀ (j:Nat) d t,l[j]?=some d→ts[j]?=some t→jI P d t=true
 | [],[],_,_,_,_,h,_=>by simp at h
 | d::l,t::r,h,0,d',t',h1,h2=>by unfold mQ at h;simp only [cU] at h;simp only [HC,cP] at h1 h2;subst h1;subst h2;exact h.1
 | d::l,t::r,h,j+1,d',t',h1,h2=>by unfold mQ at h;simp only [cU] at h;exact ZF P l r h.2 j d' t' (by simpa using h1) (by simpa using h2)
 | [],_::_,h,_,_,_,_,_=>by unfold mQ at h;cases h
 | _::_,[],h,_,_,_,_,_=>by unfold mQ at h;cases h
section
variable {H:Type} {enc:TypeId×Value→H} {P:Program} {w:World} {I:Nat→Prop}
theorem ki {l1 l2:List PV} {v1 v2:List Value} (h1:yay I w l1 v1) (h2:yay I w l2 v2):yay I w (l1++l2) (v1++v2):=Ov h1 h2
def yIl (enc:TypeId×Value→H) (P:Program) (w:World) (I:Nat→Prop) (n:Nat):Prop:=
 ∀ (d:DS) (t:TypeId) (cs:List Value) (x:DataW H×List MemPlace),t<P.types.size→jI P d t=true→DataW.trod enc P w 0 (fun _=>true) true n t cs=some x→(∀ p∈x.2,I p.block)→∃ pcs,HasF d pcs∧yay I w pcs cs
theorem ZG {n:Nat} (ih:yIl enc P w I n) {l:List DS} {ts:List TypeId} (hl:mQ P l ts=true) (hrow:∀ t∈ts,t<P.types.size) {cs:List Value} {xs:List (DataW H×List MemPlace)} (off:Nat→Nat)
  (hoff:∀ j t,ts[j]?=some t→off (j+1)=off j+P.cellsOf t) (hend:cs.length≤off ts.length) (hx:∀ j t,ts[j]?=some t→DataW.trod enc P w 0 (fun _=>true) true n t ((cs.drop (off j)).take (P.cellsOf t))=xs[j]?)
  (hxl:xs.length=ts.length) (hI:∀ p∈xs.flatMap (·.2),I p.block) :
  ∀ (r j:Nat),j+r=ts.length→∃ pcs,HasL (l.drop j) pcs∧yay I w pcs (cs.drop (off j)):=by
 have hll:=ZE P l ts hl;intro r;induction r with
 | zero=>
  intro j hj;refine ⟨[],?_,?_⟩
  ·rw [nA (by omega)];simp only [HasL]
  ·rw [nA (by rw [show j=ts.length by omega];exact hend)];simp only [yay]
 | succ r ihr=>
  intro j hj;obtain ⟨pcs,h1,h2⟩:=ihr (j+1) (by omega);have ht:ts[j]?=some ts[j]:=dF (by omega);have hd:l[j]?=some l[j]:=dF (by omega);have hxj:xs[j]?=some xs[j]:=dF (by omega);have h:=hx j _ ht;rw [hxj] at h;obtain ⟨pc,k1,k2⟩:=ih l[j] ts[j] _ _ (hrow _ (sQ _)) (ZF P l ts hl j _ _ hd ht) h (fun p hp=>hI p (List.mem_flatMap.2 ⟨xs[j],sQ _,hp⟩));refine ⟨pc++pcs,?_,?_⟩
  ·rw [List.drop_eq_getElem_cons (by omega)];simp only [HasL];exact ⟨pc,pcs,rfl,k1,h1⟩
  ·have e:cs.drop (off j)=(cs.drop (off j)).take (P.cellsOf ts[j])++cs.drop (off (j+1)):=by
    rw [hoff j _ ht,← List.drop_drop,List.take_append_drop]
   rw [e];exact ki k2 h2
theorem kj {d:DS} {pcs:List PV} (h:HasF d pcs):∃ x:PV,x.isAgg=d.isA∧x.cells=pcs∧∀ vs,yay I w pcs vs→RC I w x vs:=by
 have one:∀ y:PV,y.isAgg=false→pcs=[y]→d.isA=false→∃ x:PV,x.isAgg=d.isA∧x.cells=pcs∧∀ vs,yay I w pcs vs→RC I w x vs:=by
  intro y hy e hd;refine ⟨y,hy.trans hd.symm,?_,?_⟩
  ·subst e;cases y<;>first | rfl | cases hy
  ·intro vs hv;subst e;simp only [yay] at hv;obtain ⟨v,vr,rfl,_,h1,rfl⟩:=hv;exact h1
 cases d with
 | b=>simp only [HasF] at h;obtain ⟨x,e⟩:=h;exact one _ rfl e rfl
 | i k=>simp only [HasF] at h;obtain ⟨x,e,_⟩:=h;exact one _ rfl e rfl
 | s e=>simp only [HasF] at h;obtain ⟨x,e,_⟩:=h;exact one _ rfl e rfl
 | a l=>exact ⟨.agg pcs,rfl,rfl,fun vs hv=>by simp only [RC];exact hv⟩
theorem km (K:Kids P (·<P.types.size)):∀ n,yIl enc P w I n:=by
 intro n;induction n with
 | zero=>intro d t cs x _ _ h;simp [DataW.trod] at h
 | succ n ih=>
  intro d t cs x hrow hty h hI
  cases d with
  | b=>
   unfold jI at hty;split at hty
   ·rename_i ht;obtain ⟨b,rfl,_⟩:=DataW.trod_bool ht h;refine ⟨[.bool b],by simp only [HasF];exact ⟨b,rfl⟩,?_⟩;simp only [yay,RC];exact ⟨_,_,rfl,rfl,rfl,rfl⟩
   ·cases hty
  | i k=>
   unfold jI at hty;split at hty
   ·rename_i q ht;simp only [decide_eq_true_eq] at hty;subst hty;obtain ⟨m,rfl,_,hw⟩:=DataW.trod_int ht h;have hk:jB q m:=by
     unfold jB;simpa [Lit.wf] using hw
    refine ⟨[.int q m],by simp only [HasF];exact ⟨m,rfl,hk⟩,?_⟩;simp only [yay,RC];exact ⟨_,_,rfl,rfl,⟨rfl,hk⟩,rfl⟩
   ·cases hty
  | s e=>
   unfold jI at hty;split at hty
   ·rename_i u ht;simp only [cU,decide_eq_true_eq] at hty;obtain ⟨hpos,hty⟩:=hty;rcases DataW.trod_slice ht h with ⟨rfl,_⟩ | ⟨a,len,cap,elems,rest,m,hm,rfl,rfl,_,hle,hcap,hlen,hel,_⟩
    ·refine ⟨[.data []],?_,?_⟩
     ·simp only [HasF];exact ⟨[],rfl,by simp,by simp⟩
     ·simp only [yay,RC];exact ⟨_,_,rfl,rfl,⟨none,0,0,rfl,rfl,by omega,by decide,by simp⟩,rfl⟩
    ·have hmn:m=n:=by omega
     subst hmn;have hru:=K.slice hrow ht;have hspot0:len≠0→a.spot=none:=by
      intro h0;have hb:=hel 0 (by omega);rw [dF (by omega)] at hb;obtain ⟨cs',hc,hy⟩:=HA.1 hb;obtain ⟨_,hcl,hcg⟩:=World.cells?_some hc;have h0:=hcg 0 hpos;rw [dF (by omega)] at h0;have e0:(a.add (0*P.cellsOf u)).add 0=a:=by simp [Addr.add]
      rw [e0] at h0;unfold World.cell? at h0;split at h0
      ·split at h0
       ·cases h0
       ·rename_i hs;simpa using hs
      ·cases h0
     have hadd:a.spot=none→∀ k i:Nat,(a.add k).add i=⟨a.block,a.off+k+i,none⟩:=by
      intro hs k i;obtain ⟨ab,ao,as⟩:=a;simp only at hs;subst hs;simp only [Addr.add]
      by_cases h1:k=0<;>by_cases h2:i=0<;>simp [h1,h2,vW]
     have yfV:∀ (r j:Nat),j+r=len→∃ rows:List PV,rows.length=r∧(∀ x∈rows,x.isAgg=e.isA∧HasF e x.cells)∧(r≠0→a.spot=none∧I a.block)∧eL I w rows (P.cellsOf u) a.block (a.off+j*P.cellsOf u):=by
      intro r;induction r with
      | zero=>intro j _;exact ⟨[],rfl,by simp,fun h=>absurd rfl h,by simp only [eL]⟩
      | succ r ihr=>
       intro j hj;obtain ⟨rows,l1,l2,_,l4⟩:=ihr (j+1) (by omega);have hj2:j<elems.length:=by omega
       have hb:=hel j (by omega);rw [dF hj2] at hb;obtain ⟨cs',hc,hy⟩:=HA.1 hb;obtain ⟨_,hcl,hcg⟩:=World.cells?_some hc;obtain ⟨pcs,k1,k2⟩:=ih e u cs' _ hru hty hy (fun p hp=>hI p (by
        simp only [qAz,List.mem_flatMap];exact .inr ⟨elems[j],.inl (sQ _),hp⟩))
       obtain ⟨x,x1,x2,x3⟩:=kj (I:=I) (w:=w) k1;have hspot:=hspot0 (by omega);have hIa:I a.block:=hI (.cell a.block a.off) (by
        simp only [qAz];left;exact MemPlace.mem_row.2 ⟨0,Nat.mul_pos (by omega) hpos,rfl⟩)
       refine ⟨x::rows,by simp [l1],?_,fun _=>⟨hspot,hIa⟩,?_⟩
       ·intro y hy;rcases qAs.1 hy with rfl | hy
        ·exact ⟨x1,by rw [x2];exact k1⟩
        ·exact l2 y hy
       ·simp only [eL];refine ⟨⟨cs',hcl,x3 _ k2,?_⟩,?_⟩
        ·intro i v hi;have hi2:i<P.cellsOf u:=by rw [← hcl];exact (rA.1 hi).1
         have:=hcg i hi2;rw [hi] at this;rw [← this,hadd hspot]
        ·rw [vW,show j*P.cellsOf u+P.cellsOf u=(j+1)*P.cellsOf u by rw [eH,jW]];exact l4
     obtain ⟨rows,l1,l2,l3,l4⟩:=yfV len 0 (by omega);refine ⟨[.data rows],?_,?_⟩
     ·simp only [HasF];exact ⟨rows,rfl,by omega,l2⟩
     ·simp only [yay,RC];refine ⟨_,_,rfl,rfl,⟨some a,len,cap,rfl,l1.symm,hle,hcap,?_⟩,rfl⟩
      by_cases h0:len=0
      ·left;exact EJ (by omega)
      ·right;obtain ⟨hs,hIa⟩:=l3 h0;refine ⟨a.block,a.off,P.cellsOf u,?_,hIa,hpos,by simpa using l4⟩
       cases a;simp only at hs;subst hs;rfl
   ·cases hty
  | a l=>
   unfold jI at hty;split at hty
   ·rename_i fs ht;obtain ⟨xs,m,hm,rfl,hcl,hxl,hxs⟩:=DataW.trod_struct ht h;have hmn:m=n:=by omega
    subst hmn;obtain ⟨k1,k2,k3⟩:=K.struct hrow ht;have:=ZG ih (l:=l) (ts:=fs.toList.map (·.type)) hty (fun t ht=>by obtain ⟨f,hf,rfl⟩:=List.mem_map.1 ht;exact k1 f hf) (cs:=cs) (xs:=xs) (fun j=>((fs.toList.take j).map fun f=>P.cellsOf f.type).sum)
     (fun j t hj=>by
      rw [rE,qG] at hj;obtain ⟨f,hf,rfl⟩:=hj;obtain ⟨hlt,hf2⟩:=rA.1 hf;show ((fs.toList.take (j+1)).map _).sum=_;rw [List.take_add_one,hf];simp)
     (by simp only [lJ,ET];rw [hcl,k2];exact cQ _)
     (fun j t hj=>by
      rw [rE,qG] at hj;obtain ⟨f,hf,rfl⟩:=hj;have:=hxs j f (by simpa using hf);rw [← this,k3 j f hf])
     (by simp [hxl]) hI (fs.toList.map (·.type)).length 0 (by omega)
    obtain ⟨pcs,p1,p2⟩:=this;exact ⟨pcs,by simp only [HasF];exact p1,by simpa using p2⟩
   ·rename_i q u ht;obtain ⟨xs,m,hm,rfl,hcl,hxl,hxs⟩:=DataW.trod_array ht h;have hmn:m=n:=by omega
    subst hmn;obtain ⟨k1,k2⟩:=K.array hrow ht;have:=ZG ih (l:=l) (ts:=replicate q u) hty (fun t ht=>by rw [(List.mem_replicate.1 ht).2];exact k1) (cs:=cs) (xs:=xs) (fun j=>j*P.cellsOf u)
     (fun j t hj=>by
      have:t=u:=(List.mem_replicate.1 (List.mem_of_getElem? hj)).2;subst this;show (j+1)*_=_;rw [eH,jW])
     (by rw [xO,hcl,k2];exact cQ _)
     (fun j t hj=>by
      have e:t=u:=(List.mem_replicate.1 (List.mem_of_getElem? hj)).2;subst e;have hlt:j<q:=by have:=(rA.1 hj).1;simpa using this
      exact hxs j hlt)
     (by simp [hxl]) hI (replicate q u).length 0 (by omega)
    obtain ⟨pcs,p1,p2⟩:=this;exact ⟨pcs,by simp only [HasF];exact p1,by simpa using p2⟩
   ·cases hty
end
end Go.Pf
namespace Go.Pf
open Go Go.ChangeShapes Go.WideShapes Go.ChangeAt Go.RowKit
def yox:List DS→List PV→Prop
 | [],as=>as=[]
 | d::l,as=>∃ x r,as=x::r∧x.isAgg=d.isA∧HasF d x.cells∧yox l r
section
variable {H:Type} {enc:TypeId×Value→H} {P:Program}
theorem ko (K:Kids P (·<P.types.size)) {w:World} {I:Nat→Prop} {base:Nat} {d:DS} {t:TypeId} {v:Value} {x:DataW H} {p:List MemPlace} (hrow:t<P.types.size) (hty:jI P d t=true)
  (hval:Value.okWide P w .any base t v) (h:DataW.Trod enc P w 0 (fun _=>true) true t v x p) (hI:∀ q∈p,I q.block) :
  ∃ y:PV,y.isAgg=d.isA∧HasF d y.cells∧fS I w y v:=by
 obtain ⟨n,hn⟩:=h;obtain ⟨pcs,h1,h2⟩:=km (I:=I) K n d t _ _ hrow hty hn hI;have single:∀ y:PV,pcs=[y]→y.isAgg=false→d.isA=false→v.cells.toList=[v]→∃ y:PV,y.isAgg=d.isA∧HasF d y.cells∧fS I w y v:=by
  intro y e hy hd hv;subst e;refine ⟨y,hy.trans hd.symm,?_,?_⟩
  ·have:y.cells=[y]:=by cases y<;>first | rfl | cases hy
   rw [this];exact h1
  ·rw [hv] at h2;simp only [yay] at h2;obtain ⟨u,vr,e,_,h3,h4⟩:=h2;simp only [lI] at e;obtain ⟨rfl,_⟩:=e
   cases y<;>first | exact h3 | (simp only [RC] at h3;done) | (simp only [fS];exact h3) | cases hy
 cases d with
 | b=>
  unfold jI at hty;split at hty
  ·rename_i ht;obtain ⟨b,rfl⟩:=okWide_bool ht hval;simp only [HasF] at h1;obtain ⟨z,e⟩:=h1;exact single _ e rfl rfl rfl
  ·cases hty
 | i k=>
  unfold jI at hty;split at hty
  ·rename_i q ht;obtain ⟨m,rfl⟩:=okWide_int ht hval;simp only [HasF] at h1;obtain ⟨z,e,_⟩:=h1;exact single _ e rfl rfl rfl
  ·cases hty
 | s e=>
  unfold jI at hty;split at hty
  ·rename_i u ht;obtain ⟨a,len,cap,rfl⟩:=okWide_slice ht hval;simp only [HasF] at h1;obtain ⟨z,e,_⟩:=h1;exact single _ e rfl rfl rfl
  ·cases hty
 | a l=>
  have key:∀ cs,v=.agg cs→∃ y:PV,y.isAgg=(DS.a l).isA∧HasF (DS.a l) y.cells∧fS I w y v:=by rintro cs rfl;refine ⟨.agg pcs,rfl,h1,?_⟩;simp only [fS];exact ⟨cs.toList,rfl,h2⟩
  unfold jI at hty;split at hty
  ·rename_i fs ht;obtain ⟨cs,e,_⟩:=okWide_struct ht hval;exact key cs e
  ·rename_i q u ht;have hval2:=hval;unfold Value.okWide at hval2;rw [ht] at hval2;obtain ⟨cs,e,_⟩:=hval2;exact key cs e
  ·cases hty
theorem ZH (K:Kids P (·<P.types.size)) {w:World} {I:Nat→Prop} {base:Nat}:∀ (ts:List TypeId) (dss:List DS) (vs:List Value) (xs:List (DataW H)) (p:List MemPlace),mQ P dss ts=true→(∀ t∈ts,t<P.types.size) →
  (∀ (j:Nat) t v,ts[j]?=some t→vs[j]?=some v→Value.okWide P w .any base t v)→DataW.TrodAll enc P w 0 (fun _=>true) true ts vs xs p→(∀ q∈p,I q.block)→∃ as,yox dss as∧gL I w as vs
 | [],[],[],[],p,_,_,_,_,_=>⟨[],by simp only [yox],by simp only [gL]⟩
 | t::ts,d::dss,v::vs,x::xs,p,hty,hrow,hval,h,hI=>by
  unfold mQ at hty;simp only [cU] at hty;obtain ⟨p1,q,h1,h2,rfl⟩:=h;obtain ⟨y,y1,y2,y3⟩:=ko K (hrow t (jU ..)) hty.1 (hval 0 t v rfl rfl) h1 (fun z hz=>hI z (List.mem_append_left _ hz));obtain ⟨as,a1,a2⟩:=ZH K ts dss vs xs q hty.2 (fun u hu=>hrow u (iY _ hu)) (fun j u z hj hz=>hval (j+1) u z hj hz) h2 (fun z hz=>hI z (List.mem_append_right _ hz));refine ⟨y::as,?_,?_⟩
  ·simp only [yox];exact ⟨y,as,rfl,y1,y2,a1⟩
  ·simp only [gL];exact ⟨v,vs,rfl,y3,a2⟩
 | [],_::_,_,_,_,hty,_,_,_,_=>by unfold mQ at hty;cases hty
 | _::_,[],_,_,_,hty,_,_,_,_=>by unfold mQ at hty;cases hty
 | [],[],_::_,_,_,_,_,_,h,_=>h.elim
 | [],[],[],_::_,_,_,_,_,h,_=>h.elim
 | _::_,_::_,[],_,_,_,_,_,h,_=>h.elim
 | _::_,_::_,_::_,[],_,_,_,_,h,_=>h.elim
theorem kr (K:Kids P (·<P.types.size)) {n:FuncId} {fn:Func} {G:Nat→Option PV} {dss:List DS} {ts:List TypeId} (hty:mQ P dss ts=true) (hrow:∀ t∈ts,t<P.types.size)
  (hf : P.funcs[n]? = some fn) (hn : (fn.name == "runtime.NumGoroutine") = false) (hb : fn.body.isSome = true) (hsum : ∀ as, yox dss as → rK P G n as (.bool true))
  {W:World} {base:Nat} {args:Array Value} {ds:List (DataW H)} {p:List MemPlace} {I:Nat→Prop} (hval:∀ (j:Nat) t v,ts[j]?=some t→args.toList[j]?=some v→Value.okWide P W .any base t v)
  (hA:DataW.TrodAll enc P W 0 (fun _=>true) true ts args.toList ds p) (hI:∀ q∈p,I q.block) (himm:∀ b,I b→b<W.heap.size) (hG:OA G I W) :
  Calls P n args W fun e W'=>e=.returned (.bool true)∧Below W.heap.size W W':=by
 obtain ⟨as,a1,a2⟩:=ZH (I:=I) K ts dss args.toList ds p hty hrow hval hA hI;have h:=hsum as a1 I W args.toList himm hG a2;have e:(callFunc n (args.toList).toArray).run P W=.ok (.enter n args) W:=by
  have h1 : fn.name ≠ "runtime.NumGoroutine" := by simpa using hn
  obtain ⟨c,hc⟩:=xM.1 hb;simp [callFunc,hf,h1,hc]
 unfold oK at h;rw [e] at h;refine Calls.mono h fun e w' he=>?_
 cases e with
 | returned v =>obtain ⟨h1,h2⟩:=he;simp only [VP,fS,RC,lI,and_true] at h2;exact ⟨by rw [h2],h1.toBelow⟩
 | panicked ch=>exact he.elim
 | outgrown=>exact he.elim
theorem ks (K:Kids P (·<P.types.size)) (hz:∀ t e,t<P.types.size→P.underlying t=some (.slice e)→0<P.cellsOf e) {W W':World} (hb:Below W.heap.size W W') {sp:Nat→Bool} :
  ∀ {ts:List TypeId} {vs:List Value} {ds:List (DataW H)} {ps:List MemPlace},(∀ t∈ts,t<P.types.size)→DataW.TrodAll enc P W 0 (fun _=>true) true ts vs ds ps→(∀ p∈ps,p.block<W.heap.size)→(∀ p∈ps,sp p.block=true)→DataW.TrodAll enc P W' 0 sp true ts vs ds ps:=by
 intro ts vs ds ps hT h hlt hs;have carry:∀ {ts:List TypeId} {vs:List Value} {ds:List (DataW H)} {ps:List MemPlace},DataW.TrodAll enc P W 0 (fun _=>true) true ts vs ds ps→(∀ p∈ps,p.block<W.heap.size)→DataW.TrodAll enc P W' 0 (fun _=>true) true ts vs ds ps:=by
  intro ts;induction ts with
  | nil=>
   intro vs ds ps h _
   cases vs with
   | nil=>cases ds with
    | nil=>exact h
    | cons _ _=>exact h.elim
   | cons _ _=>exact h.elim
  | cons t ts ih=>
   intro vs ds ps h hlt
   cases vs with
   | nil=>exact h.elim
   | cons v vs=>cases ds with
    | nil=>exact h.elim
    | cons d ds =>obtain ⟨p,q,⟨n,h1⟩,h2,e⟩:=h;subst e;exact ⟨p,q,⟨n,DataW.trod_carry n _ _ _ h1 (fun x hx=>hb.same (hlt x (List.mem_append_left _ hx)))⟩,ih h2 (fun x hx=>hlt x (List.mem_append_right _ hx)),rfl⟩
 exact DataW.TrodAll.respare K hz hT (carry h hlt) hs
theorem ku {f:Func} {s:ChangeSpec} {yg6 fresh handsOn again:Bool} {W W':World} {args:Array Value} {v:Value} {ds gs:List (DataW H)} {before pa pv:List MemPlace}
  (hW:DataW.Whole enc P f.params.toList s.vars yg6 W args.toList ds gs before)
  (hres:∀ (b:Nat) (sp:Nat→Bool) (hd:Bool),DataW.TrodAll enc P W' b sp hd f.resultTypes.toList (v.resultList f.resultTypes.size) (s.fn H (ds++gs)).results [])
  (hargs:∀ sp:Nat→Bool,(∀ p∈before,sp p.block=true)→DataW.TrodAll enc P W' 0 sp true f.params.toList args.toList (s.fn H (ds++gs)).args pa)
  (hvars:∀ sp:Nat→Bool,(∀ p∈before,sp p.block=true)→DataW.TrodVars enc P W' sp s.vars (s.fn H (ds++gs)).vars pv)
  (hps:before=pa++pv) (hb:Below W.heap.size W W')
  (hok:∀ (j:Nat) (t:TypeId) (r:Value),f.resultTypes[j]?=some t→(v.resultList f.resultTypes.size)[j]?=some r→Value.okWide P W' .any 0 t r) :
  s.post enc P f yg6 fresh handsOn again W args v W':=by
 have hlt:∀ p∈before,p.block<W.heap.size:=fun p hp=>hW.lt p hp
 have hold:∀ p∈before,(fun b=>decide (b<W.heap.size)) p.block=true:=fun p hp=>by simpa using hlt p hp
 refine ⟨ds,gs,before,[],pa,pv,hW,hres _ _ _,hargs _ hold,hvars _ hold,World.keptBut_mono (fun p hp=>⟨hp,?_⟩) (hb.frame (·∈before)),fun _=>?_⟩
 ·rw [hps,qAz] at hp;exact Or.inr hp
 ·obtain ⟨_,_,_,_,_,hz,hn⟩:=hW;refine ⟨hok,_,_,([]++pa)++pv,⟨[]++pa,pv,trodAll_append (hargs _ (fun _ _=>rfl)) (hres _ _ _),hvars _ (fun _ _=>rfl),rfl,?_,?_⟩,?_⟩
  ·intro b off hp;have hin:MemPlace.cell b off∈before:=by rw [hps];simpa using hp
   rw [hb.frozen (hlt _ hin)];exact hz b off hin
  ·intro ha;have:=hn ha;rw [hps] at this;simpa using this
  ·intro p hp _;rw [hps];simpa using hp
theorem kv (K:Kids P (·<P.types.size)) (hz:∀ t e,t<P.types.size→P.underlying t=some (.slice e)→0<P.cellsOf e) {n:FuncId} {fn:Func} {G:Nat→Option PV} {dss:List DS} {s:ChangeSpec} {bt:TypeId}
  (hty : mQ P dss fn.params.toList = true) (hrow : ∀ t ∈ fn.params.toList, t < P.types.size) (hf : P.funcs[n]? = some fn) (hn : (fn.name == "runtime.NumGoroutine") = false) (hb : fn.body.isSome = true)
  (hvars:s.vars=[]) (hfn:∀ ds:List (DataW H),ds.length=fn.params.toList.length→s.fn H (ds++[])={ results:=[.lit (.bool true)],args:=ds })
  (hrt:fn.resultTypes.toList=[bt]) (hbt:P.underlying bt=some .bool) (hsum:∀ as,yox dss as→rK P G n as (.bool true)) {yg6 fresh handsOn again:Bool}
  {W:World} {base:Nat} {args:Array Value} {ds gs:List (DataW H)} {before:List MemPlace} (hval:∀ (j:Nat) t v,fn.params[j]?=some t→args[j]?=some v→Value.okWide P W .any base t v)
  (hW:DataW.Whole enc P fn.params.toList s.vars yg6 W args.toList ds gs before) (J:Nat→Prop) (hJ:∀ b,J b→b<W.heap.size) (hG:OA G (fun b=>(∃ p∈before,p.block=b)∨J b) W) :
  Calls P n args W fun e W'=>∃ v,e=.returned v∧s.post enc P fn yg6 fresh handsOn again W args v W':=by
 have hW':=hW;obtain ⟨p,q,hA,hV,hpq,hfz,hnd⟩:=hW;have hlt:∀ x∈before,x.block<W.heap.size:=fun x hx=>hW'.lt x hx
 rw [hvars] at hV;obtain ⟨hgs,hq⟩:=trodVars_none hV;subst hgs;subst hq;rw [List.append_nil] at hpq;subst hpq;have hlen:ds.length=fn.params.toList.length:=by
  have len:∀ {ts:List TypeId} {vs:List Value} {xs:List (DataW H)} {ps:List MemPlace},DataW.TrodAll enc P W 0 (fun _=>true) true ts vs xs ps→xs.length=ts.length:=by
   intro ts;induction ts with
   | nil=>
    intro vs xs ps h
    cases vs with
    | nil=>cases xs with
     | nil=>rfl
     | cons _ _=>exact h.elim
    | cons _ _=>exact h.elim
   | cons t ts ih=>
    intro vs xs ps h
    cases vs with
    | nil=>exact h.elim
    | cons v vs=>cases xs with
     | nil=>exact h.elim
     | cons x xs =>obtain ⟨_,_,_,h2,_⟩:=h;simp [ih h2]
  exact len hA
 have hc:=kr (I:=fun b=>(∃ x∈before,x.block=b)∨J b) K hty hrow hf hn hb hsum (W:=W) (base:=base) (args:=args) (fun j t v h1 h2=>hval j t v (by simpa using h1) (by simpa using h2)) hA (fun x hx=>.inl ⟨x,hx,rfl⟩)
  (fun b hb=>by
   rcases hb with ⟨x,hx,rfl⟩|hb
   ·exact hlt x hx
   ·exact hJ b hb) hG
 refine hc.mono fun e W' ⟨he,hg⟩=>?_
 subst he;have hrs:fn.resultTypes=#[bt]:=by rw [← sP];exact hrt
 refine ⟨_,rfl,ku (pa:=before) (pv:=[]) hW' ?_ ?_ ?_ (by simp) hg ?_⟩
 ·intro b sp hd;rw [hfn ds hlen,hrs];exact trodAll_mk1 (shut_bool hbt true)
 ·intro sp hs;rw [hfn ds hlen];exact ks K hz hg hrow hA hlt hs
 ·intro sp hs;rw [hfn ds hlen,hvars];rfl
 ·intro j t r h1 h2;rw [hrs] at h1 h2;have hj:j=0:=by
   rcases j with _|j
   ·rfl
   ·simp at h1
  subst hj;simp at h1;subst h1;have:r=.bool true:=by
   have h3:((Value.bool true).resultList (#[bt]:Array TypeId).size)[0]?=some (.bool true):=rfl;rw [h3] at h2;exact (AX h2).symm
  subst this;exact okWide_bool_mk hbt true
end
end Go.Pf
namespace Go.Pf
open Go
abbrev kX:Type:=Nat→List PV→Hp→Option (Bool×Bool×(PV×Hp)×(PV×Hp))
def It:List (Nat×kX)→kX
 | [],_,_,_=>none
 | (k,e)::r,n,xs,H=>bif Nat.beq n k then (match e n xs H with | some x=>some x | none=>It r n xs H) else It r n xs H
theorem Pt {P:Program} {E:Env}:∀ {l:List (Nat×kX)},(∀ e∈l,yaR P E (fun n xs H=>xV (e.2 n xs H)))→yaR P E (fun n xs H=>xV (It l n xs H))
 | [],_=>fun _ _ _ _ _ h=>by cases h
 | (k,e)::r,h=>by
  intro f args H q H' hc;dsimp only [It] at hc
  cases hb:Nat.beq f k with
  | false =>rw [hb,cond_false] at hc;exact Pt (fun e2 h2=>h e2 (iY _ h2)) f args H q H' hc
  | true=>
   rw [hb,cond_true] at hc
   cases he:e f args H with
   | some x =>rw [he] at hc;refine h (k,e) jU f args H q H' ?_;dsimp only;rw [he];exact hc
   | none =>rw [he] at hc;exact Pt (fun e2 h2=>h e2 (iY _ h2)) f args H q H' hc
def yP (add sub:Nat) (tab:List (Nat×AFn)) (qui:List Nat) (cl:qR) (gl:List (Nat×PV)) (ef:List (Nat×kX)):Env:={ uJ add sub tab qui cl gl with eff:=It ef }
theorem lO {add sub:Nat} {tab:List (Nat×AFn)} {qui:List Nat} {cl:qR} {gl:List (Nat×PV)} {ef:List (Nat×kX)} {n:Nat} (h:LM add sub cl n=false) (xs:List PV):(yP add sub tab qui cl gl ef).sum n xs=none:=kg (tab:=tab) (qui:=qui) (gl:=gl) h xs
theorem kw {P:Program} {add sub:Nat} {tab:List (Nat×AFn)} {qui:List Nat} {cl:qR} {gl:List (Nat×PV)} {ef:List (Nat×kX)} (h:EO P (uJ add sub tab qui cl gl))
  (hs:∀ e∈ef,∀ y,yaR P ((uJ add sub tab qui cl gl).ats y) (fun n xs H=>xV (e.2 n xs H))):EO P (yP add sub tab qui cl gl ef) where
 sum:=h.sum
 fns:=h.fns
 eff:=EO.eff' (E:=uJ add sub tab qui cl gl) (E':=yP add sub tab qui cl gl ef) rfl rfl rfl fun y _=>Pt fun e he=>hs e he y
 dn:=h.dn
 top:=h.top
 yl:=h.yl' (E':=yP add sub tab qui cl gl ef) rfl rfl rfl rfl
end Go.Pf
namespace Go.Pf
abbrev lt {α:Type} (x:α) (f:α→Prop):Prop:=f x
abbrev jn {α:Type} (f:α→Prop) (k:α):Prop:=f k
structure EffG (E:List (Nat×kX)→Env) (nums:List Nat) (e:List (Nat×kX)):Prop where
 ok:Pp (E e)
 num:∀ n,memN nums n=false→∀ xs H,(E e).eff n xs H=none
theorem ky {add sub:Nat} {tab:List (Nat×AFn)} {qui:List Nat} {cl:qR} {gl:List (Nat×PV)} {ef:List (Nat×kX)}:∀ as K,ynq as K→∃ r,K r∧tF (yP add sub tab qui cl gl ef) add as r:=by
 intro as K h;unfold ynq Pr at h;split at h
 ·rename_i a b c;obtain ⟨h1,h⟩:=bZ.1 h;have h1:c.toNat≤1:=by simpa using h1
  refine ⟨_,h,0,fun k e m _ hl _=>?_⟩;have hl:=(wL hl).2.1;have e0:sumC add sub add [.int .u64 a,.int .u64 b,.int .u64 c]=some (.tup [u6 ((a.toNat+b.toNat+c.toNat)%18446744073709551616),u6 ((a.toNat+b.toNat+c.toNat)/18446744073709551616)]):=by
   simp only [sumC,Nat.beq_refl,sS,EN h1,cond_true]
  simp only [ycj,hl,yP,uJ,e0,u6]
 ·exact h.elim
theorem kz {add sub:Nat} (hne:Nat.beq sub add=false) {tab:List (Nat×AFn)} {qui:List Nat} {cl:qR} {gl:List (Nat×PV)} {ef:List (Nat×kX)}:∀ as K,yns as K→∃ r,K r∧tF (yP add sub tab qui cl gl ef) sub as r:=by
 intro as K h;unfold yns Ps at h;split at h
 ·rename_i a b c;obtain ⟨h1,h⟩:=bZ.1 h;have h1:c.toNat≤1:=by simpa using h1
  refine ⟨_,h,0,fun k e m _ hl _=>?_⟩;have hl:=(wL hl).2.1;have e0:sumC add sub sub [.int .u64 a,.int .u64 b,.int .u64 c]=some (.tup [u6 ((a.toNat+18446744073709551616-b.toNat-c.toNat)%18446744073709551616),u6 (bif Nat.ble (b.toNat+c.toNat) a.toNat then 0 else 1)]):=by
   simp only [sumC,hne,Nat.beq_refl,sS,qK,EN h1,cond_true,cond_false]
  simp only [ycj,hl,yP,uJ,e0,u6]
 ·exact h.elim
abbrev Es:Type:=List (Nat×kX)
def LO:Option Bool→Prop | none=>True | some b=>b=true
def Iu:Option Bool→Prop→Prop | none,x=>x | some b,x=>aI b x
theorem LQ {g:Option Bool} {x:Prop}:Iu g x↔LO g∧x:=by cases g<;>simp [Iu,LO,bZ]
def blen (H:Hp) (id:Nat):Nat:=match H[id]? with | some b=>b.rows.length | none=>0
structure Pat (α:Type) where
 T:Type
 A:Type→Type
 app:{R:Type}→A R→T→R
 of:(Nat→Nat)→T→α
 get:(Nat→Nat)→α→Option Bool→Option (T×Option Bool)
 inv:∀ {H x g t g'},get H x g=some (t,g')→LO g'→LO g∧x=of H t
section
variable {α β:Type}
def Pu:Pat α:=⟨α,fun R=>α→R,fun g t=>g t,fun _ t=>t,fun _ x g=>some (x,g),fun h k=>by cases h;exact ⟨k,rfl⟩⟩
def Db (c:α) (f:α→Bool) (h:∀ x,f x=true→x=c):Pat α:=
 ⟨Unit,fun R=>R,fun g _=>g,fun _ _=>c,fun _ x g=>bif f x then some ((),g) else none,fun {H x g t g'} e k=>by
  cases hf:f x with
  | true=>rw [hf] at e;cases e;exact ⟨k,h _ hf⟩
  | false=>rw [hf] at e;cases e⟩
def mR (m:β→α) (s:α→Option β) (h:∀ x b,s x=some b→x=m b) (p:Pat β):Pat α:=
 ⟨p.T,p.A,p.app,fun H t=>m (p.of H t),fun H x g=>match s x with | none=>none | some b=>p.get H b g,fun {H x g t g'} e k=>by
  cases hs:s x with
  | none=>rw [hs] at e;cases e
  | some b=>
   rw [hs] at e;obtain ⟨h1,h2⟩:=p.inv e k;exact ⟨h1,by rw [h _ _ hs,h2]⟩⟩
def LR (p:Pat α) (q:Pat β):Pat (α×β):=
 ⟨p.T×q.T,fun R=>p.A (q.A R),fun g t=>q.app (p.app g t.1) t.2,fun H t=>(p.of H t.1,q.of H t.2),
  fun H x g=>match p.get H x.1 g with | none=>none | some (a,g1)=>(match q.get H x.2 g1 with | none=>none | some (b,g2)=>some ((a,b),g2)),fun {H x g t g'} e k=>by
   cases h1:p.get H x.1 g with
   | none=>rw [h1] at e;cases e
   | some y=>
    obtain ⟨a,g1⟩:=y;rw [h1] at e;simp only at e
    cases h2:q.get H x.2 g1 with
    | none=>rw [h2] at e;cases e
    | some z=>
     obtain ⟨b,g2⟩:=z;rw [h2] at e
     cases e
     obtain ⟨k2,e2⟩:=q.inv h2 k;obtain ⟨k1,e1⟩:=p.inv h1 k2;exact ⟨k1,Prod.ext e1 e2⟩⟩
end
abbrev nS:Type 1:=Pat (List PV)
abbrev pK:Type 1:=Pat PV
def vI (k:IntKind):pK:=mR (.int k) (fun x=>match x with | .int q n=>bif decide (q=k) then some n else none | _=>none) (fun x b h=>by
 split at h
 ·rename_i q n
  by_cases e:q=k
  ·subst e;rw [Eb rfl] at h;cases h;rfl
  ·rw [Os e] at h;cases h
 ·cases h) Pu
def vB:pK:=mR .bool (fun x=>match x with | .bool b=>some b | _=>none) (fun x b h=>by cases x<;>cases h;rfl) Pu
def lc (p:nS):pK:=mR .data (fun x=>match x with | .data b=>some b | _=>none) (fun x b h=>by cases x<;>cases h;rfl) p
def vD:pK:=lc Pu
def vA (p:nS):pK:=mR .agg (fun x=>match x with | .agg b=>some b | _=>none) (fun x b h=>by cases x<;>cases h;rfl) p
def vX (o:Nat) (p:pK):pK:=mR (fun b=>.eptr [b] 0 o) (fun x=>match x with | .eptr [y] i f=>bif Nat.beq i 0&&Nat.beq f o then some y else none | _=>none) (fun x b h=>by
 split at h
 ·rename_i y i f
  cases hc:(Nat.beq i 0&&Nat.beq f o) with
  | false=>rw [hc] at h;cases h
  | true=>
   rw [hc] at h;simp only [cU] at hc
   cases h
   rw [jT hc.1,jT hc.2]
 ·cases h) p
def vF (n:Nat) (p q:nS):pK:=mR (fun b=>.fn (.func n) b.1 b.2) (fun x=>match x with | .fn (.func k) a b=>bif Nat.beq k n then some (a,b) else none | _=>none) (fun x b h=>by
 split at h
 ·rename_i k a b
  cases hc:Nat.beq k n with
  | false=>rw [hc] at h;cases h
  | true=>rw [hc] at h;cases h;rw [jT hc]
 ·cases h) (LR p q)
def lN:nS:=Db [] (fun x=>match x with | []=>true | _::_=>false) fun x h=>by cases x<;>cases h;rfl
def lC (p:pK) (q:nS):nS:=mR (fun b=>b.1::b.2) (fun x=>match x with | y::r=>some (y,r) | []=>none) (fun x b h=>by cases x<;>cases h;rfl) (LR p q)
def fN:Pat aG:=Db [] (fun x=>match x with | []=>true | _::_=>false) fun x h=>by cases x<;>cases h;rfl
def fV (s:Nat) (p:pK) (q:Pat aG):Pat aG:=mR (fun b=>(s,.v b.1)::b.2) (fun x=>match x with | (k,.v y)::r=>bif Nat.beq k s then some (y,r) else none | _=>none) (fun x b h=>by
 split at h
 ·rename_i k y r
  cases hc:Nat.beq k s with
  | false=>rw [hc] at h;cases h
  | true=>rw [hc] at h;cases h;rw [jT hc]
 ·cases h) (LR p q)
def fX (s:Nat) (p:pK) (q:Pat aG):Pat aG:=mR (fun b=>(s,.box b.1)::b.2) (fun x=>match x with | (k,.box y)::r=>bif Nat.beq k s then some (y,r) else none | _=>none) (fun x b h=>by
 split at h
 ·rename_i k y r
  cases hc:Nat.beq k s with
  | false=>rw [hc] at h;cases h
  | true=>rw [hc] at h;cases h;rw [jT hc]
 ·cases h) (LR p q)
def ld:Pat Hp:=Db [] (fun x=>match x with | []=>true | _::_=>false) fun x h=>by cases x<;>cases h;rfl
structure HPt where
 p:Pat Hp
 n:∀ r r' t id,blen (p.of r t) id=blen (p.of r' t) id
def hN:HPt:=⟨ld,fun _ _ _ _=>rfl⟩
abbrev wM:Type:=Hp×aG×aG
abbrev r0:Nat→Nat:=fun _=>0
def pS (h:HPt) (p o:Pat aG):Pat wM:=
 ⟨h.p.T×p.T×o.T,fun R=>h.p.A (p.A (o.A R)),fun g t=>o.app (p.app (h.p.app g t.1) t.2.1) t.2.2,fun _ t=>(h.p.of (blen (h.p.of r0 t.1)) t.1,p.of (blen (h.p.of r0 t.1)) t.2.1,o.of (blen (h.p.of r0 t.1)) t.2.2),
  fun _ x g=>match h.p.get (blen x.1) x.1 g with | none=>none | some (a,g1)=>(match p.get (blen x.1) x.2.1 g1 with | none=>none | some (b,g2)=>(match o.get (blen x.1) x.2.2 g2 with | none=>none | some (c,g3)=>some ((a,b,c),g3))),fun {H x g t g'} e k=>by
   obtain ⟨X,Y,Z⟩:=x
   cases h1:h.p.get (blen X) X g with
   | none=>simp only [h1] at e;cases e
   | some y=>
    obtain ⟨a,g1⟩:=y;simp only [h1] at e
    cases h2:p.get (blen X) Y g1 with
    | none=>rw [h2] at e;cases e
    | some z=>
     obtain ⟨b,g2⟩:=z;rw [h2] at e;simp only at e
     cases h3:o.get (blen X) Z g2 with
     | none=>rw [h3] at e;cases e
     | some w=>
      obtain ⟨c,g3⟩:=w;rw [h3] at e
      cases e
      obtain ⟨k3,e3⟩:=o.inv h3 k;obtain ⟨k2,e2⟩:=p.inv h2 k3;obtain ⟨k1,e1⟩:=h.p.inv h1 k2;refine ⟨k1,?_⟩;show (X,Y,Z)=(h.p.of (blen (h.p.of r0 a)) a,p.of (blen (h.p.of r0 a)) b,o.of (blen (h.p.of r0 a)) c);have e4:blen (h.p.of r0 a)=blen X:=funext fun id=>by
       rw [h.n r0 (blen X) a id,← e1]
      rw [e4,← e1,← e2,← e3]⟩
structure St where
 p:Pat wM
 g:Nat→p.A Prop
def runS:List St→Nat→wM→Prop
 | [],_,_=>False
 | s::r,n,x=>match s.p.get r0 x none with | some (t,b)=>Iu b (s.p.app (s.g n) t) | none=>runS r n x
def uK:List St→wM→Prop
 | [],_=>False
 | s::r,x=>match s.p.get r0 x none with | some (t,b)=>Iu b (∃ n,s.p.app (s.g n) t) | none=>uK r x
theorem ZI {x:wM}:∀ {L:List St},uK L x→∃ n,runS L n x
 | [],h=>h.elim
 | s::r,h=>by
  unfold uK at h;unfold runS;split at h
  ·rename_i t b e;obtain ⟨hb,n,h⟩:=LQ.1 h;exact ⟨n,LQ.2 ⟨hb,h⟩⟩
  ·obtain ⟨n,h⟩:=ZI h;exact ⟨n,h⟩
theorem Pv {x:wM} {n:Nat}:∀ {L:List St},runS L n x→∃ s,s∈L∧∃ t,x=s.p.of r0 t∧s.p.app (s.g n) t
 | [],h=>h.elim
 | s::r,h=>by
  unfold runS at h;split at h
  ·rename_i t b e;obtain ⟨hb,h⟩:=LQ.1 h;exact ⟨s,jU,t,(s.p.inv e hb).2,h⟩
  ·obtain ⟨s',h1,h2⟩:=Pv h;exact ⟨s',iY _ h1,h2⟩
def Iv (gc:Bool) (D:List Nat) (L:List St) (n:Nat) (G:aG) (k:Nat) (F':aG) (H':Hp):Prop:=runS L n (bif gc then uB (fdels F' D) k H' else H',bif gc then fdels F' D else F',G)
def AllB (E:Env) (callK:CK) (lp:LP) (yk:aG→YK) (b:TC) (gc:Bool) (Q:Qx) (L:List St):List St→Prop
 | []=>True
 | s::r=>(∀ t,s.p.app (s.g 0) t=False)∧(∀ n t,WC E callK lp (s.p.of r0 t).2.2 (yk (s.p.of r0 t).2.2) b (s.p.of r0 t).2.1 (s.p.of r0 t).1 (Zj (Iv gc (gD (bM b)) L n (s.p.of r0 t).2.2 (s.p.of r0 t).1.length) Q)=s.p.app (s.g (n+1)) t)∧AllB E callK lp yk b gc Q L r
theorem AllB.mem {E:Env} {callK:CK} {lp:LP} {yk:aG→YK} {b:TC} {gc:Bool} {Q:Qx} {L:List St}:∀ {l:List St},AllB E callK lp yk b gc Q L l→∀ s∈l,(∀ t,s.p.app (s.g 0) t=False)∧(∀ n t,WC E callK lp (s.p.of r0 t).2.2 (yk (s.p.of r0 t).2.2) b (s.p.of r0 t).2.1 (s.p.of r0 t).1 (Zj (Iv gc (gD (bM b)) L n (s.p.of r0 t).2.2 (s.p.of r0 t).1.length) Q)=s.p.app (s.g (n+1)) t)
 | [],_,s,h=>by cases h
 | x::r,h,s,hs=>by
  rcases qAs.1 hs with rfl|hs
  ·exact ⟨h.1,h.2.1⟩
  ·exact AllB.mem h.2.2 s hs
section
variable {E:Env} {callK:CK} {P:EP} {lp:LP} {yk:aG→YK} {b:TC} {Q:Qx} {L:List St} {id:Nat} {F G:aG} {H:Hp}
theorem cV.st (hP:aX P E) (hG:Good P callK) (hY:dT P E (yk G)) (hl:LpOk P E lp G b) (hb:AllB E callK lp yk b false Q L L) (h:uK L (H,F,G)) (hf:ybs b=true:=by kernel_rfl):cV P (.loop id b) F H Q:=by
 obtain ⟨n,h⟩:=ZI h;refine cV.intro (id:=id) hP hG hf hY hl (fun n F H=>runS L n (H,F,G)) (fun F H h=>?_) (fun n F H h=>?_) n F H h
 ·obtain ⟨s,hs,t,_,h⟩:=Pv h;rw [(hb.mem s hs).1 t] at h;exact h
 ·obtain ⟨s,hs,t,e,h⟩:=Pv h;rw [← (hb.mem s hs).2 n t,← e] at h;exact h
end
abbrev kQ (S:SE) (d:Nat) (yk:aG→YK) (b:TC) (gc:Bool) (L:Qx→List St):Prop:=∀ Q,AllB S.E (gJ S d) S.lp yk b gc Q (L Q) (L Q)
abbrev a:aG→YK:=fun _=>cJ
abbrev kR (P:EP) (lp:LP) (G:aG) (id:Nat) (c:TC):Prop:=∀ F H Q,lp id G F H Q→cV P c F H Q
def lpS:List (Nat×(Qx→List St))→LP
 | [],_,_,_,_,_=>False
 | p::r,id,G,F,H,Q=>bif Nat.beq id p.1 then uK (p.2 Q) (H,F,G) else lpS r id G F H Q
structure Sg where
 p:nS
 R:Type
 k:(PV→Prop)→R
abbrev Sg.W (s:Sg):Type:=s.p.A (s.R→Prop)
def Sg.pw (s:Sg) (w:s.W) (as:List PV) (K:PV→Prop):Prop:=match s.p.get r0 as none with | some (t,b)=>Iu b (s.p.app w t (s.k K)) | none=>False
def sE (E:Env) (l:List (Nat×(List PV→(PV→Prop)→Prop))) (lp:LP):SE:=⟨E,yko l,yeG [],lp,fun _=>none⟩
def eO:LP:=fun _ _ _ _ _=>False
def cZ (S:SE) (d:Nat) (t:TFn) (s:Sg) (w:s.W):Prop:=∀ a K,WP S d t (s.p.of r0 a) K=s.p.app w a (s.k K)
theorem Sg.inv {s:Sg} {w:s.W} {as:List PV} {K:PV→Prop} (h:s.pw w as K):∃ a,as=s.p.of r0 a∧s.p.app w a (s.k K):=by
 unfold Sg.pw at h;split at h
 ·rename_i t b e;obtain ⟨hb,h⟩:=LQ.1 h;exact ⟨t,(s.p.inv e hb).2,h⟩
 ·exact h.elim
theorem lh {P:EP} {S:SE} {d n:Nat} {t:TFn} {s:Sg} {w:s.W} (hq:cZ S d t s w) (hS:SEOk P S) (hR:cG P S.E (gJ S d) t.body) (hl:LpOk P S.E S.lp [] t.body) (hs:∀ as,S.E.sum n as=none) (he:∀ as H,S.E.eff n as H=none) (hf:S.E.fns n=some t.fn) (hu:S.E.qui n=true) (hn:S.E.nl n=false):∀ as K,s.pw w as K→∃ r,K r∧jH P n as r:=fun as K h=>by obtain ⟨a,e,k⟩:=Sg.inv h;subst e;rw [← hq a K] at k;exact Ir hS hR hl hf hu hs he k hn
end Go.Pf
namespace Go.Pf
open Go
theorem cF.seq {P:EP} {a b:AC} {F:aG} {H:Hp} {Q:Ex→aG→Hp→Prop} (h:cF P a F H fun x F' H'=>match x with
  | .norm=>cF P b F' H' Q
  | .exit i=>Q (.exit i) F' H'
  | .ret=>Q .ret F' H'
  | .brk k i=>Q (.brk k i) F' H'):cF P (.seq a b) F H Q:=by
 obtain ⟨x,F',H',hk,m0,hm⟩:=h
 cases x with
 | norm =>obtain ⟨x2,F2,H2,hk2,m1,hm1⟩:=hk;exact cF.up (m0:=max m0 m1) hk2 fun n e k hn hp hle=>by simp only [exec,hm n e k (by omega) hp (by omega),hm1 n e k (by omega) hp (by omega)]
 | exit i=>exact cF.up (m0:=m0) hk fun n e k hn hp hle=>by simp only [exec,hm n e k hn hp hle]
 | ret=>exact cF.up (m0:=m0) hk fun n e k hn hp hle=>by simp only [exec,hm n e k hn hp hle]
 | brk _ _=>exact cF.up (m0:=m0) hk fun n e k hn hp hle=>by simp only [exec,hm n e k hn hp hle]
theorem cF.block {P:EP} {id:Nat} {b:AC} {F:aG} {H:Hp} {Q:Ex→aG→Hp→Prop} (h:cF P b F H fun x F' H'=>match x with
  | .norm=>Q .norm F' H'
  | .exit i=>(if i=id then Q .norm F' H' else Q (.exit i) F' H')
  | .ret=>Q .ret F' H'
  | .brk k i=>Q (.brk k i) F' H'):cF P (.block id b) F H Q:=by
 obtain ⟨x,F',H',hk,m0,hm⟩:=h
 cases x with
 | norm=>exact cF.up (m0:=m0) hk fun n e k hn hp hle=>by simp only [exec,hm n e k hn hp hle]
 | exit i=>
  dsimp only at hk
  by_cases c:i=id
  ·rw [WN c] at hk;exact cF.up (m0:=m0) hk fun n e k hn hp hle=>by simp only [exec,hm n e k hn hp hle,WN c]
  ·rw [WO c] at hk;exact cF.up (m0:=m0) hk fun n e k hn hp hle=>by simp only [exec,hm n e k hn hp hle,WO c]
 | ret=>exact cF.up (m0:=m0) hk fun n e k hn hp hle=>by simp only [exec,hm n e k hn hp hle]
 | brk _ _=>exact cF.up (m0:=m0) hk fun n e k hn hp hle=>by simp only [exec,hm n e k hn hp hle]
theorem cF.mono {P:EP} {a:AC} {F:aG} {H:Hp} {Q Q':Ex→aG→Hp→Prop} (h:cF P a F H Q) (hq:∀ x F H,Q x F H→Q' x F H):cF P a F H Q':=by obtain ⟨x,F',H',hk,hm⟩:=h;exact ⟨x,F',H',hq _ _ _ hk,hm⟩
def FR (S:SE) (yk:YK) (inl:Nat→Option TFn) (lpOf:CK→LP) (d0:Nat):Nat→CK
 | 0,_,_,_,_=>False
 | d+1,f,args,H,K=>
  match f with
  | .fn (.yield k) [] []=>aI (Nat.beq k S.E.yn) (yk args H fun r H'=>match r with | none=>K (.bool true) H' | some _=>False)
  | .fn (.func n) first captured=>(match inl n with
   | some fn=>LE S.E (FR S yk inl lpOf d0 d) (lpOf (FR S yk inl lpOf d0 d)) fn (first++args++captured) H K
   | none=>gJ S d0 f args H K)
  | _=>False
structure InlY (P:EP) (E:Env) (lpOf:CK→LP) (n:Nat) (fn:TFn):Prop where
 fns:E.fns n=some fn.fn
 qui:E.qui n=false
 frz:E.frz n=false
 rb:E.rb n=false
 lo:E.lo n=none
 sum:∀ as,E.sum n as=none
 eff:∀ as H,E.eff n as H=none
 flat:ybs fn.body=true
 lp:∀ cK,Good P cK→LpOk P E (lpOf cK) [] fn.body
theorem ZJ {P:EP} {S:SE} {yk:YK} {inl:Nat→Option TFn} {lpOf:CK→LP} {d0:Nat} (hS:SEOk P S) (hY:dT P S.E yk) (hi:∀ n fn,inl n=some fn→InlY P S.E lpOf n fn):∀ d,Good P (FR S yk inl lpOf d0 d)
 | 0,f,args,H,K,h=>h.elim
 | d+1,f,args,H,K,h=>by
  have ih:=ZJ (d0:=d0) hS hY hi d;unfold FR at h;split at h
  ·rename_i k;obtain ⟨hb,h2⟩:=bZ.1 h;have hb:=jT hb;subst hb;obtain ⟨r,H',hk,m0,hm⟩:=hY _ _ _ h2
   cases r with
   | some i=>exact hk.elim
   | none =>refine ⟨_,_,hk,m0,fun n e m hn hp hle=>?_⟩;have hx:yik e (.fn (.yield S.E.yn) [] []) args=none:=rfl;rw [FM hx];simp only [qM,hm n e hn hp]
  ·rename_i n first captured;split at h
   ·rename_i fn hfn;have q:=hi n fn hfn;obtain ⟨r,H',hk,m0,hm⟩:=Pq (S:=⟨S.E,S.sumK,S.inl,lpOf (FR S yk inl lpOf d0 d),S.sumL⟩) hS.sb ih (fun hf=>by rw [q.flat] at hf;cases hf) (q.lp _ ih) q.fns q.eff h;refine ⟨r,H',hk,m0,fun k e m hkl he hle=>?_⟩;obtain ⟨_,l2,l3,l4,l5,_,_⟩:=wL (hS.sb k e he);have hx:yik e (.fn (.func n) first captured) args=none:=by
     rw [Io (hS.sb k e he)];simp only [yik,q.lo]
    have e0:∀ as,ycj e (ya9 e m) n as=none:=by intro as;simp only [ycj,l2,l3,q.sum as,q.qui];rfl
    rw [FM hx];simp only [qM,e0,l3,l4,l5,q.qui,q.frz,q.rb]
    cases yaC H (first++args++captured)<;>simp only [iZ,if_false,hm k e m hkl he hle]
   ·exact eJ hS d0 _ _ _ _ h
  ·exact h.elim
def ZK (YY:List PV→Hp→Prop) (T:List PV→Hp→Hp):YK:=fun vs H K=>YY vs H∧K none (T vs H)
theorem lj {P:EP} {E:Env} {yk:YK} (hY:dT P E yk) {YY:List PV→Hp→Prop} {T:List PV→Hp→Hp} (h:∀ vs H,YY vs H→yk vs H fun r H'=>r=none∧H'=T vs H):dT P E (ZK YY T):=by intro vs H K hk;obtain ⟨h1,h2⟩:=hk;obtain ⟨r,H',⟨hr,hH⟩,m0,hm⟩:=hY _ _ _ (h vs H h1);subst hr hH;exact ⟨none,_,h2,m0,hm⟩
end Go.Pf
namespace Go.Pf.Vc
open Go Go.Pf
def Iw:Nat:=17
def Ix:Nat:=8
def Iy:Nat:=4
def Iz:Nat:=59
def FS:Nat:=60
def IA:Nat:=38
def FT:Nat:=18
def Pw:Nat:=39
def LS:Nat:=19
def IB:Nat:=40
def Bv:Nat:=21
def Bw:Nat:=20
def IC:Nat:=9
def Dc:Nat:=23
def ID:Nat:=22
def Px:Nat:=10
def pM:Nat:=24
def pN:Nat:=48
def uL:Nat:=61
def FU:Nat:=68
def IE:Nat:=67
def rP:Nat:=45
def rQ:Nat:=47
def yQ:Nat:=63
def yR:Nat:=64
def IF:Nat:=82
def IG:Nat:=80
def Dd:Nat:=66
def IH:Nat:=65
def De:Nat:=62
def yS:Nat:=43
def Df:Nat:=41
def yT:Nat:=42
def Bx:Nat:=44
def FW:Nat:=25
def Dg:Nat:=26
def FX:Nat:=27
def FY:Nat:=69
def II:Nat:=46
def FZ:Nat:=70
def Ga:Nat:=50
def IJ:Nat:=49
def IK:Nat:=30
def Dh:Nat:=12
def Gb:Nat:=28
def Gc:Nat:=29
def By:Nat:=11
def oM:Nat:=5
def Gd:Nat:=51
def IL:Nat:=31
def IM:Nat:=32
def Ge:Nat:=13
def nT:Nat:=52
def oN:Nat:=36
def uM:Nat:=74
def Di:Nat:=81
def pO:Nat:=73
def IN:Nat:=79
def rR:Nat:=35
def Dj:Nat:=75
def Gf:Nat:=76
def Bz:Nat:=37
def Gg:Nat:=77
def Dk:Nat:=78
def uN:Nat:=54
def yU:Nat:=57
def BA:Nat:=71
def Dl:Nat:=72
def IP:Nat:=53
def IQ:Nat:=55
def BB:Nat:=58
def IR:Nat:=56
def Py:Nat:=33
def wN:Nat:=34
def BC:Nat:=16
def wP:Nat:=14
def Gi:Nat:=15
def yV:Nat:=6
def IS:Nat:=7
def Pz:Nat:=3
def zF (d s:Nat) (o:AOp):AO:=⟨some d,o,some (s,false)⟩
def zT (d s:Nat) (o:AOp):AO:=⟨some d,o,some (s,true)⟩
def zS (n:Nat) (a x:Opd):AO:=⟨none,.store n a x,none⟩
def zR:Nat→Nat→List Nat
 | _,0=>[]
 | a,n+1=>a::zR (a+1) n
def zQ:TC→TC→TC:=.seq
def zC:Opd→TC→TC→TC:=.cond
def zB:Nat→TC→TC:=.block
abbrev zI:Sh:=.one (.i .i64)
abbrev zD:Sh:=.one .d
abbrev z2:Sh:=.agg [.i .i64,.i .i64]
abbrev z4:Sh:=.agg [.i .i64,.i .i64,.i .i64,.i .i64]
abbrev zK:Sh:=.agg [.i .i64,.d,.d]
abbrev zE:Sh:=.agg [.d,.d]
def t0:Opd:=.t 0
def t1:Opd:=.t 1
def t4:Opd:=.t 4
def t5:Opd:=.t 5
def t7:Opd:=.t 7
def t8:Opd:=.t 8
def t9:Opd:=.t 9
def fC:Opd:=.t 10
def eS:Opd:=.t 11
def PA:TFn:=⟨1,[.tmp 2],(zQ (oQ [O 1 (.boxL t0),O 2 (.mv (.c (.bool false)))] [0,2]) (zQ (.ops [O 3 (.fad 1 t1),oF 4 1 3,O 5 (.len t4),O 6 (.bin .gtr t5 (I 60)),M 7 6,zF 8 7 (.fad 2 t1),zF 9 7 (.load false 1 t8),zF 10 7 (.len t9),zF 11 7 (.bin .gtr fC (I 60)),O 12 (.pick t7 (.c (.bool true)) eS),M 2 12] [⟨1,zK,0⟩,⟨6,zK,0⟩] [] [1,3,4,5,6,7,8,9,10,11,12]) .ret))⟩
def eP:Opd:=.t 13
def gO:Opd:=.t 14
def LT:TC:=(zQ (zQ (oQ [M 4 3,M 5 0,O 6 (.len t5),oX 7 .lss 4 6] [4,5,6]) (zC t7 .skip (.exit 0))) (zQ (zB 1 (zQ (.ops [M 10 0,M 11 3,O 12 (.iad 3 fC eS),oT 13 3 12,O 14 (.call (.f Iw) [eP])] [⟨2,zK,0⟩,⟨3,zK,0⟩] [] [7,10,11,12,13]) (zC gO (zQ (oQ [O 2 (.mv (.c (.bool true)))] [0,3,14]) .ret) .skip))) (oQ [M 8 3,O 9 (.bin .add t8 (I 1)),M 3 9] [8,9,14])))
def gV:Opd:=.t 15
def fO:Opd:=.t 16
def PC:TFn:=⟨1,[.tmp 2],(zQ (oQ [O 2 (.mv (.c (.bool false)))] [2]) (zQ (zQ (oQ [O 3 (.mv (I 0))] []) (zB 0 (.loop 4277600 LT))) (zQ (oQ [M 15 0,O 16 (.len gV),O 17 (.bin .gtr fO (I 10)),M 2 17] [0,3,7,15,16,17]) .ret)))⟩
def t3:Opd:=.t 3
def fD:Opd:=.t 12
def gE:Opd:=.t 17
def fF:Opd:=.t 18
def jC:Opd:=.t 19
def gA:Opd:=.t 20
def iF:Opd:=.t 21
def iL:Opd:=.t 22
def jJ:Opd:=.t 23
def iM:Opd:=.t 24
def jD:Opd:=.t 25
def LU:TC:=(zQ (zQ (oQ [M 4 3,M 5 0,O 6 (.len t5),oX 7 .lss 4 6] [4,5,6]) (zC t7 .skip (.exit 0))) (zQ (zB 1 (zQ (.ops [M 10 0,M 11 3,O 12 (.iad 3 fC eS),O 13 (.fad 1 fD),oF 14 1 13,O 15 (.len gO),O 16 (.bin .gtr gV (I 14)),M 17 16,zT 18 17 (.mv t0),zT 19 17 (.mv t3),zT 20 17 (.iad 3 fF jC),zT 21 17 (.fad 1 gA),zT 22 17 (.load false 1 iF),zT 23 17 (.len iL),zT 24 17 (.bin .leq jJ (I 40)),O 25 (.pick gE iM (.c (.bool false)))] [⟨2,zK,0⟩,⟨4,zK,0⟩,⟨10,zK,0⟩,⟨12,zK,0⟩] [] [7,10,11,12,13,14,15,16,17,18,19,20,21,22,23,24]) (zC jD (zQ (oQ [O 2 (.mv (.c (.bool true)))] [0,3,25]) .ret) .skip))) (oQ [M 8 3,O 9 (.bin .add t8 (I 1)),M 3 9] [8,9,25])))
def jQ:Opd:=.t 26
def PD:TFn:=⟨1,[.tmp 2],(zQ (oQ [O 2 (.mv (.c (.bool false)))] [2]) (zQ (zQ (oQ [O 3 (.mv (I 0))] []) (zB 0 (.loop 60274600 LU))) (zQ (oQ [M 26 0,O 27 (.call (.f Ix) [jQ]),M 2 27] [0,3,7,26,27]) .ret)))⟩
def LW:TC:=(zQ (zQ (oQ [M 12 4,M 13 0,O 14 (.len eP),oX 15 .lss 12 14] [12,13,14]) (zC gV .skip (.exit 0))) (zQ (zB 1 (.ops [M 18 3,M 19 0,M 20 4,O 21 (.iad 1 jC gA),oF 22 1 21,O 23 (.minmax false [fF,iL]),M 3 23] [⟨3,zI,0⟩,⟨4,zI,0⟩] [] [15,18,19,20,21,22,23])) (oQ [M 16 4,O 17 (.bin .add fO (I 1)),M 4 17] [16,17])))
def t6:Opd:=.t 6
def PE:TFn:=⟨1,[.tmp 2],(zQ (oQ [O 2 (.mv (I 0))] [2]) (zQ (zQ (oQ [M 5 0,O 6 (.len t5),O 7 (.bin .lss t6 (I 1))] [5,6]) (zC t7 (oQ [⟨some 8,.bad,none⟩,⟨none,.bad,none⟩] [7,8]) .skip)) (zQ (.ops [M 9 0,O 10 (.iad 1 t9 (I 0)),oF 11 1 10,M 3 11] [⟨1,zI,0⟩,⟨2,zI,0⟩] [] [7,9,10,11]) (zQ (zQ (oQ [O 4 (.mv (I 1))] []) (zB 0 (.loop 10434000 LW))) (zQ (oQ [M 24 3,M 2 24] [0,3,4,15,24]) .ret)))))⟩
def LX:TC:=(zQ (zQ (oQ [M 12 4,M 13 0,O 14 (.len eP),oX 15 .lss 12 14] [12,13,14]) (zC gV .skip (.exit 0))) (zQ (zB 1 (.ops [M 18 3,M 19 0,M 20 4,O 21 (.iad 1 jC gA),oF 22 1 21,O 23 (.minmax true [fF,iL]),M 3 23] [⟨3,zI,0⟩,⟨4,zI,0⟩] [] [15,18,19,20,21,22,23])) (oQ [M 16 4,O 17 (.bin .add fO (I 1)),M 4 17] [16,17])))
def PF:TFn:=⟨1,[.tmp 2],(zQ (oQ [O 2 (.mv (I 0))] [2]) (zQ (zQ (oQ [M 5 0,O 6 (.len t5),O 7 (.bin .lss t6 (I 1))] [5,6]) (zC t7 (oQ [⟨some 8,.bad,none⟩,⟨none,.bad,none⟩] [7,8]) .skip)) (zQ (.ops [M 9 0,O 10 (.iad 1 t9 (I 0)),oF 11 1 10,M 3 11] [⟨1,zI,0⟩,⟨2,zI,0⟩] [] [7,9,10,11]) (zQ (zQ (oQ [O 4 (.mv (I 1))] []) (zB 0 (.loop 64079100 LX))) (zQ (oQ [M 24 3,M 2 24] [0,3,4,15,24]) .ret)))))⟩
def wQ:Opd:=.t 50
def yW:Opd:=.t 51
def uO:Opd:=.t 54
def uP:Opd:=.t 55
def yX:Opd:=.t 59
def Dm:Opd:=.t 60
def BD:Opd:=.t 61
def wS:Opd:=.t 64
def LY:TC:=(zQ (oQ [oX 51 .lss 50 49] []) (zQ (zC yW .skip (.exit 0)) (zQ (zB 1 (zQ (oQ [M 52 50,M 4 52] [51,52]) (zQ (.ops [O 53 (.fad 1 t1),oF 54 1 53,M 55 4,O 56 (.iad 1 uO uP),oF 57 1 56,O 58 (.fad 1 t1),oF 59 1 58,M 60 4,O 61 (.bin .add Dm (I 1)),O 62 (.iad 1 yX BD),oF 63 1 62,oX 64 .geq 57 63] [⟨1,zK,0⟩,⟨3,zI,0⟩,⟨4,zI,0⟩,⟨6,zK,0⟩,⟨9,zI,0⟩,⟨10,zI,0⟩] [(0,2),(1,2),(0,5),(1,5),(2,5),(3,5),(4,5),(0,6),(1,6),(2,6),(3,6),(4,6),(0,7),(1,7),(2,7),(3,7),(4,7),(5,7),(6,7),(0,8),(1,8),(2,8),(3,8),(4,8),(5,8),(6,8),(0,9),(1,9),(2,9),(3,9),(4,9),(0,10),(1,10),(2,10),(3,10),(4,10)] [4,53,54,55,56,57,58,59,60,61,62,63]) (zC wS (zQ (oQ [O 2 (.mv (I 8))] [1,49,50,64]) .ret) .skip)))) (oQ [O 65 (.bin .add wQ (I 1)),M 50 65] [64,65]))))
def pP:Opd:=.t 27
def kC:Opd:=.t 28
def nD:Opd:=.t 30
def lZ:Opd:=.t 31
def lP:Opd:=.t 32
def nU:Opd:=.t 33
def mA:Opd:=.t 34
def mB:Opd:=.t 35
def nE:Opd:=.t 37
def oO:Opd:=.t 38
def pQ:Opd:=.t 39
def mS:Opd:=.t 40
def pR:Opd:=.t 41
def oP:Opd:=.t 42
def rS:Opd:=.t 43
def uQ:Opd:=.t 44
def pT:Opd:=.t 45
def rT:Opd:=.t 46
def rU:Opd:=.t 47
def rV:Opd:=.t 48
def BE:Opd:=.t 67
def BF:Opd:=.t 68
def yY:Opd:=.t 70
def BG:Opd:=.t 71
def BH:Opd:=.t 72
def Gj:Opd:=.t 73
def yZ:Opd:=.t 74
def BI:Opd:=.t 76
def zA:Opd:=.t 77
def uR:Opd:=.t 78
def Gk:Opd:=.t 79
def Dn:Opd:=.t 80
def IT:Opd:=.t 81
def PG:TFn:=⟨1,[.tmp 2],(zQ (oQ [O 1 (.boxL t0),O 2 (.mv (I 0))] [0,2]) (zQ (.ops [O 5 (.fad 1 t1),oF 6 1 5,O 7 (.len t6),M 3 7] [⟨1,zK,0⟩] [] [5,6,7]) (zQ (zQ (.ops [O 8 (.fad 0 t1),oF 9 1 8,O 10 (.bin .gtr t9 (I 1000)),M 11 10,zF 12 11 (.mv t3),zF 13 11 (.bin .gtr fD (I 40)),O 14 (.pick eS (.c (.bool true)) eP)] [⟨1,zK,0⟩] [] (zR 8 6)) (zC gO (zQ (oQ [O 2 (.mv (I 4))] [1,3,14]) .ret) .skip)) (zQ (zQ (.ops [O 15 (.fad 0 t1),oF 16 1 15,O 17 (.bin .lss fO (I 1)),M 18 17,zF 19 18 (.mv t3),zF 20 18 (.bin .lss jC (I 2)),O 21 (.pick fF (.c (.bool true)) gA),M 22 21,zF 23 22 (.fad 2 t1),zF 24 22 (.load false 1 jJ),zF 25 22 (.len iM),zF 26 22 (.mv t3),zF 27 22 (.bin .sub jQ (I 1)),zF 28 22 (.bin .neq jD pP),O 29 (.pick iL (.c (.bool true)) kC),M 30 29,zF 31 30 (.fad 1 t1),zF 32 30 (.load false 1 lZ),zF 33 30 (.iad 1 lP (I 0)),zF 34 30 (.load false 1 nU),zF 35 30 (.bin .neq mA (I 0)),O 36 (.pick nD (.c (.bool true)) mB),M 37 36,zF 38 37 (.fad 1 t1),zF 39 37 (.load false 1 oO),zF 40 37 (.mv t3),zF 41 37 (.bin .sub mS (I 1)),zF 42 37 (.iad 1 pQ pR),zF 43 37 (.load false 1 oP),zF 44 37 (.fad 0 t1),zF 45 37 (.load false 1 uQ),zF 46 37 (.bin .neq rS pT),O 47 (.pick nE (.c (.bool true)) rT)] [⟨1,zK,0⟩,⟨9,zK,0⟩,⟨17,zK,0⟩,⟨18,zI,0⟩,⟨19,zI,0⟩,⟨24,zK,0⟩,⟨27,zI,0⟩,⟨28,zI,0⟩,⟨30,zK,0⟩] [(8,11),(9,11),(10,11),(8,12),(9,12),(10,12),(23,25),(24,25),(23,26),(24,26),(23,29),(24,29),(25,29),(26,29),(27,29),(28,29),(23,30),(24,30),(25,30),(26,30),(27,30),(28,30)] (zR 14 33)) (zC rU (zQ (oQ [O 2 (.mv (I 8))] [1,3,47]) .ret) .skip)) (zQ (zQ (oQ [M 48 3,O 49 (.bin .sub rV (I 1)),O 50 (.mv (I 0))] [3,47,48]) (zB 0 (.loop 87419700 LY))) (zQ (zQ (.ops [O 66 (.fad 2 t1),oF 67 1 66,O 68 (.call (.f Iz) [BE]),O 69 (.bin .lss BF (I 0)),M 70 69,zF 71 70 (.fad 2 t1),zF 72 70 (.load false 1 BG),zF 73 70 (.call (.f FS) [BH]),zF 74 70 (.bin .gtr Gj (I 12)),O 75 (.pick yY (.c (.bool true)) yZ),M 76 75,zF 77 76 (.fad 2 t1),zF 78 76 (.load false 1 zA),zF 79 76 (.call (.f FS) [uR]),zF 80 76 (.bin .eql Gk (I 0)),O 81 (.pick BI (.c (.bool true)) Dn)] [⟨1,zK,0⟩,⟨6,zK,0⟩,⟨12,zK,0⟩] [] [1,49,50,51,66,67,68,69,70,71,72,73,74,75,76,77,78,79,80]) (zC IT (zQ (oQ [O 2 (.mv (I 8))] [81]) .ret) .skip)) (zQ (oQ [O 2 (.mv (I 0))] [81]) .ret)))))))⟩
end Go.Pf.Vc
