/- Part 2. -/
import Derived.Test.YtbdihlcdenhcbaaGreatTxW1
open Go.IntKind (i64 u8 u64)
open List (length getD take drop replicate set map isEmpty)
noncomputable section
namespace Go.Pf
open Go
section
variable {E:Env} {F F':aD} {H H' H1:Hp} {call:Nat→List PV→Hp→Option (PV×Hp)}
theorem yKb {op:AOp} {out:Out} {s off:Nat} (h:yas E call F H op=some out) (hb:out.x=some (.bp s off)):(∃ row,fget F s=some (.box row))∨noBp F s=false:=by
 have hv:∀ {p:PV} {H},outV p H=some out→False:=fun e=>by rw [rK e] at hb;cases hb
 cases op<;>simp only [yas] at h
 case fad o x=>
  split at h
  ·rename_i s' o' e
   cases h
   simp only [bT,FV.bp.injEq] at hb;obtain ⟨rfl,_⟩:=hb;exact Oe e
  all_goals first | exact (hv h).elim | cases h
 case iadA n esz x i=>
  split at h
  ·rename_i s' o' j e _;split at h
   ·cases h
    simp only [bT,FV.bp.injEq] at hb;obtain ⟨rfl,_⟩:=hb;exact Oe e
   ·cases h
  all_goals (repeat' split at h)
  all_goals first | exact (hv h).elim | cases h
 case nilchk x=>
  split at h
  ·rename_i s' o' e
   cases h
   simp only [bT,FV.bp.injEq] at hb;obtain ⟨rfl,_⟩:=hb;exact Oe e
  all_goals first | exact (hv h).elim | cases h
 all_goals (repeat' split at h)
 all_goals first | (cases h;done) | exact (hv h).elim | (cases h;cases hb;done)
theorem pq {o:AO} {out:Out} {row:PV} (h:yas E call F H o.op=some out) (hb:out.x=some (.box row)):ypT o=o.dst∧out.bx=none:=by
 have hv:∀ {p:PV} {H},outV p H=some out→False:=fun e=>by rw [rK e] at hb;cases hb
 unfold ypT
 cases hop:o.op<;>rw [hop] at h<;>simp only [yas] at h
 case aL z=>cases h;exact ⟨rfl,rfl⟩
 case boxL x=>
  split at h
  ·split at h
   ·cases h;exact ⟨rfl,rfl⟩
   ·cases h
  ·cases h
 all_goals (repeat' split at h)
 all_goals first | (cases h;done) | exact (hv h).elim | (cases h;cases hb;done)
end
end Go.Pf
namespace Go.Pf
open Go Go.RowKit
section
variable {g:Gh} {H:Hp} {w:World}
mutual
theorem JU:∀ (x:PV) (v:Value),VR g H w x v→ybU (fun _=>true) (fun id=>Nat.blt id H.length) x=true
 | .bool _,_,_ | .int _ _,_,_ | .nilp,_,_ | .nils,_,_ | .emp,_,_ | .mt _,_,_ | .nilf,_,_ | .eptr _ _ _,_,_ | .data _,_,_=>rfl
 | .ptr id ext i off,v,h=>by simp only [VR] at h;obtain ⟨hb,a,e,h⟩:=h;exact zX (nA.1 e).1
 | .own id lo len ext cap,v,h=>by simp only [VR] at h;obtain ⟨hb,a,c,e,h⟩:=h;exact zX (nA.1 e).1
 | .sub id ext i off n _,v,h=>by simp only [VR] at h;obtain ⟨a0,⟨hb,a,e,h⟩,h2⟩:=h;exact zX (nA.1 e).1
 | .fn f a b,v,h=>by simp only [VR] at h;obtain ⟨az,bs,e,h1,h2,h3⟩:=h;simp only [ybU,JV a az h1,JV b bs h2,uX]
 | .agg cs,v,h=>by simp only [VR] at h;obtain ⟨vs,e,h1⟩:=h;simp only [ybU,Of cs vs h1]
 | .tup ps,v,h=>by simp only [VR] at h;obtain ⟨vs,e,h1⟩:=h;simp only [ybU,JV ps vs h1]
theorem JV:∀ (l:List PV) (vs:List Value),bH g H w l vs→ybg (fun _=>true) (fun id=>Nat.blt id H.length) l=true
 | [],_,_=>rfl
 | x::r,vs,h=>by simp only [bH] at h;obtain ⟨v,vr,e,h1,h2⟩:=h;simp only [ybg,JU x v h1,JV r vr h2,uX]
theorem Of:∀ (l:List PV) (vs:List Value),bM g H w l vs→ybg (fun _=>true) (fun id=>Nat.blt id H.length) l=true
 | [],_,_=>rfl
 | x::r,vs,h=>by simp only [bM] at h;obtain ⟨v,vr,e,o,h1,h2⟩:=h;simp only [ybg,JU x v h1,Of r vr h2,uX]
end
theorem Yu:∀ (x:PV) (vs:List Value),bA g H w x vs→ybU (fun _=>true) (fun id=>Nat.blt id H.length) x=true:=by
 intro x vs h
 cases x<;>simp only [bA] at h<;>first
  | (simp only [ybU];exact Of _ _ h)
  | (obtain ⟨o,v,e,h1⟩:=h;exact JU _ _ h1)
theorem Yv (esz b:Nat):∀ (l:List PV) (o:Nat),eI g H w l esz b o→ybg (fun _=>true) (fun id=>Nat.blt id H.length) l=true
 | [],_,_=>rfl
 | x::r,o,h=>by simp only [eI] at h;obtain ⟨⟨vs,hl,h1,h2⟩,h3⟩:=h;simp only [ybg,Yu x vs h1,Yv esz b r (o+esz) h3,uX]
def Gh.wr (g:Gh) (r:Nat→Option (Nat×Nat)):Gh:={ g with ρ:=r }
variable {I:Nat→Bool} {r:Nat→Option (Nat×Nat)}
mutual
theorem JW (hI:∀ id,I id=true→r id=g.ρ id):∀ (x:PV) (v:Value),ybU (fun _=>true) I x=true→VR g H w x v→VR (g.wr r) H w x v
 | .bool b,v,_,h=>by simpa only [VR] using h
 | .int q m,v,_,h=>by simpa only [VR] using h
 | .nilp,v,_,h=>by simpa only [VR] using h
 | .nils,v,_,h=>by simpa only [VR] using h
 | .emp,v,_,h=>by simpa only [VR] using h
 | .mt _,v,_,h=>by simpa only [VR] using h
 | .nilf,v,_,h=>by simpa only [VR] using h
 | .ptr id ext i off,v,hc,h=>by simp only [ybU] at hc;simp only [VR,PtrR,Gh.wr,hI id hc] at h ⊢;exact h
 | .eptr rows i off,v,_,h=>by simp only [VR] at h ⊢;exact h
 | .data rows,v,_,h=>by simp only [VR] at h ⊢;exact h
 | .sub id ext i off n _,v,hc,h=>by simp only [ybU] at hc;simp only [VR,PtrR,Gh.wr,hI id hc] at h ⊢;exact h
 | .own id lo len ext cap,v,hc,h=>by simp only [ybU] at hc;simp only [VR,pM,Gh.wr,hI id hc] at h ⊢;exact h
 | .fn f a b,v,hc,h=>by
  simp only [ybU,bO] at hc;simp only [VR] at h ⊢;obtain ⟨az,bs,e,h1,h2,h3⟩:=h;refine ⟨az,bs,?_,JX hI a az hc.2.1 h1,JX hI b bs hc.2.2 h2,?_⟩
  ·cases f<;>exact e
  ·cases f<;>exact h3
 | .agg cs,v,hc,h=>by simp only [ybU] at hc;simp only [VR] at h ⊢;obtain ⟨vs,e,h1⟩:=h;exact ⟨vs,e,Og hI cs vs hc h1⟩
 | .tup ps,v,hc,h=>by simp only [ybU] at hc;simp only [VR] at h ⊢;obtain ⟨vs,e,h1⟩:=h;exact ⟨vs,e,JX hI ps vs hc h1⟩
theorem JX (hI:∀ id,I id=true→r id=g.ρ id):∀ (l:List PV) (vs:List Value),ybg (fun _=>true) I l=true→bH g H w l vs→bH (g.wr r) H w l vs
 | [],vs,_,h=>by simpa only [bH] using h
 | x::l,vs,hc,h=>by simp only [ybg,bO] at hc;simp only [bH] at h ⊢;obtain ⟨v,vr,e,h1,h2⟩:=h;exact ⟨v,vr,e,JW hI x v hc.1 h1,JX hI l vr hc.2 h2⟩
theorem Og (hI:∀ id,I id=true→r id=g.ρ id):∀ (l:List PV) (vs:List Value),ybg (fun _=>true) I l=true→bM g H w l vs→bM (g.wr r) H w l vs
 | [],vs,_,h=>by simpa only [bM] using h
 | x::l,vs,hc,h=>by simp only [ybg,bO] at hc;simp only [bM] at h ⊢;obtain ⟨v,vr,e,o,h1,h2⟩:=h;exact ⟨v,vr,e,o,JW hI x v hc.1 h1,Og hI l vr hc.2 h2⟩
end
theorem Yw (hI:∀ id,I id=true→r id=g.ρ id):∀ (x:PV) (vs:List Value),ybU (fun _=>true) I x=true→bA g H w x vs→bA (g.wr r) H w x vs:=by
 intro x vs hc h
 cases x<;>simp only [bA] at h ⊢ <;> first
  | (simp only [ybU] at hc;exact Og hI _ _ hc h)
  | (obtain ⟨o,v,e,h1⟩:=h;exact ⟨o,v,e,JW hI _ _ hc h1⟩)
theorem Yx (hI:∀ id,I id=true→r id=g.ρ id) (esz b:Nat):∀ (l:List PV) (o:Nat),ybg (fun _=>true) I l=true→eI g H w l esz b o→eI (g.wr r) H w l esz b o
 | [],_,_,_=>by simp only [eI]
 | x::l,o,hc,h=>by simp only [ybg,bO] at hc;simp only [eI] at h ⊢;obtain ⟨⟨vs,hl,h1,h2⟩,h3⟩:=h;exact ⟨⟨vs,hl,Yw hI x vs hc.1 h1,h2⟩,Yx hI esz b l (o+esz) hc.2 h3⟩
end
def sw (n id:Nat):Nat:=if id=n then n+1 else if id=n+1 then n else id
theorem Yy {n id:Nat} (h:id<n):sw n id=id:=by unfold sw;rw [WN (by omega),WN (by omega)]
theorem Gx (n:Nat):sw n n=n+1:=WM rfl
theorem Gy (n:Nat):sw n (n+1)=n:=by unfold sw;rw [WN (by omega),WM rfl]
theorem Yz (n id:Nat):sw n (sw n id)=id:=by
 unfold sw
 by_cases a:id=n
 ·rw [WM a,WN (by omega),WM rfl];exact a.symm
 ·by_cases b:id=n+1
  ·rw [WN a,WM b,WM rfl];exact b.symm
  ·rw [WN a,WN b,WN a,WN b]
def Gh.swp (g:Gh) (n:Nat):Gh:=g.wr fun id=>g.ρ (sw n id)
def YA (n:Nat):FV→Prop
 | .v p=>ybU (fun _=>true) (fun id=>Nat.blt id n) p=true
 | .box p=>ybU (fun _=>true) (fun id=>Nat.blt id n) p=true
 | .bp _ _=>True
theorem px {g:Gh} {H:Hp} {w:World} {tmps:Array Value} {s:Nat}:∀ {fv:FV},bR g H w tmps s fv→YA H.length fv
 | .v _,h=>JU _ _ h
 | .box _,h=>by simp only [bR] at h;obtain ⟨b,_,_,_,cur,T,_,h⟩:=h;exact Yu _ _ h
 | .bp _ _,_=>trivial
section
variable {E:Env} {nt n:Nat} {g g0:Gh} {F2 F':aD} {H H2:Hp} {Z:HB} {tm:Array Value} {w w0:World}
theorem Rel.swap (hH:H2=H++[Z,Z]) (hn:H.length=n) (hZ:∀ I,ybg (fun _=>true) I Z.rows=true) (hrows:∀ (id:Nat) (hb:HB),H[id]?=some hb→ybg (fun _=>true) (fun id=>Nat.blt id n) hb.rows=true)
  (h:Rel E nt g F2 H2 tm w)
  (hF:∀ s fv,fget F' s=some fv→(fget F2 s=some fv∧YA n fv)∨(∃ lo len ext cap,fv=.v (.own n lo len ext cap)∧fget F2 s=some (.v (.own (n+1) lo len ext cap)))∨(∃ lo len ext cap,fv=.v (.own (n+1) lo len ext cap)∧fget F2 s=some (.v (.own n lo len ext cap)))):Rel E nt (g.swp n) F' H2 tm w:=by
 have hI:∀ id,(fun id=>Nat.blt id n) id=true→(fun id=>g.ρ (sw n id)) id=g.ρ id:=fun id hid=>by
  show g.ρ (sw n id)=_;rw [Yy (Bf hid)]
 have hlen:H2.length=n+2:=by rw [hH,dM,hn];rfl
 have old:∀ id,id<n→H2[id]?=H[id]?:=fun id hid=>by rw [hH,List.getElem?_append_left (by omega)]
 have z0:H2[n]?=some Z:=by rw [hH,List.getElem?_append_right (by omega),hn,Nat.sub_self];rfl
 have z1:H2[n+1]?=some Z:=by rw [hH,List.getElem?_append_right (by omega),hn,show n+1-n=1 by omega];rfl
 have hs:∀ id,H2[sw n id]?=H2[id]?:=fun id=>by
  by_cases a:id=n
  ·subst a;rw [Gx,z0,z1]
  ·by_cases b:id=n+1
   ·subst b;rw [Gy,z0,z1]
   ·unfold sw;rw [WN a,WN b]
 refine ⟨h.size,fun s fv e=>?_,fun id hb e=>?_,fun id id' hb b o b' o' e hf hne h1 h2=>?_,fun id b o e=>?_,h.bdist,fun s b id o h1 h2=>h.brho s b _ o h1 h2,h.bimm,h.imm,h.glob⟩
 ·rcases hF s fv e with ⟨h1,h2⟩ | ⟨lo,len,ext,cap,rfl,h1⟩ | ⟨lo,len,ext,cap,rfl,h1⟩
  ·have hk:=h.frame s fv h1
   cases fv with
   | v p=>exact JW hI p _ h2 hk
   | box row =>simp only [bR] at hk ⊢;obtain ⟨b,k1,k2,k3,cur,T,k4,k5⟩:=hk;exact ⟨b,k1,k2,k3,cur,T,k4,Yw hI row _ h2 k5⟩
   | bp s' off=>exact hk
  ·have hk:=h.frame s _ h1;simp only [bR,VR] at hk ⊢;obtain ⟨hb,a,c,k1,k2,k3,k4,k5,k6,k7⟩:=hk;refine ⟨hb,a,c,by rw [z0];rw [z1] at k1;exact k1,k2,k3,k4,k5,k6,fun hx=>?_⟩;obtain ⟨b,o,m1,m2⟩:=k7 hx;exact ⟨b,o,by show g.ρ (sw n n)=_;rw [Gx];exact m1,m2⟩
  ·have hk:=h.frame s _ h1;simp only [bR,VR] at hk ⊢;obtain ⟨hb,a,c,k1,k2,k3,k4,k5,k6,k7⟩:=hk;refine ⟨hb,a,c,by rw [z1];rw [z0] at k1;exact k1,k2,k3,k4,k5,k6,fun hx=>?_⟩;obtain ⟨b,o,m1,m2⟩:=k7 hx;exact ⟨b,o,by show g.ρ (sw n (n+1))=_;rw [Gy];exact m1,m2⟩
 ·obtain ⟨b,o,hk⟩:=h.heap (sw n id) hb (by rw [hs];exact e);have hrow:ybg (fun _=>true) (fun id=>Nat.blt id n) hb.rows=true:=by
   rcases qA4 id n with hid|hid
   ·rw [old id hid] at e;exact hrows id hb e
   ·have:id<n+2:=by rw [← hlen];exact (nA.1 e).1
    have hz:H2[id]?=some Z:=by
     obtain rfl|rfl:id=n∨id=n+1:=by omega
     ·exact z0
     ·exact z1
    rw [hz] at e
    cases e
    exact hZ _
  exact ⟨b,o,hk.at_,hk.esz,hk.cells,Yx hI _ _ _ _ hrow hk.rows,hk.pure,hk.fz,hk.live⟩
 ·exact h.dist (sw n id) (sw n id') hb b o b' o' (by rw [hs];exact e) hf (fun k=>hne (by rw [← Yz n id,k,Yz])) h1 h2
 ·have:=h.rsome (sw n id) b o e;rw [hlen] at this ⊢
  by_cases a:id=n
  ·omega
  ·by_cases b:id=n+1
   ·omega
   ·unfold sw at this;rw [WN a,WN b] at this;exact this
theorem Nx.swap (hn:H.length=n) (h:Nx g0 g H H2 w0 w):Nx g0 (g.swp n) H H2 w0 w:=by
 have hr:∀ b,RngR (g.swp n) b→RngR g b:=fun b ⟨id,o,e⟩=>⟨sw n id,o,e⟩
 refine ⟨h.os,h.tape,h.output,h.drawn,h.size,h.kept,fun b hb k=>h.rng b hb (hr b k),fun b hb k=>h.immb b hb k,fun b hb k=>h.bet b hb k,⟨h.on.keeps,fun id hb e=>?_,h.on.shape,h.on.lam⟩⟩;obtain ⟨hb',k1,k2,k3,k4⟩:=h.on.hext id hb e;refine ⟨hb',k1,k2,k3,k4.imp (fun x=>x) fun ⟨x,y⟩=>⟨x,?_⟩⟩;show g.ρ (sw n id)=_;rw [Yy (by rw [← hn];exact (nA.1 e).1)];exact y
end
theorem Oh:∀ {l:List Nat},nU l=true→l.Nodup
 | [],_=>List.nodup_nil
 | x::r,h=>by simp only [nU,bO,jR,AM,decide_eq_false_iff_not] at h;exact zA.2 ⟨h.1,Oh h.2⟩
theorem py {l:List AO} {pairs:List (Nat×Nat)} (h:Dr l pairs=true):(pairs=Jj∨pairs=Dq)∧∃ s t0 t1 t2 t3 d0 d1 esz by_ pu k z,l=AT s t0 t1 t2 t3 d0 d1 esz by_ pu k z∧nU [s,t0,t1,t2,t3,d0,d1]=true:=by
 unfold Dr at h;split at h
 ·rename_i t0 s t1 pu esz by_ k z a0 b0 t2 s2 t3 pu2 esz2 by2 k2 z2 a2 b2 d0 a1 d1 a3;simp only [bO,nR,beq_iff_eq,decide_eq_true_eq] at h;obtain ⟨hp,hd,rfl,rfl,rfl,rfl,rfl,rfl,rfl,rfl,rfl,rfl,rfl,rfl⟩:=h;exact ⟨hp,_,_,_,_,_,_,_,_,_,_,_,_,rfl,hd⟩
 ·cases h
theorem pz {pairs:List (Nat×Nat)} (h:pairs=Jj∨pairs=Dq):∀ x∈pairs,x∈Dq:=by
 rcases h with rfl|rfl
 ·decide
 ·exact fun _ h=>h
def Gz (i j:Nat):Bool:=Dq.elem (i,j)
def tB:Nat→List Nat→List (List Nat)
 | 0,_=>[[]]
 | n+1,done=>((List.range 6).filter fun j=>!done.elem j&&(List.range 6).all fun i=>!decide (i<j)||(Gz i j||done.elem i)).flatMap fun j=>(tB n (done++[j])).map (j::·)
def wY:List (List Nat):=[[0,1,2,3,4,5],[0,1,2,4,3,5],[0,1,4,2,3,5],[0,2,1,3,4,5],[0,2,1,4,3,5],[0,2,3,1,4,5],[2,0,1,3,4,5],[2,0,1,4,3,5],[2,0,3,1,4,5],[2,3,0,1,4,5]]
theorem qa:tB 6 []=wY:=by decide +kernel
theorem YB:∀ (τ done:List Nat),(done++τ).Nodup→(∀ i∈τ,i<6)→(∀ a j b,τ=a++j::b→∀ i,i<j→Gz i j=false→i∈done++a)→τ∈tB τ.length done
 | [],_,_,_,_=>by simp [tB]
 | x::r,done,hn,hm,ho=>by
  have ih:=YB r (done++[x]) (by simpa using hn) (fun i hi=>hm i (gO _ hi)) (fun a j b e i hij hf=>by
   have:=ho (x::a) j b (by rw [e];rfl) i hij hf;simpa using this)
  show x::r∈(((List.range 6).filter fun j=>!done.elem j&&(List.range 6).all fun i=>!decide (i<j)||(Gz i j||done.elem i)).flatMap fun j=>(tB r.length (done++[j])).map (j::·));rw [List.mem_flatMap];refine ⟨x,List.mem_filter.2 ⟨qY.2 (hm x (kC ..)),?_⟩,List.mem_map.2 ⟨r,ih,rfl⟩⟩;rw [bO];refine ⟨?_,yW.2 fun i _=>?_⟩
  ·have:x∉done:=fun k=>by
    rw [Dc] at hn;exact hn.2.2 x k x (kC ..) rfl
   simpa using this
  ·by_cases c:i<x
   ·cases hf:Gz i x with
    | true=>simp
    | false =>have:=ho [] x r rfl i c hf;rw [List.append_nil] at this;simp [this]
   ·simp [c]
section
variable {E:Env} {call:Nat→List PV→Hp→Option (PV×Hp)} {F:aD} {H:Hp}
theorem dW {t s:Nat} {p:PV} (h:fget F s=some (.v p)):yez E call F H ⟨some t,.mv (.t s),none⟩=some (aF F t (.v p),H):=by
 have e:evV E F (.t s)=some p:=by simp only [evV,ev,h]
 simp only [yez,ycK,yas,e,outV,jA,ydT,Option.map]
theorem qb {t s:Nat} {pu:Bool} {esz by_:Nat} {z:PV} {q:IntKind} {n:Int} (h:fget F s=some (.v (.int q n))) (c:0≤n∧(n.toNat+64)*(by_+1)≤room) :
  yez E call F H ⟨some t,.mkSl pu esz by_ z (.t s) (.t s),none⟩=some (aF F t (.v (.own H.length 0 n.toNat n.toNat (some n.toNat))),H++[⟨false,pu,esz,replicate n.toNat z⟩]):=by
 have e:yey E F (.t s)=some n:=by simp only [yey,evV,ev,h]
 simp only [yez,ycK,yas,e,outV,jA,ydT,Option.map];rw [WM ⟨c.1,Int.le_refl _,c.2⟩]
theorem qc {s t0 t1 t2 t3 d0 d1 esz by_:Nat} {pu:Bool} {k:IntKind} {z:Int} {F':aD} {H':Hp} (h:ybo E call (AT s t0 t1 t2 t3 d0 d1 esz by_ pu k z) F H=some (F',H')) (hd:nU [s,t0,t1,t2,t3,d0,d1]=true) :
  ∃ q n,fget F s=some (.v (.int q n))∧0≤n∧(n.toNat+64)*(by_+1)≤room:=by
 have hd:=Oh hd;simp only [zA,qAo,AN,or_false,not_or] at hd;unfold AT at h;rw [ybo] at h
 cases e:evV E F (.t s) with
 | none=>simp only [yez,ycK,yas,e] at h;cases h
 | some p=>
  have hs:fget F s=some (.v p):=by
   simp only [evV,ev] at e
   cases g:fget F s with
   | none=>rw [g] at e;cases e
   | some x=>
    rw [g] at e
    cases x with
    | v y=>simp only [bT] at e;rw [e]
    | box _=>cases e
    | bp _ _=>cases e
  rw [dW hs] at h;dsimp only at h;rw [ybo] at h;have h0:fget (aF F t0 (.v p)) t0=some (.v p):=by rw [bI,WM rfl]
  have e1:evV E (aF F t0 (.v p)) (.t t0)=some p:=by simp only [evV,ev,h0]
  cases p with
  | int q n=>
   by_cases c:0≤n∧n≤n∧(n.toNat+64)*(by_+1)≤room
   ·exact ⟨q,n,hs,c.1,c.2.2⟩
   ·simp only [yez,ycK,yas,yey,e1] at h;rw [WN c] at h
    cases h
  | _=>simp only [yez,ycK,yas,yey,e1] at h;cases h
theorem yI1 {s t0 t1 t2 t3 d0 d1 esz by_:Nat} {pu:Bool} {k:IntKind} {z:Int} {F':aD} {H':Hp} (h:ybo E call (AT s t0 t1 t2 t3 d0 d1 esz by_ pu k z) F H=some (F',H')) (hd:nU [s,t0,t1,t2,t3,d0,d1]=true) {σ:List Nat} (hσ:σ∈wY) :
  (∃ F2,ybo E call (σ.filterMap ((AT s t0 t1 t2 t3 d0 d1 esz by_ pu k z)[·]?)) F H=some (F2,H')∧∀ x,fget F2 x=fget F' x) ∨
  ∃ F2 Z,ybo E call (σ.filterMap ((AT s t0 t1 t2 t3 d0 d1 esz by_ pu k z)[·]?)) F H=some (F2,H')∧H'=H++[Z,Z]∧(∀ I,ybg (fun _=>true) I Z.rows=true) ∧
   ∀ x fv,fget F' x=some fv→(fget F2 x=some fv∧(fget F x=some fv∨∃ q n,fv=.v (.int q n)))∨(∃ lo len ext cap,fv=.v (.own H.length lo len ext cap)∧fget F2 x=some (.v (.own (H.length+1) lo len ext cap)))∨(∃ lo len ext cap,fv=.v (.own (H.length+1) lo len ext cap)∧fget F2 x=some (.v (.own H.length lo len ext cap))):=by
 obtain ⟨q,n,hs,c⟩:=qc h hd;have hd:=Oh hd;simp only [zA,qAo,AN,or_false,not_or] at hd;obtain ⟨⟨a1,a2,a3,a4,a5,a6⟩,⟨b1,b2,b3,b4,b5⟩,⟨c1,c2,c3,c4⟩,⟨e1,e2,e3⟩,⟨f1,f2⟩,g1,_⟩:=hd;have hh:∀ {a b:Nat},¬a=b→¬b=a:=fun x y=>x y.symm
 have a1':=hh a1;have a2':=hh a2;have a3':=hh a3;have a4':=hh a4;have a5':=hh a5;have a6':=hh a6;have b1':=hh b1;have b2':=hh b2;have b3':=hh b3;have b4':=hh b4;have b5':=hh b5;have c1':=hh c1;have c2':=hh c2;have c3':=hh c3;have c4':=hh c4;have e1':=hh e1;have e2':=hh e2;have e3':=hh e3;have f1':=hh f1;have f2':=hh f2;have g1':=hh g1;generalize hZ:(⟨false,pu,esz,replicate n.toNat (.int k z)⟩:HB)=Z;have hZr:∀ I,ybg (fun _=>true) I Z.rows=true:=by
  intro I;rw [← hZ];show ybg _ I (replicate n.toNat (.int k z))=true;generalize n.toNat=m;induction m with
  | zero=>rfl
  | succ m ih=>rw [List.replicate_succ];simp only [ybg,ybU,ih,uX]
 have mk:∀ {G:aD} {J:Hp} {t u:Nat},fget G u=some (.v (.int q n))→yez E call G J ⟨some t,.mkSl pu esz by_ (.int k z) (.t u) (.t u),none⟩=some (aF G t (.v (.own J.length 0 n.toNat n.toNat (some n.toNat))),J++[Z]):=fun hu=>by rw [qb hu c,hZ]
 have hl:(H++[Z]).length=H.length+1:=by rw [dM];rfl
 have stp:∀ (G:aD) (J:Hp) (o:AO) (r:List AO) (G1:aD) (J1:Hp),yez E call G J o=some (G1,J1)→ybo E call (o::r) G J=ybo E call r G1 J1:=fun G J o r G1 J1 e=>by rw [ybo,e]
 have r0:ybo E call [⟨some t0,.mv (.t s),none⟩,⟨some t1,.mkSl pu esz by_ (.int k z) (.t t0) (.t t0),none⟩,⟨some t2,.mv (.t s),none⟩,⟨some t3,.mkSl pu esz by_ (.int k z) (.t t2) (.t t2),none⟩,⟨some d0,.mv (.t t1),none⟩,⟨some d1,.mv (.t t3),none⟩] F H=some ((aF (aF (aF (aF (aF (aF F t0 (.v (.int q n))) t1 (.v (.own H.length 0 n.toNat n.toNat (some n.toNat)))) t2 (.v (.int q n))) t3 (.v (.own (H.length+1) 0 n.toNat n.toNat (some n.toNat)))) d0 (.v (.own H.length 0 n.toNat n.toNat (some n.toNat)))) d1 (.v (.own (H.length+1) 0 n.toNat n.toNat (some n.toNat)))),H++[Z]++[Z]):=by rw [stp _ _ _ _ _ _ (dW (p:=.int q n) (by simp [*]))];rw [stp _ _ _ _ _ _ (mk (by simp [*,bI]))];rw [stp _ _ _ _ _ _ (dW (p:=.int q n) (by simp [*,bI]))];rw [stp _ _ _ _ _ _ (mk (by simp [*,bI]))];rw [stp _ _ _ _ _ _ (dW (p:=.own H.length 0 n.toNat n.toNat (some n.toNat)) (by simp [*,bI]))];rw [stp _ _ _ _ _ _ (dW (p:=.own (H++[Z]).length 0 n.toNat n.toNat (some n.toNat)) (by simp [*,bI]))];simp only [ybo,hl]
 have r1:ybo E call [⟨some t0,.mv (.t s),none⟩,⟨some t1,.mkSl pu esz by_ (.int k z) (.t t0) (.t t0),none⟩,⟨some t2,.mv (.t s),none⟩,⟨some d0,.mv (.t t1),none⟩,⟨some t3,.mkSl pu esz by_ (.int k z) (.t t2) (.t t2),none⟩,⟨some d1,.mv (.t t3),none⟩] F H=some ((aF (aF (aF (aF (aF (aF F t0 (.v (.int q n))) t1 (.v (.own H.length 0 n.toNat n.toNat (some n.toNat)))) t2 (.v (.int q n))) d0 (.v (.own H.length 0 n.toNat n.toNat (some n.toNat)))) t3 (.v (.own (H.length+1) 0 n.toNat n.toNat (some n.toNat)))) d1 (.v (.own (H.length+1) 0 n.toNat n.toNat (some n.toNat)))),H++[Z]++[Z]):=by rw [stp _ _ _ _ _ _ (dW (p:=.int q n) (by simp [*]))];rw [stp _ _ _ _ _ _ (mk (by simp [*,bI]))];rw [stp _ _ _ _ _ _ (dW (p:=.int q n) (by simp [*,bI]))];rw [stp _ _ _ _ _ _ (dW (p:=.own H.length 0 n.toNat n.toNat (some n.toNat)) (by simp [*,bI]))];rw [stp _ _ _ _ _ _ (mk (by simp [*,bI]))];rw [stp _ _ _ _ _ _ (dW (p:=.own (H++[Z]).length 0 n.toNat n.toNat (some n.toNat)) (by simp [*,bI]))];simp only [ybo,hl]
 have r2:ybo E call [⟨some t0,.mv (.t s),none⟩,⟨some t1,.mkSl pu esz by_ (.int k z) (.t t0) (.t t0),none⟩,⟨some d0,.mv (.t t1),none⟩,⟨some t2,.mv (.t s),none⟩,⟨some t3,.mkSl pu esz by_ (.int k z) (.t t2) (.t t2),none⟩,⟨some d1,.mv (.t t3),none⟩] F H=some ((aF (aF (aF (aF (aF (aF F t0 (.v (.int q n))) t1 (.v (.own H.length 0 n.toNat n.toNat (some n.toNat)))) d0 (.v (.own H.length 0 n.toNat n.toNat (some n.toNat)))) t2 (.v (.int q n))) t3 (.v (.own (H.length+1) 0 n.toNat n.toNat (some n.toNat)))) d1 (.v (.own (H.length+1) 0 n.toNat n.toNat (some n.toNat)))),H++[Z]++[Z]):=by rw [stp _ _ _ _ _ _ (dW (p:=.int q n) (by simp [*]))];rw [stp _ _ _ _ _ _ (mk (by simp [*,bI]))];rw [stp _ _ _ _ _ _ (dW (p:=.own H.length 0 n.toNat n.toNat (some n.toNat)) (by simp [*,bI]))];rw [stp _ _ _ _ _ _ (dW (p:=.int q n) (by simp [*,bI]))];rw [stp _ _ _ _ _ _ (mk (by simp [*,bI]))];rw [stp _ _ _ _ _ _ (dW (p:=.own (H++[Z]).length 0 n.toNat n.toNat (some n.toNat)) (by simp [*,bI]))];simp only [ybo,hl]
 have r3:ybo E call [⟨some t0,.mv (.t s),none⟩,⟨some t2,.mv (.t s),none⟩,⟨some t1,.mkSl pu esz by_ (.int k z) (.t t0) (.t t0),none⟩,⟨some t3,.mkSl pu esz by_ (.int k z) (.t t2) (.t t2),none⟩,⟨some d0,.mv (.t t1),none⟩,⟨some d1,.mv (.t t3),none⟩] F H=some ((aF (aF (aF (aF (aF (aF F t0 (.v (.int q n))) t2 (.v (.int q n))) t1 (.v (.own H.length 0 n.toNat n.toNat (some n.toNat)))) t3 (.v (.own (H.length+1) 0 n.toNat n.toNat (some n.toNat)))) d0 (.v (.own H.length 0 n.toNat n.toNat (some n.toNat)))) d1 (.v (.own (H.length+1) 0 n.toNat n.toNat (some n.toNat)))),H++[Z]++[Z]):=by rw [stp _ _ _ _ _ _ (dW (p:=.int q n) (by simp [*]))];rw [stp _ _ _ _ _ _ (dW (p:=.int q n) (by simp [*,bI]))];rw [stp _ _ _ _ _ _ (mk (by simp [*,bI]))];rw [stp _ _ _ _ _ _ (mk (by simp [*,bI]))];rw [stp _ _ _ _ _ _ (dW (p:=.own H.length 0 n.toNat n.toNat (some n.toNat)) (by simp [*,bI]))];rw [stp _ _ _ _ _ _ (dW (p:=.own (H++[Z]).length 0 n.toNat n.toNat (some n.toNat)) (by simp [*,bI]))];simp only [ybo,hl]
 have r4:ybo E call [⟨some t0,.mv (.t s),none⟩,⟨some t2,.mv (.t s),none⟩,⟨some t1,.mkSl pu esz by_ (.int k z) (.t t0) (.t t0),none⟩,⟨some d0,.mv (.t t1),none⟩,⟨some t3,.mkSl pu esz by_ (.int k z) (.t t2) (.t t2),none⟩,⟨some d1,.mv (.t t3),none⟩] F H=some ((aF (aF (aF (aF (aF (aF F t0 (.v (.int q n))) t2 (.v (.int q n))) t1 (.v (.own H.length 0 n.toNat n.toNat (some n.toNat)))) d0 (.v (.own H.length 0 n.toNat n.toNat (some n.toNat)))) t3 (.v (.own (H.length+1) 0 n.toNat n.toNat (some n.toNat)))) d1 (.v (.own (H.length+1) 0 n.toNat n.toNat (some n.toNat)))),H++[Z]++[Z]):=by rw [stp _ _ _ _ _ _ (dW (p:=.int q n) (by simp [*]))];rw [stp _ _ _ _ _ _ (dW (p:=.int q n) (by simp [*,bI]))];rw [stp _ _ _ _ _ _ (mk (by simp [*,bI]))];rw [stp _ _ _ _ _ _ (dW (p:=.own H.length 0 n.toNat n.toNat (some n.toNat)) (by simp [*,bI]))];rw [stp _ _ _ _ _ _ (mk (by simp [*,bI]))];rw [stp _ _ _ _ _ _ (dW (p:=.own (H++[Z]).length 0 n.toNat n.toNat (some n.toNat)) (by simp [*,bI]))];simp only [ybo,hl]
 have r5:ybo E call [⟨some t0,.mv (.t s),none⟩,⟨some t2,.mv (.t s),none⟩,⟨some t3,.mkSl pu esz by_ (.int k z) (.t t2) (.t t2),none⟩,⟨some t1,.mkSl pu esz by_ (.int k z) (.t t0) (.t t0),none⟩,⟨some d0,.mv (.t t1),none⟩,⟨some d1,.mv (.t t3),none⟩] F H=some ((aF (aF (aF (aF (aF (aF F t0 (.v (.int q n))) t2 (.v (.int q n))) t3 (.v (.own H.length 0 n.toNat n.toNat (some n.toNat)))) t1 (.v (.own (H.length+1) 0 n.toNat n.toNat (some n.toNat)))) d0 (.v (.own (H.length+1) 0 n.toNat n.toNat (some n.toNat)))) d1 (.v (.own H.length 0 n.toNat n.toNat (some n.toNat)))),H++[Z]++[Z]):=by rw [stp _ _ _ _ _ _ (dW (p:=.int q n) (by simp [*]))];rw [stp _ _ _ _ _ _ (dW (p:=.int q n) (by simp [*,bI]))];rw [stp _ _ _ _ _ _ (mk (by simp [*,bI]))];rw [stp _ _ _ _ _ _ (mk (by simp [*,bI]))];rw [stp _ _ _ _ _ _ (dW (p:=.own (H++[Z]).length 0 n.toNat n.toNat (some n.toNat)) (by simp [*,bI]))];rw [stp _ _ _ _ _ _ (dW (p:=.own H.length 0 n.toNat n.toNat (some n.toNat)) (by simp [*,bI]))];simp only [ybo,hl]
 have r6:ybo E call [⟨some t2,.mv (.t s),none⟩,⟨some t0,.mv (.t s),none⟩,⟨some t1,.mkSl pu esz by_ (.int k z) (.t t0) (.t t0),none⟩,⟨some t3,.mkSl pu esz by_ (.int k z) (.t t2) (.t t2),none⟩,⟨some d0,.mv (.t t1),none⟩,⟨some d1,.mv (.t t3),none⟩] F H=some ((aF (aF (aF (aF (aF (aF F t2 (.v (.int q n))) t0 (.v (.int q n))) t1 (.v (.own H.length 0 n.toNat n.toNat (some n.toNat)))) t3 (.v (.own (H.length+1) 0 n.toNat n.toNat (some n.toNat)))) d0 (.v (.own H.length 0 n.toNat n.toNat (some n.toNat)))) d1 (.v (.own (H.length+1) 0 n.toNat n.toNat (some n.toNat)))),H++[Z]++[Z]):=by rw [stp _ _ _ _ _ _ (dW (p:=.int q n) (by simp [*]))];rw [stp _ _ _ _ _ _ (dW (p:=.int q n) (by simp [*,bI]))];rw [stp _ _ _ _ _ _ (mk (by simp [*,bI]))];rw [stp _ _ _ _ _ _ (mk (by simp [*,bI]))];rw [stp _ _ _ _ _ _ (dW (p:=.own H.length 0 n.toNat n.toNat (some n.toNat)) (by simp [*,bI]))];rw [stp _ _ _ _ _ _ (dW (p:=.own (H++[Z]).length 0 n.toNat n.toNat (some n.toNat)) (by simp [*,bI]))];simp only [ybo,hl]
 have r7:ybo E call [⟨some t2,.mv (.t s),none⟩,⟨some t0,.mv (.t s),none⟩,⟨some t1,.mkSl pu esz by_ (.int k z) (.t t0) (.t t0),none⟩,⟨some d0,.mv (.t t1),none⟩,⟨some t3,.mkSl pu esz by_ (.int k z) (.t t2) (.t t2),none⟩,⟨some d1,.mv (.t t3),none⟩] F H=some ((aF (aF (aF (aF (aF (aF F t2 (.v (.int q n))) t0 (.v (.int q n))) t1 (.v (.own H.length 0 n.toNat n.toNat (some n.toNat)))) d0 (.v (.own H.length 0 n.toNat n.toNat (some n.toNat)))) t3 (.v (.own (H.length+1) 0 n.toNat n.toNat (some n.toNat)))) d1 (.v (.own (H.length+1) 0 n.toNat n.toNat (some n.toNat)))),H++[Z]++[Z]):=by rw [stp _ _ _ _ _ _ (dW (p:=.int q n) (by simp [*]))];rw [stp _ _ _ _ _ _ (dW (p:=.int q n) (by simp [*,bI]))];rw [stp _ _ _ _ _ _ (mk (by simp [*,bI]))];rw [stp _ _ _ _ _ _ (dW (p:=.own H.length 0 n.toNat n.toNat (some n.toNat)) (by simp [*,bI]))];rw [stp _ _ _ _ _ _ (mk (by simp [*,bI]))];rw [stp _ _ _ _ _ _ (dW (p:=.own (H++[Z]).length 0 n.toNat n.toNat (some n.toNat)) (by simp [*,bI]))];simp only [ybo,hl]
 have r8:ybo E call [⟨some t2,.mv (.t s),none⟩,⟨some t0,.mv (.t s),none⟩,⟨some t3,.mkSl pu esz by_ (.int k z) (.t t2) (.t t2),none⟩,⟨some t1,.mkSl pu esz by_ (.int k z) (.t t0) (.t t0),none⟩,⟨some d0,.mv (.t t1),none⟩,⟨some d1,.mv (.t t3),none⟩] F H=some ((aF (aF (aF (aF (aF (aF F t2 (.v (.int q n))) t0 (.v (.int q n))) t3 (.v (.own H.length 0 n.toNat n.toNat (some n.toNat)))) t1 (.v (.own (H.length+1) 0 n.toNat n.toNat (some n.toNat)))) d0 (.v (.own (H.length+1) 0 n.toNat n.toNat (some n.toNat)))) d1 (.v (.own H.length 0 n.toNat n.toNat (some n.toNat)))),H++[Z]++[Z]):=by rw [stp _ _ _ _ _ _ (dW (p:=.int q n) (by simp [*]))];rw [stp _ _ _ _ _ _ (dW (p:=.int q n) (by simp [*,bI]))];rw [stp _ _ _ _ _ _ (mk (by simp [*,bI]))];rw [stp _ _ _ _ _ _ (mk (by simp [*,bI]))];rw [stp _ _ _ _ _ _ (dW (p:=.own (H++[Z]).length 0 n.toNat n.toNat (some n.toNat)) (by simp [*,bI]))];rw [stp _ _ _ _ _ _ (dW (p:=.own H.length 0 n.toNat n.toNat (some n.toNat)) (by simp [*,bI]))];simp only [ybo,hl]
 have r9:ybo E call [⟨some t2,.mv (.t s),none⟩,⟨some t3,.mkSl pu esz by_ (.int k z) (.t t2) (.t t2),none⟩,⟨some t0,.mv (.t s),none⟩,⟨some t1,.mkSl pu esz by_ (.int k z) (.t t0) (.t t0),none⟩,⟨some d0,.mv (.t t1),none⟩,⟨some d1,.mv (.t t3),none⟩] F H=some ((aF (aF (aF (aF (aF (aF F t2 (.v (.int q n))) t3 (.v (.own H.length 0 n.toNat n.toNat (some n.toNat)))) t0 (.v (.int q n))) t1 (.v (.own (H.length+1) 0 n.toNat n.toNat (some n.toNat)))) d0 (.v (.own (H.length+1) 0 n.toNat n.toNat (some n.toNat)))) d1 (.v (.own H.length 0 n.toNat n.toNat (some n.toNat)))),H++[Z]++[Z]):=by rw [stp _ _ _ _ _ _ (dW (p:=.int q n) (by simp [*]))];rw [stp _ _ _ _ _ _ (mk (by simp [*,bI]))];rw [stp _ _ _ _ _ _ (dW (p:=.int q n) (by simp [*,bI]))];rw [stp _ _ _ _ _ _ (mk (by simp [*,bI]))];rw [stp _ _ _ _ _ _ (dW (p:=.own (H++[Z]).length 0 n.toNat n.toNat (some n.toNat)) (by simp [*,bI]))];rw [stp _ _ _ _ _ _ (dW (p:=.own H.length 0 n.toNat n.toNat (some n.toNat)) (by simp [*,bI]))];simp only [ybo,hl]
 have hc:some (F',H')=some ((aF (aF (aF (aF (aF (aF F t0 (.v (.int q n))) t1 (.v (.own H.length 0 n.toNat n.toNat (some n.toNat)))) t2 (.v (.int q n))) t3 (.v (.own (H.length+1) 0 n.toNat n.toNat (some n.toNat)))) d0 (.v (.own H.length 0 n.toNat n.toNat (some n.toNat)))) d1 (.v (.own (H.length+1) 0 n.toNat n.toNat (some n.toNat)))),H++[Z]++[Z]):=h.symm.trans r0;have hF:F'=(aF (aF (aF (aF (aF (aF F t0 (.v (.int q n))) t1 (.v (.own H.length 0 n.toNat n.toNat (some n.toNat)))) t2 (.v (.int q n))) t3 (.v (.own (H.length+1) 0 n.toNat n.toNat (some n.toNat)))) d0 (.v (.own H.length 0 n.toNat n.toNat (some n.toNat)))) d1 (.v (.own (H.length+1) 0 n.toNat n.toNat (some n.toNat)))):=WO Prod.fst (qDk hc);have hHh:H'=H++[Z]++[Z]:=WO Prod.snd (qDk hc);have hH2:H'=H++[Z,Z]:=by rw [hHh,lX];rfl
 simp only [wY,qAo,AN,or_false] at hσ;rcases hσ with rfl | rfl | rfl | rfl | rfl | rfl | rfl | rfl | rfl | rfl
 ·exact .inl ⟨_,r0.trans (by rw [hHh]),fun x=>by rw [hF]⟩
 ·refine .inl ⟨_,r1.trans (by rw [hHh]),fun x=>?_⟩;rw [hF];simp only [bI];grind
 ·refine .inl ⟨_,r2.trans (by rw [hHh]),fun x=>?_⟩;rw [hF];simp only [bI];grind
 ·refine .inl ⟨_,r3.trans (by rw [hHh]),fun x=>?_⟩;rw [hF];simp only [bI];grind
 ·refine .inl ⟨_,r4.trans (by rw [hHh]),fun x=>?_⟩;rw [hF];simp only [bI];grind
 ·refine .inr ⟨_,Z,r5.trans (by rw [hHh]),hH2,hZr,fun x fv hx=>?_⟩;rw [hF] at hx;simp only [bI] at hx ⊢
  by_cases xd1:x=d1
  ·subst xd1;simp [*] at hx ⊢;subst hx;simp
  by_cases xd0:x=d0
  ·subst xd0;simp [*] at hx ⊢;subst hx;simp
  by_cases xt3:x=t3
  ·subst xt3;simp [*] at hx ⊢;subst hx;simp
  by_cases xt2:x=t2
  ·subst xt2;simp [*] at hx ⊢;subst hx;simp
  by_cases xt1:x=t1
  ·subst xt1;simp [*] at hx ⊢;subst hx;simp
  by_cases xt0:x=t0
  ·subst xt0;simp [*] at hx ⊢;subst hx;simp
  simp [xd1,xd0,xt3,xt2,xt1,xt0] at hx ⊢;exact .inl ⟨hx,.inl hx⟩
 ·refine .inl ⟨_,r6.trans (by rw [hHh]),fun x=>?_⟩;rw [hF];simp only [bI];grind
 ·refine .inl ⟨_,r7.trans (by rw [hHh]),fun x=>?_⟩;rw [hF];simp only [bI];grind
 ·refine .inr ⟨_,Z,r8.trans (by rw [hHh]),hH2,hZr,fun x fv hx=>?_⟩;rw [hF] at hx;simp only [bI] at hx ⊢
  by_cases xd1:x=d1
  ·subst xd1;simp [*] at hx ⊢;subst hx;simp
  by_cases xd0:x=d0
  ·subst xd0;simp [*] at hx ⊢;subst hx;simp
  by_cases xt3:x=t3
  ·subst xt3;simp [*] at hx ⊢;subst hx;simp
  by_cases xt2:x=t2
  ·subst xt2;simp [*] at hx ⊢;subst hx;simp
  by_cases xt1:x=t1
  ·subst xt1;simp [*] at hx ⊢;subst hx;simp
  by_cases xt0:x=t0
  ·subst xt0;simp [*] at hx ⊢;subst hx;simp
  simp [xd1,xd0,xt3,xt2,xt1,xt0] at hx ⊢;exact .inl ⟨hx,.inl hx⟩
 ·refine .inr ⟨_,Z,r9.trans (by rw [hHh]),hH2,hZr,fun x fv hx=>?_⟩;rw [hF] at hx;simp only [bI] at hx ⊢
  by_cases xd1:x=d1
  ·subst xd1;simp [*] at hx ⊢;subst hx;simp
  by_cases xd0:x=d0
  ·subst xd0;simp [*] at hx ⊢;subst hx;simp
  by_cases xt3:x=t3
  ·subst xt3;simp [*] at hx ⊢;subst hx;simp
  by_cases xt2:x=t2
  ·subst xt2;simp [*] at hx ⊢;subst hx;simp
  by_cases xt1:x=t1
  ·subst xt1;simp [*] at hx ⊢;subst hx;simp
  by_cases xt0:x=t0
  ·subst xt0;simp [*] at hx ⊢;subst hx;simp
  simp [xd1,xd0,xt3,xt2,xt1,xt0] at hx ⊢;exact .inl ⟨hx,.inl hx⟩
end
section
variable {E:Env} {F F':aD} {H H' H1:Hp} {call:Nat→List PV→Hp→Option (PV×Hp)}
theorem qd {dst:Option Nat} {x:Option FV} {F1:aD} (h:ygU F dst x=some F1) (hb:∀ row d,x=some (.box row)→dst=some d→noBp F d=true):ydT F dst x=some F1:=by
 cases dst with
 | none=>cases x with
  | none=>exact h
  | some fv=>cases fv<;>exact h
 | some d=>cases x with
  | none=>exact h
  | some fv=>
   cases fv with
   | box row=>simp only [ydT];rw [js _ _ (hb row d rfl rfl)];exact h
   | _=>exact h
inductive Loc where
 | sl (s:Nat)
 | bk (id:Nat)
 | len
inductive LV where
 | f (x:Option FV)
 | b (x:Option HB)
 | n (k:Nat)
def look (S:aD×Hp):Loc→LV
 | .sl s=>.f (fget S.1 s)
 | .bk id=>.b S.2[id]?
 | .len=>.n S.2.length
def RdP (p:FP):Loc→Prop
 | .sl s=>s∈p.rd
 | .bk id=>id∈p.hr∨id∈p.hw∨p.all=true
 | .len=>p.push=true∨p.all=true
def WrP (p:FP):Loc→Prop
 | .sl s=>s∈p.wr
 | .bk id=>id∈p.hw∨p.all=true
 | .len=>p.push=true∨p.all=true
theorem YC {gd:Option (Nat×Bool)} (h:nG (Dp gd) F F'):ycK F' gd=ycK F gd:=by
 cases gd with
 | none=>rfl
 | some x =>obtain ⟨s,want⟩:=x;simp only [ycK,h s (by simp [Dp])]
theorem Oi (F:aD) (bx:Option (Nat×PV)) (k:Nat):fget (jA F bx) k=match bx with | some (s,row)=>if k=s then some (.box row) else fget F k | none=>fget F k:=by
 cases bx with
 | none=>rfl
 | some x=>obtain ⟨s,row⟩:=x;simp only [jA,bI]
theorem YD {o:AO} {S1:aD×Hp} (h:ygM E call o (F,H)=some S1) (S':aD×Hp) (hag:∀ l,RdP (ydd E F H o) l→look S' l=look (F,H) l) :
  ∃ T',ygM E call o S'=some T'∧(∀ l,WrP (ydd E F H o) l→look T' l=look S1 l)∧(∀ l,¬WrP (ydd E F H o) l→look T' l=look S' l):=by
 obtain ⟨F',H'⟩:=S';have hF:nG (ydd E F H o).rd F F':=fun s hs=>by
  have:=hag (.sl s) hs;simpa [look] using this
 unfold ygM at h ⊢;simp only [] at h ⊢;unfold ydd at hag hF ⊢;split at h
 ·cases h
 ·-- the guard says no
  rename_i hg;rw [hg] at hag hF ⊢;simp only [] at hag hF ⊢;rw [YC hF,hg];simp only []
  cases hd:o.dst with
  | none=>
   rw [hd] at h
   cases h
   exact ⟨_,rfl,fun l hl=>by cases l<;>simp [WrP] at hl,fun _ _=>rfl⟩
  | some d=>
   rw [hd] at h
   cases h
   refine ⟨_,rfl,fun l hl=>?_,fun l hl=>?_⟩
   ·cases l<;>simp [WrP] at hl
    subst hl;simp [look,bI]
   ·cases l with
    | sl s =>simp [WrP] at hl;simp [look,bI,hl]
    | _=>rfl
 ·rename_i hg;rw [hg] at hag hF ⊢;simp only [] at hag hF ⊢;rw [Gw] at hF;rw [YC hF.1,hg];simp only [];split at h
  ·cases h
  ·rename_i out x bx H2 hout;simp only [mI] at h;obtain ⟨F1,hput,e⟩:=h;subst e;have hall:(aR E F H o.op).all=true→H'=H:=fun ha=>qV fun k=>by
    have:=hag (.bk k) (.inr (.inr ha));simpa [look] using this
   have hH:AgH (aR E F H o.op) H H':=by
    refine ⟨fun id hid=>?_,fun hp=>?_,hall⟩
    ·have:=hag (.bk id) (hid.elim .inl fun x=>.inr (.inl x));simpa [look] using this
    ·have:=hag .len (.inl hp);simpa [look] using this
   obtain ⟨H2',h1,h2⟩:=pm hH hout;have h3:yas E call F' H' o.op=some ⟨x,bx,H2'⟩:=by
    rw [pd (F:=F) (H:=H') (by rw [pn o.op H' H];exact hF.2)];exact h1
   rw [h3];simp only [];have hput':∃ F1',ygU (jA F' bx) o.dst x=some F1'∧(∀ s,s∈o.dst.toList++(aR E F H o.op).wr→fget F1' s=fget F1 s)∧(∀ s,s∉o.dst.toList++(aR E F H o.op).wr→fget F1' s=fget F' s):=by
    have hbx:∀ s row,bx=some (s,row)→s∈(aR E F H o.op).wr:=fun s row e=>(Yt hout e).1
    have hin:∀ s,s∈(aR E F H o.op).wr→fget (jA F' bx) s=fget (jA F bx) s:=by
     intro s hs;rw [Oi,Oi];have:=hF.2 s (po _ _ hs)
     cases bx with
     | none=>exact this
     | some y=>obtain ⟨s',row⟩:=y;simp only [this]
    have hnin:∀ s,s∉(aR E F H o.op).wr→fget (jA F' bx) s=fget F' s:=by
     intro s hs;rw [Oi]
     cases bx with
     | none=>rfl
     | some y=>
      obtain ⟨s',row⟩:=y;simp only [];have hne:¬s=s':=fun e=>hs (e ▸ hbx s' row rfl)
      rw [WN hne]
    cases hdst:o.dst with
    | none=>
     rw [hdst] at hput;have hx:∀ G:aD,ygU G none x=some G:=by
      cases x with
      | none=>intro G;rfl
      | some fv=>cases fv with
       | box row=>simp [ygU] at hput
       | _=>intro G;rfl
     rw [hx] at hput
     cases hput
     refine ⟨_,hx _,fun s hs=>hin s (by simpa using hs),fun s hs=>hnin s (by simpa using hs)⟩
    | some d=>
     rw [hdst] at hput;have key:∀ (G:aD),∃ G1,ygU G (some d) x=some G1∧fget G1 d=x∧∀ s,s≠d→fget G1 s=fget G s:=by
      intro G
      cases x with
      | none=>exact ⟨_,rfl,by simp [wT],fun s hs=>by simp [wT,hs]⟩
      | some fv=>exact ⟨_,rfl,by simp [bI],fun s hs=>by simp [bI,hs]⟩
     obtain ⟨G1,k1,k2,k3⟩:=key (jA F bx);rw [k1] at hput
     cases hput
     obtain ⟨G2,k4,k5,k6⟩:=key (jA F' bx);refine ⟨G2,k4,fun s hs=>?_,fun s hs=>?_⟩
     ·by_cases e:s=d
      ·subst e;rw [k2,k5]
      ·rw [k6 s e,k3 s e];simp only [Option.toList_some,qAv,wM,e,false_or] at hs;exact hin s hs
     ·simp only [Option.toList_some,qAv,wM,not_or] at hs;rw [k6 s hs.1];exact hnin s hs.2
   obtain ⟨F1',e1,e2,e3⟩:=hput';rw [e1];refine ⟨(F1',H2'),rfl,fun l hl=>?_,fun l hl=>?_⟩
   ·cases l with
    | sl s=>simp only [WrP] at hl;simp only [look,e2 s hl]
    | bk id=>
     simp only [WrP] at hl;simp only [look];rcases hl with hl | hl
     ·cases ha:(aR E F H o.op).all
      ·rw [h2.inn ha id hl]
      ·rw [h2.all ha]
     ·rw [h2.all hl]
    | len=>
     simp only [WrP] at hl;simp only [look];rcases hl with hl | hl
     ·rw [h2.push hl]
     ·rw [h2.all hl]
   ·cases l with
    | sl s=>simp only [WrP] at hl;simp only [look,e3 s hl]
    | bk id =>simp only [WrP,not_or] at hl;simp only [look];rw [(h2.out (by simpa using hl.2) id hl.1).2]
    | len =>simp only [WrP,not_or] at hl;simp only [look];rw [(h2.len (by simpa using hl.1) (by simpa using hl.2)).2]
theorem qe {f g:Fn} (h:sQ f g=true):f=g:=by
 unfold sQ at h;split at h
 ·rw [eq_of_beq h]
 ·rw [eq_of_beq h]
 ·exact of_decide_eq_true h
theorem qf (f:Fn):sQ f f=true:=by
 cases f<;>simp [sQ]
mutual
theorem qg:∀ (x:PV),jB x x=true
 | .bool _ | .int _ _ | .nilp | .nils | .emp | .nilf | .mt _ | .ptr _ _ _ _ | .own _ _ _ _ _ | .sub _ _ _ _ _ _=>by simp [jB]
 | .eptr r _ _=>by simp [jB,zZ r]
 | .data r=>by simp [jB,zZ r]
 | .agg r=>by simp [jB,zZ r]
 | .tup r=>by simp [jB,zZ r]
 | .fn f a b=>by simp [jB,qf f,zZ a,zZ b]
theorem zZ:∀ (x:List PV),gP x x=true
 | []=>rfl
 | x::r=>by simp [gP,qg x,zZ r]
end
theorem qh (b:HB):sR b b=true:=by simp [sR,zZ]
theorem Oj:∀ (i:Nat) (H H1:Hp),H1.length=H.length→∀ id,H1[id]?=H[id]?→i+id∉cV i H H1
 | i,[],[],_,id,_=>by simp [cV,sS]
 | i,a::r,b::s,hl,id,h=>by
  have hl':s.length=r.length:=by simpa using hl
  have hin:∀ (k:Nat) (H H1:Hp) (x:Nat),x∈cV k H H1→k≤x:=by
   intro k H;induction H generalizing k with
   | nil=>
    intro H1;induction H1 generalizing k with
    | nil=>intro x hx;simp [cV,sS] at hx
    | cons _ s ih=>
     intro x hx;simp only [cV,sS,qAo] at hx;rcases hx with rfl | hx
     ·exact bW _
     ·have:=ih (k+1) x hx;omega
   | cons a r ih=>
    intro H1 x hx
    cases H1 with
    | nil=>
     simp only [cV,qAo] at hx;rcases hx with rfl | hx
     ·exact bW _
     ·have:=ih (k+1) [] x hx;omega
    | cons b s=>
     simp only [cV] at hx;split at hx
     ·have:=ih (k+1) s x hx;omega
     ·simp only [qAo] at hx;rcases hx with rfl | hx
      ·exact bW _
      ·have:=ih (k+1) s x hx;omega
  cases id with
  | zero =>simp only [yS,bT] at h;subst h;simp only [cV,qh,if_true];intro hm;have:=hin _ _ _ _ hm;omega
  | succ id=>
   have h2:s[id]?=r[id]?:=by simpa using h
   have:=Oj (i+1) r s hl' id h2;rw [show i+1+id=i+(id+1) by omega] at this;simp only [cV];split
   ·exact this
   ·simp only [qAo,not_or];exact ⟨by omega,this⟩
 | i,[],_::_,hl,_,_=>by simp at hl
 | i,_::_,[],hl,_,_=>by simp at hl
mutual
theorem qi:∀ (x y:PV),jB x y=true→x=y
 | .bool a,y,h=>by cases y<;>simp [jB] at h;rw [h]
 | .int k a,y,h=>by cases y<;>simp [jB] at h;rw [h.1,h.2]
 | .nilp,y,h=>by cases y<;>simp [jB] at h;rfl
 | .nils,y,h=>by cases y<;>simp [jB] at h;rfl
 | .emp,y,h=>by cases y<;>simp [jB] at h;rfl
 | .nilf,y,h=>by cases y<;>simp [jB] at h;rfl
 | .mt a,y,h=>by cases y<;>simp [jB] at h;rw [h]
 | .ptr ..,y,h=>by cases y<;>simp [jB] at h;rw [h.1,h.2.1,h.2.2.1,h.2.2.2]
 | .own ..,y,h=>by cases y<;>simp [jB] at h;rw [h.1,h.2.1,h.2.2.1,h.2.2.2.1,h.2.2.2.2]
 | .sub ..,y,h=>by cases y<;>simp [jB] at h;rw [h.1,h.2.1,h.2.2.1,h.2.2.2.1,h.2.2.2.2.1,h.2.2.2.2.2]
 | .eptr r i o,y,h=>by cases y<;>simp [jB] at h;rw [Aa _ _ h.1,h.2.1,h.2.2]
 | .data a,y,h=>by cases y<;>simp only [jB,gE] at h;rw [Aa _ _ h]
 | .agg a,y,h=>by cases y<;>simp only [jB,gE] at h;rw [Aa _ _ h]
 | .tup a,y,h=>by cases y<;>simp only [jB,gE] at h;rw [Aa _ _ h]
 | .fn f a b,y,h=>by
  cases y with
  | fn f' a' b' =>simp only [jB,bO] at h;rw [qe h.1,Aa _ _ h.2.1,Aa _ _ h.2.2]
  | _=>simp [jB] at h
theorem Aa:∀ (x y:List PV),gP x y=true→x=y
 | [],y,h=>by cases y<;>simp [gP] at h;rfl
 | x::a,y,h=>by
  cases y with
  | nil=>simp [gP] at h
  | cons z b =>simp only [gP,bO] at h;rw [qi _ _ h.1,Aa _ _ h.2]
end
theorem qj {a b:HB} (h:sR a b=true):a=b:=by obtain ⟨f1,p1,e1,r1⟩:=a;obtain ⟨f2,p2,e2,r2⟩:=b;simp only [sR,bO,beq_iff_eq] at h;obtain ⟨h1,h2,h3,h4⟩:=h;rw [h1,h2,h3,Aa _ _ h4]
theorem JY:∀ (i:Nat) (H H1:Hp) (id:Nat),i+id∉cV i H H1→H1[id]?=H[id]?
 | _,[],[],id,_=>rfl
 | i,a::r,b::s,id,h=>by
  simp only [cV] at h
  cases id with
  | zero=>
   split at h
   ·rename_i e;simp [qj e]
   ·simp at h
  | succ id=>
   have:i+1+id∉cV (i+1) r s:=by
    rw [show i+1+id=i+(id+1) by omega];split at h
    ·exact h
    ·exact fun hm=>h (gO _ hm)
   simpa using JY (i+1) r s id this
 | i,_::r,[],id,h=>by
  simp only [cV] at h
  cases id with
  | zero=>simp at h
  | succ id=>
   have:i+1+id∉cV (i+1) r []:=by rw [show i+1+id=i+(id+1) by omega];exact fun hm=>h (gO _ hm)
   simpa using JY (i+1) r [] id this
 | i,[],_::s,id,h=>by
  simp only [cV,sS] at h
  cases id with
  | zero=>simp at h
  | succ id=>
   have:i+1+id∉cV (i+1) [] s:=by rw [show i+1+id=i+(id+1) by omega];exact fun hm=>h (gO _ hm)
   simpa using JY (i+1) [] s id this
theorem YE {o:AO} {S1:aD×Hp} (h:ygM E call o (F,H)=some S1) (S':aD×Hp) (hag:∀ l,RdP ((ydd E F H o).tight H S1.2) l→look S' l=look (F,H) l) :
  ∃ T',ygM E call o S'=some T'∧(∀ l,WrP ((ydd E F H o).tight H S1.2) l→look T' l=look S1 l)∧(∀ l,¬WrP ((ydd E F H o).tight H S1.2) l→look T' l=look S' l):=by
 unfold FP.tight at hag ⊢
 cases ha:(ydd E F H o).all with
 | false =>rw [ha] at hag;simp only [gE,if_false] at hag ⊢;exact YD h S' hag
 | true=>
  rw [ha] at hag;simp only [if_true] at hag ⊢;have hlen:S'.2.length=H.length:=by
   have:=hag .len (.inl rfl);simpa [look] using this
  have hbk:∀ id:Nat,S'.2[id]?=H[id]?:=by
   intro id
   by_cases hid:id<H.length
   ·have:=hag (.bk id) (.inl (qY.2 hid));simpa [look] using this
   ·rw [jI (by omega),jI (by omega)]
  obtain ⟨T',h1,h2,h3⟩:=YD h S' fun l hl=>by
   cases l with
   | sl s=>exact hag (.sl s) hl
   | bk id=>simp [look,hbk id]
   | len=>simp [look,hlen]
  refine ⟨T',h1,fun l hl=>?_,fun l hl=>?_⟩
  ·cases l with
   | sl s=>exact h2 (.sl s) hl
   | bk id=>exact h2 (.bk id) (.inr ha)
   | len=>exact h2 .len (.inr ha)
  ·cases l with
   | sl s=>exact h3 (.sl s) hl
   | bk id=>
    have e1:=h2 (.bk id) (.inr ha);have hn:id∉cV 0 H S1.2:=fun hm=>hl (.inl hm)
    have e2:=JY 0 H S1.2 id (by rw [iK];exact hn);rw [e1];simp only [look];rw [e2,hbk id]
   | len=>exact absurd (.inl rfl) hl
def stAt (E:Env) (call:Nat→List PV→Hp→Option (PV×Hp)):List AO→Nat→aD×Hp→aD×Hp
 | [],_,S=>S
 | _::_,0,S=>S
 | o::r,i+1,S=>match ygM E call o S with
  | some S'=>stAt E call r i S'
  | none=>S
theorem Ok:∀ (l:List AO) (F:aD) (H:Hp) (F':aD) (H':Hp) (ps:List FP),yjL E call l F H=some (F',H',ps) →
  ps.length=l.length∧stAt E call l 0 (F,H)=(F,H)∧stAt E call l l.length (F,H)=(F',H') ∧
  ∀ (i:Nat) (o:AO),l[i]?=some o→ygM E call o (stAt E call l i (F,H))=some (stAt E call l (i+1) (F,H))∧ps[i]?=some ((ydd E (stAt E call l i (F,H)).1 (stAt E call l i (F,H)).2 o).tight (stAt E call l i (F,H)).2 (stAt E call l (i+1) (F,H)).2)
 | [],F,H,F',H',ps,h=>by simp only [yjL,bT,Prod.mk.injEq] at h;obtain ⟨rfl,rfl,rfl⟩:=h;exact ⟨rfl,rfl,rfl,fun i o e=>by simp at e⟩
 | o::r,F,H,F',H',ps,h=>by
  simp only [yjL] at h;split at h
  ·rename_i F1 H1 hs;split at h
   ·rename_i F2 H2 ps' hr
    cases h
    obtain ⟨h1,h2,h3,h4⟩:=Ok r F1 H1 F' H' ps' hr;have hs':ygM E call o (F,H)=some (F1,H1):=hs;refine ⟨by simp [h1],rfl,by simp only [kI,stAt,hs'];exact h3,fun i o' e=>?_⟩
    cases i with
    | zero=>
     simp only [yS,bT] at e;subst e;have e0:stAt E call (o::r) 0 (F,H)=(F,H):=rfl;have e1:stAt E call (o::r) (0+1) (F,H)=(F1,H1):=by simp only [stAt,hs'];exact h2
     rw [e0,e1];exact ⟨hs',rfl⟩
    | succ i=>
     simp only [FW] at e;obtain ⟨h5,h6⟩:=h4 i o' e;have e1:∀ k,stAt E call (o::r) (k+1) (F,H)=stAt E call r k (F1,H1):=fun k=>by simp only [stAt,hs']
     rw [e1,e1];exact ⟨h5,by simpa using h6⟩
   ·cases h
  ·cases h
theorem Ab {a b:List Nat} (h:jV a b=false):∀ s∈a,s∉b:=by
 induction a with
 | nil=>intro s hs;simp at hs
 | cons x r ih=>
  simp only [jV,wL] at h;intro s hs;rcases qAo.1 hs with rfl | hs
  ·intro hb;have:=h.1;simp [hb] at this
  ·exact ih h.2 s hs
theorem YF {p q:FP} (h:vH p q=false):∀ l,¬(WrP p l∧(RdP q l∨WrP q l))∧¬(WrP q l∧RdP p l):=by
 simp only [vH,wL] at h;obtain ⟨⟨⟨⟨⟨⟨⟨⟨h1,h2⟩,h3⟩,h4⟩,h5⟩,h6⟩,h7⟩,h8⟩,h9⟩:=h;have heapyP:p.heapy=false↔p.push=false∧p.all=false∧p.hr=[]∧p.hw=[]:=by
  simp [FP.heapy,and_assoc]
 have heapyQ:q.heapy=false↔q.push=false∧q.all=false∧q.hr=[]∧q.hw=[]:=by simp [FP.heapy,and_assoc]
 intro l
 cases l with
 | sl s=>
  refine ⟨fun ⟨a,b⟩=>?_,fun ⟨a,b⟩=>Ab h3 s a b⟩;rcases b with b | b
  ·exact Ab h1 s a b
  ·exact Ab h2 s a b
 | bk id=>
  have pall:p.all=true→q.push=false∧q.all=false∧q.hr=[]∧q.hw=[]:=fun e=>by rw [e] at h4;exact heapyQ.1 (by simpa using h4)
  have qall:q.all=true→p.push=false∧p.all=false∧p.hr=[]∧p.hw=[]:=fun e=>by rw [e] at h5;exact heapyP.1 (by simpa using h5)
  constructor
  ·rintro ⟨a,b⟩;simp only [WrP,RdP] at a b;rcases a with a | a
   ·rcases b with (b | b | b) | (b | b)
    ·exact Ab h7 id a b
    ·exact Ab h8 id a b
    ·have:=(qall b).2.2.2;rw [this] at a;cases a
    ·exact Ab h8 id a b
    ·have:=(qall b).2.2.2;rw [this] at a;cases a
   ·obtain ⟨q1,q2,q3,q4⟩:=pall a;rcases b with (b | b | b) | (b | b)
    ·rw [q3] at b;cases b
    ·rw [q4] at b;cases b
    ·rw [q2] at b;cases b
    ·rw [q4] at b;cases b
    ·rw [q2] at b;cases b
  ·rintro ⟨a,b⟩;simp only [WrP,RdP] at a b;rcases a with a | a
   ·rcases b with b | b | b
    ·exact Ab h9 id a b
    ·exact Ab h8 id b a
    ·have:=(pall b).2.2.2;rw [this] at a;cases a
   ·obtain ⟨q1,q2,q3,q4⟩:=qall a;rcases b with b | b | b
    ·rw [q3] at b;cases b
    ·rw [q4] at b;cases b
    ·rw [q2] at b;cases b
 | len=>
  have pall:p.all=true→q.push=false∧q.all=false:=fun e=>by rw [e] at h4;have:=heapyQ.1 (by simpa using h4);exact ⟨this.1,this.2.1⟩
  have qall:q.all=true→p.push=false∧p.all=false:=fun e=>by rw [e] at h5;have:=heapyP.1 (by simpa using h5);exact ⟨this.1,this.2.1⟩
  have hpp:p.push=true→q.push=true→False:=fun a b=>by rw [a,b] at h6;cases h6
  have both:WrP p .len→WrP q .len→False:=by
   simp only [WrP];rintro (a | a) (b | b)
   ·exact hpp a b
   ·have:=(qall b).1;rw [a] at this;cases this
   ·have:=(pall a).1;rw [b] at this;cases this
   ·have:=(pall a).2;rw [b] at this;cases this
  exact ⟨fun ⟨a,b⟩=>both a (b.elim id id),fun ⟨a,b⟩=>both b a⟩
theorem Ol {ps:List FP}:∀ (pairs:List (Nat×Nat)),yid ps pairs=true→∀ i j,(i,j)∈pairs→∃ p q,ps[i]?=some p∧ps[j]?=some q∧vH p q=false
 | [],_,i,j,h=>by simp at h
 | (a,b)::r,h,i,j,hm=>by
  simp only [yid,bO] at h;rcases qAo.1 hm with e | hm
  ·cases e
   have h1:=h.1;split at h1
   ·rename_i p q hp hq;exact ⟨p,q,hp,hq,by simpa using h1⟩
   ·cases h1
  ·exact Ol r h.2 i j hm
theorem JZ {d k:Nat} {x:FV}:∀ (F:aD),noBp F d=true→(∀ off,x≠.bp d off)→noBp (aF F k x) d=true
 | [],_,hx=>by
  cases x with
  | bp s off=>simp only [aF,noBp,Bool.and_true,jR,beq_eq_false_iff_ne];exact fun e=>hx off (by rw [e])
  | _=>simp [aF,noBp]
 | (j,y)::r,h,hx=>by
  have hy:noBp r d=true∧∀ (z:FV),noBp ((j,z)::r) d=(match z with | .bp s _=>!(s==d)&&noBp r d | _=>noBp r d):=by
   refine ⟨?_,fun z=>by cases z<;>rfl⟩
   cases y<;>simp [noBp] at h<;>first | exact h | exact h.2
  have hput:∀ (j:Nat) (r:aD),noBp r d=true→noBp ((j,x)::r) d=true:=by
   intro j r hr
   cases x with
   | bp s off =>simp only [noBp,hr,Bool.and_true,jR,beq_eq_false_iff_ne];exact fun e=>hx off (by rw [e])
   | _=>simpa [noBp] using hr
  simp only [aF];split
  ·exact hput _ _ h
  ·split
   ·exact hput _ _ hy.1
   ·have ih:=JZ (k:=k) r hy.1 hx
    cases y<;>simp [noBp] at h ⊢ <;> first | exact ih | exact ⟨h.1,ih⟩
theorem YG {d:Nat}:∀ {l:List AO} {o:AO},o∈l→o.dst=some d→1≤yfk d l
 | x::r,o,h,hd=>by
  simp only [yfk];rcases qAo.1 h with rfl | h
  ·simp [hd]
  ·have:=YG h hd;omega
theorem Om:∀ (l:List AO) (F:aD) (H:Hp) (T:aD×Hp),ylB (ygM E call) l (F,H)=some T →
  (∀ o∈l,∀ d,ypT o=some d→noBp F d=true∧fget F d=none∧yfk d l=1)→ybo E call l F H=some T
 | [],F,H,T,h,_=>by simpa [ylB,ybo] using h
 | o::r,F,H,T,h,hf=>by
  simp only [ylB] at h;split at h
  ·rename_i S1 hs;obtain ⟨F1,H1⟩:=S1;have hboth:yez E call F H o=some (F1,H1)∧∀ d,noBp F d=true→fget F d=none→o.dst≠some d→noBp F1 d=true∧fget F1 d=none:=by
    unfold ygM at hs;simp only [] at hs;unfold yez;split at hs
    ·cases hs
    ·rename_i hg;refine ⟨hs,fun d h1 h2 h3=>?_⟩
     cases hdst:o.dst with
     | none=>rw [hdst] at hs;cases hs;exact ⟨h1,h2⟩
     | some d' =>rw [hdst] at hs;cases hs;refine ⟨JZ _ h1 (fun off e=>by cases e),?_⟩;rw [bI,WN (fun e=>h3 (by rw [hdst,e]))];exact h2
    ·rename_i hg;split at hs
     ·cases hs
     ·rename_i out x bx H2 hout;simp only [mI] at hs ⊢;obtain ⟨F2,hp,e⟩:=hs;refine ⟨⟨F2,qd hp fun row d hx hd=>?_,e⟩,fun d h1 h2 h3=>?_⟩
      ·obtain ⟨hb1,hb2⟩:=pq hout hx;have hb2':bx=none:=hb2;rw [hb2'];exact (hf o (by simp) d (hb1.trans hd)).1
      ·cases e
       have hbx:noBp (jA F bx) d=true∧fget (jA F bx) d=none:=by
        cases bx with
        | none=>exact ⟨h1,h2⟩
        | some y=>
         obtain ⟨s,row⟩:=y;obtain ⟨_,row0,hrow0⟩:=Yt hout rfl;have hne:d≠s:=fun e=>by rw [e,hrow0] at h2;cases h2
         refine ⟨JZ _ h1 (fun off e=>by cases e),?_⟩;simp only [jA,bI,WN hne];exact h2
       have hxbp:∀ off,x≠some (.bp d off):=by
        intro off e;rcases yKb hout e with ⟨row,hr⟩ | hr
        ·rw [hr] at h2;cases h2
        ·rw [hr] at h1;cases h1
       cases hdst:o.dst with
       | none=>
        rw [hdst] at hp
        cases x with
        | none=>simp only [ygU,bT] at hp;subst hp;exact hbx
        | some fv=>cases fv<;>simp only [ygU,bT] at hp<;>first | (subst hp;exact hbx) | cases hp
       | some d'=>
        have hne:d≠d':=fun e=>h3 (by rw [hdst,e])
        rw [hdst] at hp
        cases x with
        | none =>simp only [ygU,bT] at hp;subst hp;exact ⟨Gf _ hbx.1,by rw [wT,WN hne];exact hbx.2⟩
        | some fv =>simp only [ygU,bT] at hp;subst hp;exact ⟨JZ _ hbx.1 (fun off e=>hxbp off (by rw [e])),by rw [bI,WN hne];exact hbx.2⟩
   obtain ⟨hstep,hkeep⟩:=hboth;simp only [ybo,hstep];refine Om r F1 H1 T h fun o' ho' d hd=>?_
   obtain ⟨h1,h2,h3⟩:=hf o' (by simp [ho']) d hd;have hdst:o'.dst=some d:=by
    unfold ypT at hd;split at hd<;>first | exact hd | cases hd
   have hpos:=YG ho' hdst;simp only [yfk] at h3;have hne:o.dst≠some d:=by intro e;rw [WM e] at h3;omega
   rw [WN hne] at h3;obtain ⟨h4,h5⟩:=hkeep d h1 h2 hne;exact ⟨h4,h5,by omega⟩
  ·cases h
theorem Oo {all:List AO}:∀ (l:List AO),wS F all l=true→∀ o∈l,∀ d,ypT o=some d→noBp F d=true∧fget F d=none∧yfk d all=1
 | [],_,o,h,_,_=>by simp at h
 | x::r,h,o,ho,d,hd=>by
  simp only [wS,bO] at h;rcases qAo.1 ho with rfl | ho
  ·have h1:=h.1;rw [hd] at h1;simp only [bO,Option.isNone_iff_eq_none,beq_iff_eq] at h1;exact ⟨h1.1.1,h1.1.2,h1.2⟩
  ·exact Oo r h.2 o ho d hd
theorem GA (d:Nat) (l:List AO):yfk d l=l.countP (fun o=>o.dst==some d):=by
 induction l with
 | nil=>rfl
 | cons o r ih=>
  simp only [yfk,List.countP_cons,ih]
  by_cases h:o.dst=some d
  ·simp [h];omega
  ·simp [h]
end
theorem Oq (o:Oper):wW o=tA o:=by
 unfold wW tA;congr 1
 funext e
 unfold Region.binds
 cases e.ground<;>simp
def DO (es acc:List Nat) (s:Nat):Nat:=es.foldl (fun s i=>s|||2 ^ i|||acc.getD i 0) s
theorem yBG (acc:List Nat) (b:Nat):∀ (es:List Nat) (s:Nat),(DO es acc s).testBit b=true→s.testBit b=true∨∃ i∈es,b=i∨(acc.getD i 0).testBit b=true
 | [],s,h=>.inl h
 | i::r,s,h=>by
  have h':(DO r acc (s|||2 ^ i|||acc.getD i 0)).testBit b=true:=h;rcases yBG acc b r _ h' with h1 | ⟨j,h1,h2⟩
  ·rw [Nat.testBit_or,Nat.testBit_or,nR,nR] at h1;rcases h1 with (h1 | h1) | h1
   ·exact .inl h1
   ·right;rw [Nat.testBit_two_pow] at h1;exact ⟨i,by simp,.inl (by simpa using (of_decide_eq_true h1).symm)⟩
   ·exact .inr ⟨i,by simp,.inr h1⟩
  ·exact .inr ⟨j,by simp [h1],h2⟩
theorem Bj:∀ (l:List Oper) (acc:List Nat),(iO l acc).length=acc.length+l.length
 | [],acc=>by simp [iO]
 | o::r,acc=>by simp only [iO];rw [Bj r];simp;omega
theorem Ot:∀ (l:List Oper) (acc:List Nat) (e:Nat),e<acc.length→(iO l acc).getD e 0=acc.getD e 0
 | [],acc,e,_=>rfl
 | o::r,acc,e,h=>by simp only [iO];rw [Ot r _ e (by simp;omega)];simp [pF,h]
theorem YH:∀ (l:List Oper) (acc:List Nat) (k:Nat) (o:Oper),l[k]?=some o→∃ acc',(iO l acc).getD (acc.length+k) 0=DO (wW o) acc' 0∧∀ e,(acc'.getD e 0≠0→e<acc.length+k)∧(e<acc.length+k→acc'.getD e 0=(iO l acc).getD e 0)
 | [],acc,k,o,h=>by simp at h
 | x::r,acc,k,o,h=>by
  cases k with
  | zero=>
   simp only [yS,bT] at h;subst h;refine ⟨acc,?_,fun e=>⟨fun hne=>?_,fun he=>(Ot _ acc e (by simpa using he)).symm⟩⟩
   ·simp only [iO,uY];rw [Ot r _ acc.length (by simp)];simp [DO]
   ·rcases qA4 e acc.length with h1 | h1
    ·simpa using h1
    ·rw [eQ,jI h1] at hne;simp at hne
  | succ k=>
   simp only [FW] at h;obtain ⟨acc',h1,h2⟩:=YH r (acc++[DO (wW x) acc 0]) k o h;have hl:(acc++[DO (wW x) acc 0]).length+k=acc.length+(k+1):=by simp;omega
   rw [hl] at h1 h2;exact ⟨acc',h1,h2⟩
theorem Ou {l:List Oper} (h:Dy l=true):∀ (i:Nat) (o:Oper),l[i]?=some o→∀ k∈wW o,k<i:=by
 intro i o ho k hk;simp only [Dy,yW,qY] at h;have hi:i<l.length:=by
  rcases qA4 i l.length with h1|h1
  ·exact h1
  ·rw [jI h1] at ho;cases ho
 have:=h i hi;rw [ho] at this;simp only [yW,decide_eq_true_eq] at this;exact this k hk
theorem DP {ops:Array Oper} {σ:List Nat} (hback:Dy ops.toList=true) (hσ:∀ a j b,σ=a++j::b→∀ o,ops[j]?=some o→∀ k∈tA o,k∈a) :
  ∀ (j:Nat) (a b:List Nat) (i:Nat),σ=a++j::b→j<ops.size→((iO ops.toList []).getD j 0).testBit i=true→i∈a:=by
 intro j;induction j using Nat.strongRecOn with
 | _ j ih=>
  intro a b i e hj hbit;have hoj:ops.toList[j]?=some ops[j]:=by simp [hj]
  obtain ⟨acc',h1,h2⟩:=YH ops.toList [] j _ hoj;simp only [Di,iK] at h1 h2;rw [h1] at hbit;rcases yBG acc' i (wW ops[j]) 0 hbit with h3 | ⟨k,hk,h3⟩
  ·simp at h3
  ·have hka:k∈a:=hσ a j b e ops[j] (by simp [hj]) k (by rw [← Oq];exact hk);rcases h3 with rfl | h3
   ·exact hka
   ·have hkj:k<j:=Ou hback j _ hoj k hk;obtain ⟨a1,a2,ea⟩:=Ga hka;rw [(h2 k).2 hkj] at h3;have:=ih k hkj a1 (a2++j::b) i (by rw [e,ea];simp) (by omega) h3;rw [ea];simp [this]
theorem DQ {cl:List Nat} {i j:Nat} (hij:i<j) (hj:j<cl.length) (hb:(cl.getD j 0).testBit i=false):(i,j)∈sY cl:=by simp only [sY,List.mem_flatMap,qY,List.mem_filterMap];exact ⟨j,hj,i,hij,by rw [hb];rfl⟩
section
variable {P:Program} {E:Env}
theorem YI (hE:EO P E) (hm:P.follows .mixedOrders=true):∀ call,yba P E call→Gt P E call:=by
 intro call hc ro nt base g F H a w loc ops l F' H' id hro hl hd hb h hr hL hdf;obtain ⟨hlen,hget⟩:=sZ _ _ hl;have hsz:l.length=ops.size:=by simpa using hlen
 refine wpIn_region_draw fun t=>?_
 have hsched:Region.schedule (P.follows .mixedOrders) ops t=Region.linearise.go .any ops ops.size t (Array.replicate ops.size false) []:=by rw [hm];rfl
 rw [hsched];have hcount:(List.range ops.size).countP (fun i=>!(Array.replicate ops.size false).getD i true)≤ops.size:=by
  have:=List.countP_le_length (p:=fun i=>!(Array.replicate ops.size false).getD i true) (l:=List.range ops.size);simpa using this
 obtain ⟨hmem,hnd,hord⟩:=Yl ops (fun i o ho k hk=>Ou hb i o (by simpa using ho) k (by rw [Oq];exact hk)) ops.size t (Array.replicate ops.size false) (by simp) hcount;revert hmem hnd hord;generalize Region.linearise.go .any ops ops.size t (Array.replicate ops.size false) []=σ;intro hmem hnd hord;have hmem':∀ i,i∈σ↔i<ops.size:=by
  intro i;rw [← hmem i];refine ⟨fun x=>x.1,fun x=>⟨x,?_⟩⟩;simp [x]
 have hord':∀ a j b,σ=a++j::b→∀ o,ops[j]?=some o→∀ k∈tA o,k∈a:=by
  intro a j b e o ho k hk;rcases hord a j b e o ho k hk with h1 | h1
  ·simp only [sJ,Array.getElem?_replicate] at h1;split at h1<;>simp at h1
  ·exact h1
 have hperm:σ.Perm (List.range ops.size):=(List.perm_ext_iff_of_nodup hnd List.nodup_range).2 fun i=>by rw [hmem' i,qY]
 have hlperm:(σ.filterMap (l[·]?)).Perm l:=by have:=hperm.filterMap (l[·]?);rw [← hsz,Bg] at this;exact this
 have hrd:Rel E nt g F H a.tmps { w with drawn:=w.drawn+1 }:=hr.drew;have hclean:∀ (l:List AO) (F:aD) s x,fget (nF F l) s=some x→fget F s=some x:=by
  intro l;induction l with
  | nil=>intro F s x e;exact e
  | cons o r ih=>
   intro F s x e;simp only [nF] at e;split at e
   ·rename_i d _;have:=ih _ s x e;rw [wT] at this;split at this
    ·cases this
    ·exact Jm F d s x this
   ·exact ih _ s x e
 cases ht:Dr l (sY (iO ops.toList [])) with
 | true=>
  obtain ⟨hp,s,t0,t1,t2,t3,d0,d1,esz,by_,pu,k,z,rfl,hdj⟩:=py ht;have hrun:ybo E call (AT s t0 t1 t2 t3 d0 d1 esz by_ pu k z) F H=some (F',H'):=by
   unfold yiz at h;rcases hp with hp | hp
   ·rw [hp] at h ht;dsimp only [Jj] at h ht;rw [ht] at h;exact h
   ·rw [hp] at h ht;dsimp only [Dq] at h ht;rw [ht] at h;exact h
  have h6:ops.size=6:=by rw [← hsz];rfl
  have hσl:σ.length=6:=by rw [hperm.length_eq,List.length_range,h6]
  have hσ:σ∈wY:=by
   rw [← qa,← hσl];refine YB σ [] (by simpa using hnd) (fun i hi=>by have:=(hmem' i).1 hi;omega) fun a j b e i hij hf=>?_
   have hj:j<ops.size:=(hmem' j).1 (by rw [e];simp);rw [pH];refine DP hb hord' j a b i e hj ?_
   cases hbit:((iO ops.toList []).getD j 0).testBit i
   ·have:=DQ hij (by rw [Bj];simpa using hj) hbit;unfold Gz at hf;rw [AM,decide_eq_false_iff_not] at hf;exact absurd (pz hp _ this) hf
   ·rfl
  have hlow:∀ (id:Nat) (hb:HB),H[id]?=some hb→ybg (fun _=>true) (fun id=>Nat.blt id H.length) hb.rows=true:=fun id hb e=>by
   obtain ⟨b,o,hk⟩:=hr.heap id hb e;exact Yv _ _ _ _ hk.rows
  rcases yI1 (E:=E) (call:=call) hrun hdj hσ with ⟨F2,h1,h3⟩|⟨F2,Z,h1,hH,hZ,h3⟩
  ·refine Gu (F':=F2) (H':=H') hE hc hl hd hro σ g F H a _ (fun i hi=>(hmem' i).1 hi) hrd (hL.nx (Nx.drew g H w)) h1 ?_;intro a' w' g' d1 n1 r1;exact ⟨trivial,g',(Nx.drew g H w).trans n1,r1.less fun s x hs=>by rw [h3 s];exact hs,(hdf.nx ((Nx.drew g H w).trans n1)).go d1⟩
  ·refine Gu (F':=F2) (H':=H') hE hc hl hd hro σ g F H a _ (fun i hi=>(hmem' i).1 hi) hrd (hL.nx (Nx.drew g H w)) h1 ?_;intro a' w' g' d1 n1 r1;have nx:=((Nx.drew g H w).trans n1).swap (n:=H.length) rfl;refine ⟨trivial,g'.swp H.length,nx,r1.swap hH rfl hZ hlow fun s fv e=>?_,(hdf.nx nx).go d1⟩;rcases h3 s fv e with ⟨e1,e2⟩ | e1 | e1
   ·refine .inl ⟨e1,?_⟩;rcases e2 with e2 | ⟨q,n,rfl⟩
    ·exact px (hr.frame s fv e2)
    ·rfl
   ·exact .inr (.inl e1)
   ·exact .inr (.inr e1)
 | false=>
 have hrun:∃ F0 F2 H2,(∀ s x,fget F0 s=some x→fget F s=some x)∧ybo E call (σ.filterMap (l[·]?)) F0 H=some (F2,H2)∧H2=H'∧∀ s,fget F2 s=fget F' s:=by
  unfold yiz at h
  cases hp:sY (iO ops.toList []) with
  | nil=>
   rw [hp] at h;have hsort:σ=List.range ops.size:=by
    have key:∀ (τ:List Nat) (k:Nat),(∀ a j b,τ=a++j::b→∀ i,k≤i→i<j→i∈a)→τ.Nodup→(∀ i,i∈τ↔k≤i∧i<ops.size)→k≤ops.size→τ=List.range' k (ops.size-k):=by
     intro τ;induction τ with
     | nil=>
      intro k _ _ h3 hk;have:¬(k<ops.size):=fun hlt=>by have:=(h3 k).2 ⟨bW k,hlt⟩;cases this
      have:ops.size-k=0:=by omega
      rw [this];rfl
     | cons x τ ih=>
      intro k h1 h2 h3 hk;have hx:=(h3 x).1 (by simp);have hxk:x=k:=by
       rcases qA4 k x with hlt|hge
       ·have:=h1 [] x τ rfl k (bW k) hlt;cases this
       ·omega
      subst hxk;have:ops.size-x=(ops.size-(x+1))+1:=by omega
      rw [this,List.range'_succ];congr 1;rw [zA] at h2;refine ih (x+1) (fun a j b e i hi hij=>?_) h2.2 (fun i=>?_) (by omega)
      ·have:=h1 (x::a) j b (by rw [e];rfl) i (by omega) hij;rcases qAo.1 this with e2 | e2
       ·omega
       ·exact e2
      ·have h4:=h3 i;rw [qAo] at h4;constructor
       ·intro hi;have h5:=h4.1 (.inr hi);have:i≠x:=fun e=>h2.1 (e ▸ hi)
        omega
       ·intro hi;rcases h4.2 ⟨by omega,hi.2⟩ with e | e
        ·omega
        ·exact e
    have:=key σ 0 (fun a j b e i _ hij=>?_) hnd (fun i=>by rw [hmem' i];simp) (kF _)
    ·rw [this,Nat.sub_zero,CZ]
    ·have hj:j<ops.size:=(hmem' j).1 (by rw [e];simp);refine DP hb hord' j a b i e hj ?_
     cases hbit:((iO ops.toList []).getD j 0).testBit i
     ·have:=DQ hij (by rw [Bj];simpa using hj) hbit;rw [hp] at this;cases this
     ·rfl
   rw [hsort,← hsz,Bg];exact ⟨F,F',H',fun _ _ e=>e,h,rfl,fun _=>rfl⟩
  | cons pr prs=>
   rw [hp] at h ht;simp only [ht,cond_false] at h;split at h
   ·rename_i F1 H1 ps hps;split at h
    ·rename_i hok
     cases h
     rw [← hp] at hok;have hcl:=hclean l F;obtain ⟨F0,hF0⟩:∃ F0,F0=nF F l:=⟨_,rfl⟩;rw [← hF0] at hps hok hcl;obtain ⟨s1,s2,s3,s4⟩:=Ok _ _ _ _ _ _ hps;let st:Nat→aD×Hp:=fun i=>stAt E call l i (F0,H)
     let R:Nat→Loc→Prop:=fun i x=>∃ p,ps[i]?=some p∧RdP p x
     let W:Nat→Loc→Prop:=fun i x=>∃ p,ps[i]?=some p∧WrP p x
     have hlocal:Local look (ygM E call) l st R W:=by
      refine ⟨fun i o ho=>?_,fun i o ho S' hag=>?_⟩
      ·exact (s4 i o ho).1
      ·obtain ⟨h1,h2⟩:=s4 i o ho;obtain ⟨T',k1,k2,k3⟩:=YE h1 S' (fun x hx=>hag x ⟨_,h2,hx⟩);refine ⟨T',k1,fun x ⟨p,e,hx⟩=>?_,fun x hx=>k3 x fun hw=>hx ⟨_,h2,hw⟩⟩;rw [h2] at e;cases e;exact k2 x hx
     have hfree:∀ i j,i<j→(i∈σ∧j∈([]:List Nat)∨(∃ a b c,σ=a++j::(b++i::c)))→mQ R W i j:=by
      intro i j hij hcase;rcases hcase with ⟨_,hx⟩ | ⟨a,b,c,e⟩
      ·cases hx
      ·have hj:j<ops.size:=(hmem' j).1 (by rw [e];simp);have hbit:((iO ops.toList []).getD j 0).testBit i=false:=by
        cases hbit:((iO ops.toList []).getD j 0).testBit i
        ·rfl
        ·have hia:=DP hb hord' j a _ i e hj hbit;rw [e,Dc] at hnd;exact absurd rfl (hnd.2.2 i hia i (by simp))
       obtain ⟨p,q,hp1,hq1,hcl⟩:=Ol _ hok.1 i j (DQ hij (by rw [Bj];simpa using hj) hbit);intro x;obtain ⟨f1,f2⟩:=YF hcl x;refine ⟨fun ⟨⟨p',e1,w1⟩,r1⟩=>f1 ?_,fun ⟨⟨q',e1,w1⟩,⟨p',e2,r1⟩⟩=>f2 ?_⟩
       ·rw [hp1] at e1;cases e1;refine ⟨w1,r1.imp (fun ⟨q',e2,r2⟩=>?_) (fun ⟨q',e2,r2⟩=>?_)⟩
        ·rw [hq1] at e2;cases e2;exact r2
        ·rw [hq1] at e2;cases e2;exact r2
       ·rw [hq1] at e1;cases e1;rw [hp1] at e2;cases e2;exact ⟨w1,r1⟩
     obtain ⟨T',k1,k2⟩:=hlocal.perm σ [] (F0,H) (by simpa using hnd) (fun i=>by rw [hsz,pH,hmem' i]) hfree (fun x _=>by show look (F0,H) x=look (st 0) x;rw [show st 0=(F0,H) from s2]) (fun x i hi=>by cases hi);have hfin:st l.length=(F',H'):=s3;rw [hfin] at k2;have hfresh:=Om _ F0 H T' k1 fun o ho d hdo=>by
      obtain ⟨b1,b2,b3⟩:=Oo l hok.2 o (hlperm.mem_iff.1 ho) d hdo;refine ⟨b1,b2,?_⟩;rw [GA,hlperm.countP_eq,← GA];exact b3
     refine ⟨F0,T'.1,T'.2,hcl,hfresh,qV fun k=>?_,fun s=>?_⟩
     ·have:=k2 (.bk k);simpa [look] using this
     ·have:=k2 (.sl s);simpa [look] using this
    ·cases h
   ·cases h
 obtain ⟨F0,F2,H2,h0,h1,rfl,h3⟩:=hrun;refine Gu (F':=F2) (H':=H2) hE hc hl hd hro σ g F0 H a _ (fun i hi=>(hmem' i).1 hi) (hrd.less h0) (hL.nx (Nx.drew g H w)) h1 ?_;intro a' w' g' d1 n1 r1;exact ⟨trivial,g',(Nx.drew g H w).trans n1,r1.less fun s x hs=>by rw [h3 s];exact hs,(hdf.nx ((Nx.drew g H w).trans n1)).go d1⟩
theorem DR (hE:EO P E) (hm:P.follows .mixedOrders=true) (n:Nat):yba P E (ybu E n):=
 (Yj (fun _ hE=>YI hE hm) n E hE).2.2.2
end
def topV (E:Env) (n f:Nat) (args:List PV):Option PV:=
 match ybu E n f args [] with
 | some (r,H)=>kK (E.nl f) H r
 | none=>none
section
variable {P:Program} {E:Env}
theorem YJ (hE:EO P E) (hm:P.follows .mixedOrders=true) {n f:Nat} {args:List PV} {q:PV} (h:topV E n f args=some q):oV P E.glob f args q:=by
 intro I w vs himm hgl hv;unfold topV at h;split at h
 ·rename_i r H hin;exact run_pure (DR hE hm n) himm hgl hv hin h
 ·cases h
def yzj:List (Nat×AFn)→Nat→Option AFn
 | [],_=>none
 | (k,a)::r,n=>bif Nat.beq k n then some a else yzj r n
def Bk (P:Program):List (Nat×AFn)→Prop
 | []=>True
 | (n,a)::r=>(∃ f loc fg,P.funcs[n]?=some f∧mM P loc fg f=some a)∧Bk P r
theorem Ov:∀ (l:List (Nat×AFn)),Bk P l→∀ n a,yzj l n=some a→∃ f loc fg,P.funcs[n]?=some f∧mM P loc fg f=some a
 | [],_,_,_,h=>by simp [yzj] at h
 | (k,b)::r,hl,n,a,h=>by
  simp only [Bk] at hl;simp only [yzj] at h
  cases hc:Nat.beq k n with
  | true =>rw [hc] at h;simp only [cond_true,bT] at h;have:=dK hc;subst this;subst h;exact hl.1
  | false =>rw [hc] at h;exact Ov r hl.2 n a (by simpa using h)
def memN:List Nat→Nat→Bool
 | [],_=>false
 | k::r,n=>bif Nat.beq k n then true else memN r n
def u6 (n:Nat):PV:=.int .u64 (n:Int)
def sumC (add sub:Nat) (n:Nat) (az:List PV):Option PV:=
 match az with
 | [.int .u64 a,.int .u64 b,.int .u64 c]=>
  bif Nat.beq n add&&Nat.ble c.toNat 1 then some (.tup [u6 ((a.toNat+b.toNat+c.toNat)%18446744073709551616),u6 ((a.toNat+b.toNat+c.toNat)/18446744073709551616)])
  else bif Nat.beq n sub&&Nat.ble c.toNat 1 then some (.tup [u6 ((a.toNat+18446744073709551616-b.toNat-c.toNat)%18446744073709551616),u6 (bif Nat.ble (b.toNat+c.toNat) a.toNat then 0 else 1)])
  else none
 | _=>none
def GB:Array Value→Sem Value:=fun args=>do
 let (x, y, b) ← Extern.MathBitsCarry.three "Sub64" args
 pure (Extern.MathBitsCarry.pair ((x+Extern.MathBitsCarry.m64-y-b)%Extern.MathBitsCarry.m64) (if x<y+b then 1 else 0))
theorem qk (x y:Int) (b:Nat) (hb:b≤1) (w:World) :
  (GB #[.int .u64 x,.int .u64 y,.int .u64 b]).run P w =
   .ok (.tuple #[.int .u64 (((x.toNat+18446744073709551616-y.toNat-b)%18446744073709551616:Nat):Int),.int .u64 ((if x.toNat<y.toNat+b then 1 else 0:Nat):Int)]) w:=by
 have:b=0∨b=1:=by omega
 rcases this with rfl | rfl<;>rfl
theorem ql (x y:Int) (b:Nat) (hb:b≤1) (w:World) :
  (add64Entry #[.int .u64 x,.int .u64 y,.int .u64 b]).run P w =
   .ok (.tuple #[.int .u64 (((x.toNat+y.toNat+b)%18446744073709551616:Nat):Int),.int .u64 (((x.toNat+y.toNat+b)/18446744073709551616:Nat):Int)]) w:=by
 have:b=0∨b=1:=by omega
 rcases this with rfl | rfl<;>rfl
theorem YL {I:Nat→Prop} {w:World} {a b c:Int} {vs:List Value} (h:fW I w [.int .u64 a,.int .u64 b,.int .u64 c] vs):vs=[.int .u64 a,.int .u64 b,.int .u64 c]:=by simp only [fW,eU,RC,kJ,and_true] at h;obtain ⟨v,r,rfl,⟨rfl,_⟩,v2,r2,rfl,⟨rfl,_⟩,v3,r3,rfl,⟨rfl,_⟩,rfl⟩:=h;rfl
structure IsExtern (P:Program) (f:FuncId) (e:Array Value→Sem Value):Prop where
 h : ∃ fn, P.funcs[f]? = some fn ∧ (fn.name == "runtime.NumGoroutine") = false ∧ fn.body.isNone = true ∧ Extern.findNext fn = none ∧ Extern.find fn = some e
theorem IsExtern.run {f:FuncId} {e:Array Value→Sem Value} (h:IsExtern P f e) (args:Array Value) (w:World):(callFunc f args).run P w=((e args).run P w).andThen fun v w'=>.ok (.value v) w':=by obtain ⟨fn,h1,h2,h3,h4,h5⟩:=h.h;exact run_callFunc_extern h1 h2 h3 h4 h5 args w
theorem YM (n:Nat) (h:n<18446744073709551616):inK .u64 (n:Int):=by
 have h0:u64.min=0:=by decide
 have h1:u64.max=18446744073709551615:=by decide
 exact ⟨by rw [h0];omega,by rw [h1];omega⟩
theorem YN {G:Nat→Option PV} {f:FuncId} {az:List PV} {a b:Nat} (ha:a<18446744073709551616) (hb:b<18446744073709551616)
  (h:∀ (I:Nat→Prop) (w:World) (vs:List Value),fW I w az vs→(callFunc f vs.toArray).run P w=.ok (.value (.tuple #[.int .u64 (a:Int),.int .u64 (b:Int)])) w):oV P G f az (.tup [u6 a,u6 b]):=by
 intro I w vs _ _ hv;unfold kM;rw [h I w vs hv];refine ⟨Bel.refl _ _,?_⟩;simp only [VP,fW,eU,RC,u6];exact ⟨_,rfl,_,_,rfl,⟨rfl,YM a ha⟩,_,_,rfl,⟨rfl,YM b hb⟩,rfl⟩
theorem YO {G:Nat→Option PV} {add sub:Nat} (ha:IsExtern P add add64Entry) (hs:IsExtern P sub GB):∀ n az r,sumC add sub n az=some r→oV P G n az r:=by
 intro n az r h;unfold sumC at h;split at h
 ·rename_i a b c;have key:∀ (x y:Int) (I:Nat→Prop) (w:World) (vs:List Value),fW I w [.int .u64 a,.int .u64 b,.int .u64 c] vs→a.toNat<18446744073709551616∧b.toNat<18446744073709551616∧0≤c:=by
   intro x y I w vs hv;simp only [fW,eU,RC,inK] at hv;obtain ⟨v,r,-,⟨-,h1⟩,v2,r2,-,⟨-,h2⟩,v3,r3,-,⟨-,h3⟩,-⟩:=hv;have e1:u64.max=18446744073709551615:=by decide
   have e0:u64.min=0:=by decide
   rw [e1] at h1 h2;rw [e0] at h3;exact ⟨by omega,by omega,h3.1⟩
  cases h1:(Nat.beq n add&&Nat.ble c.toNat 1) with
  | true=>
   rw [h1] at h;simp only [cond_true,bT] at h;simp only [bO] at h1;have e:=dK h1.1;have hc:=yT h1.2;subst e;subst h;intro I w vs hI hgl hv;obtain ⟨la,lb,-⟩:=key 0 0 I w vs hv;refine YN (Nat.mod_lt _ (by omega)) (by omega) (fun I w vs hv=>?_) I w vs hI hgl hv;have h0:=(key 0 0 I w vs hv).2.2;have ec:c=(c.toNat:Int):=by omega
   rw [YL hv,ha.run,ec];exact WO (fun r=>Result.andThen r fun v w'=>Result.ok (Next.value v) w') (ql a b c.toNat hc w)
  | false=>
   rw [h1] at h;simp only [cond_false] at h
   cases h2:(Nat.beq n sub&&Nat.ble c.toNat 1) with
   | true=>
    rw [h2] at h;simp only [cond_true,bT] at h;simp only [bO] at h2;have e:=dK h2.1;have hc:=yT h2.2;subst e;subst h;refine YN (Nat.mod_lt _ (by omega)) (by cases Nat.ble (b.toNat+c.toNat) a.toNat<;>simp) (fun I w vs hv=>?_);have:(if a.toNat<b.toNat+c.toNat then 1 else 0:Nat)=(bif Nat.ble (b.toNat+c.toNat) a.toNat then 0 else 1):=by
     cases hh:Nat.ble (b.toNat+c.toNat) a.toNat with
     | true=>have:=yT hh;simp;omega
     | false=>
      have:¬(b.toNat+c.toNat≤a.toNat):=fun hle=>by rw [CY hle] at hh;cases hh
      simp;omega
    have h0:=(key 0 0 I w vs hv).2.2;have ec:c=(c.toNat:Int):=by omega
    rw [← this,YL hv,hs.run,ec];exact WO (fun r=>Result.andThen r fun v w'=>Result.ok (Next.value v) w') (qk a b c.toNat hc w)
   | false=>rw [h2] at h;cases h
 ·cases h
def qm (add sub:Nat) (tab:List (Nat×AFn)) (qui:List Nat):Env:={ glob:=fun _=>none,sum:=sumC add sub,fns:=yzj tab,frz:=fun _=>false,qui:=memN qui }
theorem qn {add sub:Nat} {tab:List (Nat×AFn)} {qui:List Nat} (ha:IsExtern P add add64Entry) (hs:IsExtern P sub GB) (ht:Bk P tab):EO P (qm add sub tab qui) where
 sum:=fun n az r h=>YO ha hs n az r h
 fns:=fun n fn h=>Ov tab ht n fn h
 eff:=fun _ _ _ _ _ _ _ h=>by cases h
 dn:=fun _ h=>by cases h
 top:=fun _ _=>rfl
 yl:=fun _ _ _ _ _ _ h=>by cases h
end
theorem qo {P:Program} {f:FuncId} {fn:Func} {o0 o1 o2 o3:Oper} {i0 i1:Nat} {A:Code} {d0 d1 d2 t:Tmp} {c:Call} {ty ty2:TypeId}
  (hf : P.funcs[f]? = some fn) (hname : fn.name ≠ "runtime.NumGoroutine") (hb : fn.body = some (.seq (.region i0 #[o0, o1] false) (.seq (.region i1 #[o2, o3] false) (.cond (.tmp t) A .skip)))) (hr : fn.results = #[])
  (a0:o0.guard=none) (a1:o0.dst=some d0) (a2:o0.op=.call c) (a3:c.callee=.builtin .recover)
  (b0:o1.guard=none) (b1:o1.dst=some d1) (b2:o1.op=.assign (.tmp d0))
  (c0:o2.guard=none) (c1:o2.dst=some d2) (c2:o2.op=.move (.tmp d1))
  (e0:o3.guard=none) (e1:o3.dst=some t) (e2:o3.op=.binOp .neq ty (.tmp d2) (.const .nilIface) ty2)
  (l0:d0<fn.ntmps) (l1:d1<fn.ntmps) (l2:d2<fn.ntmps) (l3:t<fn.ntmps) (hty:∀ w,(Op.equal ty .nilIface .nilIface).run P w=.ok true w) (args:Array Value) (w:World) :
  (callFunc f args).run P w=.ok (.enter f args) w∧CallsDIn (Fc none) 0 P f args .returning w fun e u w'=>u=.returning∧w'=w∧∃ v,e=.returned v:=by
 refine ⟨by simp [callFunc,hf,hname,hb],callsDIn_of_wpSIn hf hb trivial fun c₀ cs hu=>?_⟩;have ab:∀ (o:Oper) (w:World) (ρ:Operand→Value),∀ g,o.about P w ρ=some g→(Fc none).fn g:=fun _ _ _ _ _=>trivial
 have hrec:recoverD (c₀::cs)=none:=by simp [recoverD,hu]
 have hsz:fn.ntmps≤(args++Array.replicate (fn.ntmps-args.size) undef).size:=by simp;omega
 generalize args++Array.replicate (fn.ntmps-args.size) undef=tm at hsz;have ev:∀ (a:Act) (d:Tmp) (v:Value),d<a.tmps.size→(a.put (some d) v).eval (.tmp d)=v:=fun a d v h=>by
  show (a.tmps.setIfInBounds d v).getD d undef=v;exact AV _ _ _ h
 have sz:∀ (a:Act) (d:Tmp) (v:Value),(a.put (some d) v).tmps.size=a.tmps.size:=fun a d v=>by
  show (a.tmps.setIfInBounds d v).size=_;simp
 refine wpSIn_seq (wpSIn_region ?_);show wpOpsSIn _ _ _ _ _ [0,1] _ _ _;rw [wpOpsSIn];simp only [show (#[o0,o1]:Array Oper)[0]?=some o0 from rfl];refine ⟨ab o0 w _,?_⟩;rw [WM (by simp [Region.wanted,a0])];have r0:∀ (ρ:Operand→Value),(execOp ρ o0).run P w=.ok .recover w:=fun ρ=>by
  simp [execOp,a2,resolve,a3,invoke,builtin]
 rw [r0];simp only [hrec,a1];rw [wpOpsSIn];simp only [show (#[o0,o1]:Array Oper)[1]?=some o1 from rfl];refine ⟨ab o1 w _,?_⟩;rw [WM (by simp [Region.wanted,b0])];have r1:∀ (ρ:Operand→Value),(execOp ρ o1).run P w=.ok (.value (ρ (.tmp d0))) w:=fun ρ=>by
  simp [execOp,b2]
 rw [r1];simp only [b1];rw [wpOpsSIn,ev _ _ _ (by exact lF l0 hsz)];simp only [Exit.thenS];refine wpSIn_seq (wpSIn_region ?_);show wpOpsSIn _ _ _ _ _ [0,1] _ _ _;rw [wpOpsSIn];simp only [show (#[o2,o3]:Array Oper)[0]?=some o2 from rfl];refine ⟨ab o2 w _,?_⟩;rw [WM (by simp [Region.wanted,c0])];have r2:∀ (ρ:Operand→Value),(execOp ρ o2).run P w=.ok (.value (ρ (.tmp d1))) w:=fun ρ=>by
  simp [execOp,c2]
 rw [r2];simp only [c1];rw [ev _ _ _ (by rw [sz];exact lF l1 hsz)];rw [wpOpsSIn];simp only [show (#[o2,o3]:Array Oper)[1]?=some o3 from rfl];refine ⟨ab o3 w _,?_⟩;rw [WM (by simp [Region.wanted,e0])];have r3:∀ (ρ:Operand→Value),ρ (.tmp d2)=.nilIface→ρ (.const .nilIface)=.nilIface→(execOp ρ o3).run P w=.ok (.value (.bool false)) w:=fun ρ h1 h2=>by
  simp [execOp,e2,h1,h2,eqGuard,binOp,hty w]
 rw [r3 _ (ev _ _ _ (by rw [sz,sz];exact lF l2 hsz)) rfl];simp only [e1];rw [wpOpsSIn];simp only [Exit.thenS];refine wpSIn_cond (t:=false) (ev _ _ _ (by rw [sz,sz,sz];exact lF l3 hsz)) ?_;have hres:∀ tm:Array Value,(results fn tm).run P w=.ok (.tuple #[]) w:=fun tm=>by
  rw [Gq];simp [hr]
 refine wpSIn_of_wpIn rfl (wpIn_skip ⟨rfl,.returning,?_,_,hres _,rfl,rfl,_,rfl⟩);have:({ c₀ with mode:=.returning }:Frame)=c₀:=by rw [← hu]
 rw [this]
def YP (P:Program) (n:Nat):Prop:=∀ (args:Array Value) (w:World),(callFunc n args).run P w=.ok (.enter n args) w∧CallsDIn (Fc none) 0 P n args .returning w fun e u w'=>u=.returning∧w'=w∧∃ v,e=.returned v
def Bl:List Nat→List Nat
 | []=>[]
 | k::r=>bif Nat.ble 6000000 k then (k-6000000)::Bl r else Bl r
theorem YQ {n:Nat}:∀ {l:List Nat},memN l (n+6000000)=true→n∈Bl l
 | [],h=>by cases h
 | k::r,h=>by
  have h:(bif Nat.beq k (n+6000000) then true else memN r (n+6000000))=true:=h
  cases hb:Nat.beq k (n+6000000) with
  | true =>have e:=dK hb;subst e;have:Nat.ble 6000000 (n+6000000)=true:=CY (by omega);simp only [Bl,this,cond_true,Nat.add_sub_cancel,qAo,true_or]
  | false=>
   rw [hb] at h;have:=YQ (l:=r) h;simp only [Bl]
   cases Nat.ble 6000000 k with
   | true=>exact gO _ this
   | false=>exact this
end Go.Pf
namespace Go.Pf
open Go
def aB (b:Bool) (x y:Prop):Prop:=match b with | true=>x | false=>y
def aA (b:Bool) (x:Prop):Prop:=match b with | true=>x | false=>False
theorem pR {b:Bool} {x y:Prop}:aB b x y↔(b=true→x)∧(b=false→y):=by cases b<;>simp [aB]
theorem bJ {b:Bool} {x:Prop}:aA b x↔b=true∧x:=by cases b<;>simp [aA]
inductive Cs where
 | i (k:IntKind)
 | b
 | d
 deriving DecidableEq,Inhabited
inductive Sh where
 | raw
 | one (c:Cs)
 | agg (l:List Cs)
 deriving Inhabited
def aJ:PV→Int
 | .int _ n=>n
 | _=>0
def YR:PV→Bool
 | .bool b=>b
 | _=>false
def eK:PV→List PV
 | .data l=>l
 | _=>[]
def aQ (r:PV) (j:Nat):PV:=r.cells.getD j .nils
def DT:Cs→PV→PV
 | .i k,x=>.int k (aJ x)
 | .b,x=>.bool (YR x)
 | .d,x=>.data (eK x)
def GC:List Cs→PV→Nat→List PV
 | [],_,_=>[]
 | c::t,r,j=>DT c (aQ r j)::GC t r (j+1)
def pT:Sh→PV→PV
 | .raw,r=>r
 | .one c,r=>DT c r
 | .agg l,r=>.agg (GC l r 0)
def rL:Cs→PV→Bool
 | .i k,.int l _=>decide (k=l)
 | .b,.bool _=>true
 | .d,.data _=>true
 | _,_=>false
def DU:List Cs→List PV→Bool
 | [],[]=>true
 | c::t,x::r=>rL c x&&DU t r
 | _,_=>false
def aI:Sh→PV→Bool
 | .raw,_=>true
 | .one c,x=>rL c x
 | .agg l,.agg cs=>DU l cs
 | .agg _,_=>false
theorem YS:∀ (c:Cs) (x:PV),rL c x=true→DT c x=x
 | .i k,x,h=>by cases x<;>simp [rL] at h;simp [DT,aJ,h]
 | .b,x,h=>by cases x<;>simp [rL] at h;simp [DT,YR]
 | .d,x,h=>by cases x<;>simp [rL] at h;simp [DT,eK]
theorem YT:∀ (l:List Cs) (pre cs:List PV),DU l cs=true→GC l (.agg (pre++cs)) pre.length=cs
 | [],pre,cs,h=>by cases cs<;>simp [DU] at h;simp [GC]
 | c::t,pre,cs,h=>by
  cases cs with
  | nil=>simp [DU] at h
  | cons x r=>
   simp only [DU,bO] at h;have h1:aQ (.agg (pre++x::r)) pre.length=x:=by simp [aQ,PV.cells]
   have h2:=YT t (pre++[x]) r h.2;simp only [lX,List.singleton_append,dM,lD] at h2;simp only [GC,h1,YS c x h.1,h2]
theorem YU:∀ (s:Sh) (r:PV),aI s r=true→pT s r=r
 | .raw,_,_=>rfl
 | .one c,x,h=>YS c x h
 | .agg l,x,h=>by
  cases x with
  | agg cs=>have:=YT l [] cs h;simpa [pT] using this
  | _=>simp [aI] at h
structure An where
 at_:Nat
 sh:Sh
 md:Nat
 deriving Inhabited
inductive TC where
 | skip
 | ops (l:List AO) (an:List An) (pairs:List (Nat×Nat)) (forget:List Nat)
 | seq (a b:TC)
 | cond (c:Opd) (a b:TC)
 | block (id:Nat) (b:TC)
 | loop (id:Nat) (b:TC)
 | lG (id:Nat) (b:TC)
 | exit (id:Nat)
 | ret
 | bad
 | rangeF (g:Opd) (f np:Nat) (ib:TC) (ps:List Nat) (az bd:TC)
 | yret (c:AC) (pre:List AO) (d:Nat) (y:Opd) (args:List Opd) (e:Nat) (fgt:List Nat)
 | cut (c:AC)
 | join (id:Nat) (b:TC)
 deriving Inhabited
def bP:TC→AC
 | .skip=>.skip
 | .ops l _ ps fg=>.ops l ps fg
 | .seq a b=>.seq (bP a) (bP b)
 | .cond c a b=>.cond c (bP a) (bP b)
 | .block id b=>.block id (bP b)
 | .loop _ b=>.loop (bP b)
 | .lG _ b=>.lG (bP b)
 | .exit id=>.exit id
 | .ret=>.ret
 | .bad=>.bad
 | .rangeF g _ _ _ ps az bd=>.rangeF g ps (bP az) (bP bd)
 | .yret c pre d y args e fgt=>.yret c pre d y args e fgt
 | .cut c=>c
 | .join _ b=>bP b
structure TFn where
 nparams:Nat
 results:List ARes
 body:TC
 deriving Inhabited
def TFn.fn (t:TFn):AFn:=⟨t.nparams,t.results,bP t.body⟩
def xA:List An→Nat→An
 | [],_=>⟨0,.raw,0⟩
 | a::r,i=>bif Nat.beq a.at_ i then a else xA r i
def GD:Nat→List PV→Hp→Option (PV×Hp):=fun _ _ _=>none
abbrev OK:=Option FV→Option (Nat×PV)→Hp→Prop
abbrev CK:=PV→List PV→Hp→(PV→Hp→Prop)→Prop
def wv (H:Hp) (K:OK) (p:PV):Prop:=K (some (.v p)) none H
def GE (H:Hp) (x:PV) (K:PV→Hp→Prop):Prop:=
 match x with
 | .bool b=>K (.bool b) H
 | .int k n=>K (.int k n) H
 | .nils | .emp=>K (.data []) H
 | .data rows=>K (.data rows) H
 | .own id lo len ext _=>
  (match H[id]? with
   | some b=>aA (decide (b.rows.length=ext)) (aA (decide (lo+len≤ext)) (aA b.pu (K (.data ((b.rows.drop lo).take len)) (H.set id { b with fz:=true }))))
   | none=>False)
 | _=>False
def Ka:Hp→List PV→(List PV→Hp→Prop)→Prop
 | H,[],K=>K [] H
 | H,x::r,K=>GE H x fun y H'=>Ka H' r fun ys H''=>K (y::ys) H''
def vL (H:Hp) (x:PV) (K:PV→Hp→Prop):Prop:=
 match x with
 | .agg cs=>Ka H cs fun ys H'=>K (.agg ys) H'
 | x=>GE H x K
def Bm:Hp→List PV→(List PV→Hp→Prop)→Prop
 | H,[],K=>K [] H
 | H,x::r,K=>vL H x fun y H'=>Bm H' r fun ys H''=>K (y::ys) H''
def GF (H:Hp) (x:PV) (K:PV→Prop):Prop:=
 match x with
 | .tup ps=>Bm H ps fun qs _=>K (.tup qs)
 | x=>vL H x fun q _=>K q
def Kb (H:Hp) (x:PV) (K:PV→Prop):Prop:=
 match x with
 | .ptr id ext i off=>(match H[id]? with
  | some b=>aA (decide (b.rows.length=ext)) (match b.rows[i]? with
   | some row=>vL H row fun q _=>K (.eptr [q] 0 off)
   | none=>False)
  | none=>False)
 | .eptr rows i off=>K (.eptr rows i off)
 | x=>vL H x fun q _=>K q
def Kc (H:Hp):List PV→(List PV→Prop)→Prop
 | [],K=>K []
 | x::r,K=>Kb H x fun y=>Kc H r fun ys=>K (y::ys)
def GG (pu:Bool) (H:Hp) (x:PV) (K:PV→Hp→Prop):Prop:=match pu with | true=>vL H x K | false=>K x H
def DV (E:Env) (F:aD) (pu:Bool) (esz:Nat):List PV→Hp→List (Nat×Opd)→(List PV→Hp→Prop)→Prop
 | rows,H,[],K=>K rows H
 | rows,H,(i,x)::r,K=>
  match evV E F x with
  | some p=>GG pu H p fun q H'=>aA (Nat.beq q.cells.length esz&&Nat.blt i rows.length&&jK q.cells) (DV E F pu esz (rows.set i q) H' r K)
  | none=>False
def Bn (op:BinOp) (k k':IntKind) (a b:Int) (K:PV→Prop):Prop:=
 match op with
 | .quo=>aA (decide (k=k')) (aA (!decide (b=0)) (K (.int k (k.wrap (a.tdiv b)))))
 | .rem=>aA (decide (k=k')) (aA (!decide (b=0)) (K (.int k (a.tmod b))))
 | .shl=>aA (!decide (b<0)) (K (.int k (k.wrap (a*2 ^ (min b.toNat k.bits)))))
 | .shr=>aA (!decide (b<0)) (K (.int k (a.fdiv (2 ^ (min b.toNat k.bits)))))
 | op=>aA (decide (k=k')) (match binI op k a b with | some r=>K r | none=>False)
def Ac (n:Nat) (j:Int) (K:Nat→Prop):Nat→Prop
 | 0=>False
 | m+1=>aB (decide (j=((n-(m+1):Nat):Int))) (K (n-(m+1))) (Ac n j K m)
def GH:List PV→Bool
 | []=>true
 | .int .u8 _::r=>GH r
 | _=>false
def Ow (agg:Bool) (n esz:Nat) (cs:List PV) (j:Int) (K:PV→Prop):Prop:=
 aA (!agg&&(Nat.beq esz 1&&(Nat.beq n cs.length&&GH cs))) (aA (decide (0≤j)) (aA (decide (j<(n:Int))) (K (.int .u8 (aJ (cs.getD j.toNat .nils))))))
def Ox (H:Hp) (x:PV) (K:List PV→Prop):Prop:=
 match x with
 | .nils | .emp=>K []
 | .data rows=>K rows
 | .own id lo len ext _=>
  (match H[id]? with
   | some b=>aA (decide (b.rows.length=ext)) (aA (decide (lo+len≤ext)) (K ((b.rows.drop lo).take len)))
   | none=>False)
 | _=>False
def DW (H:Hp) (pu:Bool) (esz bytes:Nat) (rows:List PV) (K:PV→Hp→Prop):Prop:=
 aA (decide ((rows.length+64)*(bytes+1)≤room)) (K (.own H.length 0 rows.length rows.length none) (H++[⟨false,pu,esz,rows⟩]))
def Bo (md:Nat) (H:Hp) (pu:Bool) (esz bytes:Nat) (s:PV) (ys:List PV) (K:PV→Hp→Prop):Prop:=
 match s with
 | .nils=>aB ys.isEmpty (K .nils H) (DW H pu esz bytes ys K)
 | .emp=>aB ys.isEmpty (K .emp H) (DW H pu esz bytes ys K)
 | .own id lo len ext cap=>
  (match H[id]? with
   | some b=>
    aA (decide (b.rows.length=ext)) (aA (decide (b.pu=pu)&&decide (b.esz=esz)) (aA (decide (lo+len≤ext))
     (aB ys.isEmpty (K (.own id lo len ext cap) H)
      (match cap with
       | some c=>
        let W1:=aA (!b.fz) (K (.own id lo (len+ys.length) ext cap) (H.set id { b with rows:=b.rows.take (lo+len)++(ys++b.rows.drop (lo+len+ys.length)) }));let W2:=DW H pu esz bytes ((b.rows.drop lo).take len++ys) K
        (match md with
         | 9=>aB (decide (len+ys.length≤c)) W1 W2
         | 8=>aB (decide (len+ys.length≤c)) W1 W2
         | 2=>aA (!decide (len+ys.length≤c)) W2
         | _=>aA (decide (len+ys.length≤c)) W1)
       | none=>
        let W1:=K (.own id lo (len+ys.length) ext none) (H.set id { b with rows:=b.rows.take (lo+len)++(ys++b.rows.drop (lo+len+ys.length)) });let W3:=aA (decide (lo=0)) (aA (decide (len=ext)) (aA (decide ((ext+ys.length+64)*(bytes+1)≤room))
          (K (.own id 0 (b.rows++ys).length (b.rows++ys).length none) (H.set id { b with rows:=b.rows++ys }))))
        let W4:=aA (decide (lo=0)) (aA (decide (len≤ext)) (aA (decide ((len+ys.length+64)*(bytes+1)≤room))
          (K (.own id 0 (len+ys.length) (len+ys.length) none) (H.set id { b with rows:=b.rows.take len++ys }))))
        aA (!b.fz) (match md with
         | 9=>aB (decide (lo+len+ys.length≤ext)) W1 W3
         | 8=>aB (decide (lo+len+ys.length≤ext)) W1 W4
         | 1=>aA (decide (lo+len+ys.length≤ext)) W1
         | _=>aA (!decide (lo+len+ys.length≤ext)) W3)))))
   | none=>False)
 | _=>False
def Oy (H:Hp) (esz:Nat) (lo hi mx:Option Int) (x:PV) (K:PV→Prop):Prop:=
 match x with
 | .nils=>aA (decide (lo.getD 0=0)&&(decide (hi.getD 0=0)&&decide (mx.getD 0=0))) (K .nils)
 | .emp=>aA (decide (lo.getD 0=0)&&(decide (hi.getD 0=0)&&decide (mx.getD 0=0))) (K .emp)
 | .data rows=>
  let h:=hi.getD rows.length;let l:=lo.getD 0
  (match mx with
   | none=>aA (decide (0≤l)) (aA (decide (l≤h)) (aA (decide (h≤rows.length)) (aA (decide (l=0)||hO esz rows) (K (.data ((rows.take h.toNat).drop l.toNat))))))
   | some m=>aA (decide (0≤l)) (aA (decide (l≤h)) (aA (decide (h≤m)) (aA (decide (m≤rows.length)) (aA (decide (l=0)||hO esz rows)
      (aB (decide (l=m)) (K .emp) (K (.data ((rows.take h.toNat).drop l.toNat)))))))))
 | .own id lo0 len ext cap=>
  let h:=hi.getD len;let l:=lo.getD 0
  (match H[id]? with
   | some b=>aA (b.esz==esz)
    (match mx with
     | none=>aA (decide (0≤l)) (aA (decide (l≤h)) (aA (decide (h≤len)||decide (h≤AS len cap)) (K (.own id (lo0+l.toNat) (h-l).toNat ext (cap.map fun c=>c-l.toNat)))))
     | some m=>aA (decide (0≤l)) (aA (decide (l≤h)) (aA (decide (h≤m)) (aA (decide (m≤len)||decide (m≤AS len cap)) (K (.own id (lo0+l.toNat) (h-l).toNat ext (some (m-l).toNat)))))))
   | none=>False)
 | _=>False
def xB (sh:Sh) (rows:List PV) (i:Nat) (K:PV→Prop):Prop:=
 match sh with
 | .raw=>(match rows[i]? with | some r=>K r | none=>False)
 | sh=>aA (decide (i<rows.length)) (aA (aI sh (rows.getD i .nils)) (K (pT sh (rows.getD i .nils))))
def YV:List Cs→Bool
 | []=>true
 | .i _::r=>YV r
 | _=>false
def qq (sh:Sh) (esz sz:Nat):Sh:=
 match sh with
 | .agg l=>bif !(Nat.beq esz sz)&&(Nat.beq l.length sz&&YV l) then .raw else .agg l
 | x=>x
def YW:List Cs→Bool
 | []=>false
 | .d::_=>true
 | _::r=>YW r
def YX (sh:Sh) (pu:Bool):Sh:=
 match sh with
 | .agg l=>bif !pu&&YW l then .raw else .agg l
 | x=>x
def jO (E:Env) (callK:CK) (a:An) (F:aD) (H:Hp) (o:AOp) (K:OK):Prop:=
 match o with
 | .pick c x y=>
  (match evV E F c with
   | some (.bool t)=>aB t (match evV E F x with | some p=>wv H K p | none=>False) (match evV E F y with | some p=>wv H K p | none=>False)
   | _=>False)
 | .bin op x y=>
  (match evV E F x,evV E F y with
   | some (.int k p),some (.int k' q)=>Bn op k k' p q (wv H K)
   | _,_=>False)
 | .load agg sz x=>
  (match ev E F x with
   | some (.v (.ptr id ext i off))=>
    (match H[id]? with
     | some b=>aA (decide (b.rows.length=ext)) (xB (YX (qq a.sh b.esz sz) b.pu) b.rows i fun row=>match ygw agg sz row off with | some p=>wv H K p | none=>False)
     | none=>False)
   | _=>(match yas E GD F H (.load agg sz x) with | some ⟨x,bx,H'⟩=>K x bx H' | none=>False))
 | .store sz x y=>
  (match ev E F x with
   | some (.v (.ptr id ext i off))=>
    (match evV E F y with
     | some p=>
       (match H[id]? with
        | some b0=>
         GG b0.pu H p fun q H'=>
          (match H'[id]? with
           | some b=>aA (decide (b.rows.length=ext)) (aA (!b.fz) (xB (YX a.sh b.pu) b.rows i fun row=>match yjZ row off sz q with
            | some row'=>K none none (H'.set id { b with rows:=b.rows.set i row' })
            | none=>False))
           | none=>False)
        | none=>False)
     | none=>False)
   | _=>(match yas E GD F H (.store sz x y) with | some ⟨x,bx,H'⟩=>K x bx H' | none=>False))
 | .iad esz x i=>
  (match evV E F x,yey E F i with
   | some (.data rows),some n=>
    aA (decide (0≤n)) (aA (decide (n<rows.length)) (aA (aI a.sh (rows.getD n.toNat .nils)) (aA (decide ((pT a.sh (rows.getD n.toNat .nils)).cells.length=esz)) (wv H K (.eptr [pT a.sh (rows.getD n.toNat .nils)] 0 0)))))
   | some (.own id lo len ext _),some n=>
    (match H[id]? with
     | some b=>aA (decide (0≤n)) (aA (decide (n<len)) (aA (decide (b.esz=esz)) (wv H K (.ptr id ext (lo+n.toNat) 0))))
     | none=>False)
   | some (.sub id ext r off m e),some j=>aA (Nat.beq e esz) (Ac m j (fun k=>wv H K (.ptr id ext r (off+k*esz))) m)
   | _,_=>False)
 | .iadA n esz x i=>
  (match ev E F x,yey E F i with
   | some (.bp s o),some j=>Ac n j (fun k=>K (some (.bp s (o+k*esz))) none H) n
   | some (.v (.ptr id e r o)),some j=>Ac n j (fun k=>wv H K (.ptr id e r (o+k*esz))) n
   | some (.v (.eptr rows r o)),some j=>Ac n j (fun k=>wv H K (.eptr rows r (o+k*esz))) n
   | _,_=>False)
 | .idx agg n esz x i=>
  (match evV E F x,yey E F i with
   | some (.agg cs),some j=>(match x with
    | .c _=>Ow agg n esz cs j (wv H K)
    | _=>Ac n j (fun k=>match ygw agg esz (.agg cs) (k*esz) with | some p=>wv H K p | none=>False) n)
   | _,_=>False)
 | .slc esz x lo hi mx=>
  (match evV E F x,nS E F lo,nS E F hi,nS E F mx with
   | some p,some l,some h,some m=>(match (m.isSome&&h.isNone) with | true=>False | false=>Oy H esz l h m p (wv H K))
   | _,_,_,_=>False)
 | .mkSl pu esz bytes z l c=>
  (match yey E F l,yey E F c with
   | some l,some c=>aA (decide (0≤l)) (aA (decide (l≤c)) (aA (decide ((c.toNat+64)*(bytes+1)≤room))
      (K (some (.v (.own H.length 0 l.toNat c.toNat (some c.toNat)))) none (H++[⟨false,pu,esz,replicate c.toNat z⟩]))))
   | _,_=>False)
 | .app pu esz bytes s x=>
  (match evV E F s,evV E F x with
   | some s,some x=>Ox H x fun ys=>aA (hO esz ys) (aA (vC H pu x) (Bo a.md H pu esz bytes s ys fun r H'=>K (some (.v r)) none H'))
   | _,_=>False)
 | .appZ pu esz bytes z s n=>
  (match evV E F s,yey E F n with
   | some .nils,some k=>aA (decide (0≤k)) (aB (decide (k.toNat=0)) (wv H K .nils) (DW H pu esz bytes (replicate k.toNat z) fun r H'=>K (some (.v r)) none H'))
   | _,_=>False)
 | .eqN neg x=>
  (match evV E F x with
   | some .nils=>wv H K (.bool (bif neg then false else true))
   | some (.mt b)=>wv H K (.bool (bif neg then !b else b))
   | some (.data rows)=>aA (!rows.isEmpty) (wv H K (.bool neg))
   | some (.own _ _ _ _ _)=>wv H K (.bool neg)
   | _=>False)
 | .clr pu esz z x=>
  (match evV E F x with
   | some .nils=>wv H K (.tup [])
   | some .emp=>wv H K (.tup [])
   | some (.mt _)=>wv H K (.tup [])
   | some (.own id lo len ext _)=>(match H[id]? with
    | some b=>aB (decide (len=0)) (wv H K (.tup [])) (aA (decide (b.rows.length=ext)) (aA (decide (lo+len≤ext)) (aA (!b.fz) (aA (b.pu==pu) (aA (Nat.beq b.esz esz) (K (some (.v (.tup []))) none (H.set id { b with rows:=b.rows.take lo++(replicate len z++b.rows.drop (lo+len)) })))))))
    | none=>False)
   | _=>False)
 | .boxH pu esz x=>
  (match evV E F x with
   | some p=>GG pu H p fun q H'=>aA (Nat.beq q.cells.length esz&&jK q.cells) (K (some (.v (.ptr H'.length 1 0 0))) none (H'++[⟨false,pu,esz,[q]⟩]))
   | none=>False)
 | .bSl pu esz z len parts=>
  (match len with
   | 0=>wv H K .emp
   | len+1=>DV E F pu esz (replicate (len+1) z) H parts fun rows H'=>K (some (.v (.own H'.length 0 (len+1) (len+1) (some (len+1))))) none (H'++[⟨false,pu,esz,rows⟩]))
 | .buildN pu esz z len parts=>
  (match len with
   | 0=>wv H K .emp
   | len+1=>DV E F pu esz (replicate (len+1) z) H parts fun rows H'=>K (some (.v (.own H'.length 0 (len+1) (len+1) none))) none (H'++[⟨false,pu,esz,rows⟩]))
 | .bD esz z len parts=>
  (match len with
   | 0=>wv H K .emp
   | len+1=>DV E F true esz (replicate (len+1) z) H parts fun rows H'=>K (some (.v (.data rows))) none H')
 | .mvD x=>
  (match evV E F x with
   | some p=>GE H p fun q H'=>(match q with | .data rows=>K (some (.v (.data rows))) none H' | _=>False)
   | none=>False)
 | .call f args=>
  (match evV E F f,evs E F args with
   | some g,some vs=>callK g vs H fun r H'=>K (some (.v r)) none H'
   | _,_=>False)
 | o=>(match yas E GD F H o with | some ⟨x,bx,H'⟩=>K x bx H' | none=>False)
def jD:aD→Nat→FV→aD
 | [],_,_=>[]
 | (k,y)::r,s,x=>bif Nat.beq k s then (k,x)::r else (k,y)::jD r s x
def GI (F:aD) (g:Option (Nat×Bool)) (yes no:aD→Prop):Prop:=
 match g with
 | none=>yes F
 | some (s,want)=>(match fget F s with
  | some (.v (.bool b))=>(match want with
   | true=>aB b (yes (jD F s (.v (.bool true)))) (no (jD F s (.v (.bool false))))
   | false=>aB b (no (jD F s (.v (.bool true)))) (yes (jD F s (.v (.bool false)))))
  | some (.v (.tup []))=>no F
  | _=>False)
def pU (F:aD) (c:Opd) (b:Bool):aD:=
 match c with
 | .t s=>jD F s (.v (.bool b))
 | _=>F
def xC (F:aD):Option Nat→aD
 | some d=>aF F d (.v (.tup []))
 | none=>F
def Bp (p:PV) (K:PV→Prop):Prop:=
 match p with
 | .bool b=>K (.bool b)
 | .int k n=>K (.int k n)
 | .agg cs=>K (.agg cs)
 | .data r=>K (.data r)
 | .own a b c d e=>K (.own a b c d e)
 | .ptr a b c d=>K (.ptr a b c d)
 | .sub a b c d e f=>K (.sub a b c d e f)
 | p=>K p
def tC:List PV→(List PV→Prop)→Prop
 | [],K=>K []
 | x::r,K=>Bp x fun x=>tC r fun r=>K (x::r)
def xD (p:PV) (K:PV→Prop):Prop:=
 match p with
 | .agg cs=>tC cs fun cs=>K (.agg cs)
 | .tup cs=>tC cs fun cs=>K (.tup cs)
 | p=>Bp p K
def Bq (x:FV) (K:FV→Prop):Prop:=
 match x with
 | .v p=>xD p fun p=>K (.v p)
 | .box p=>xD p fun p=>K (.box p)
 | .bp s o=>K (.bp s o)
def xE:aD→(aD→Prop)→Prop
 | [],K=>K []
 | (k,x)::r,K=>Bq x fun x=>xE r fun r=>K ((k,x)::r)
def Br (b:Bool) (K:Bool→Prop):Prop:=match b with | true=>K true | false=>K false
def xF:Hp→(Hp→Prop)→Prop
 | [],K=>K []
 | ⟨fz,pu,esz,rows⟩::r,K=>Br fz fun fz=>Br pu fun pu=>xF r fun r=>K (⟨fz,pu,esz,rows⟩::r)
theorem YY (p:PV) (K:PV→Prop):Bp p K=K p:=by cases p<;>rfl
theorem YZ:∀ (l:List PV) (K:List PV→Prop),tC l K=K l
 | [],_=>rfl
 | x::r,K=>by simp only [tC,YY,YZ r]
theorem qr (p:PV) (K:PV→Prop):xD p K=K p:=by cases p<;>simp only [xD,YZ,YY]
theorem qu (x:FV) (K:FV→Prop):Bq x K=K x:=by cases x<;>simp only [Bq,qr]
theorem Za:∀ (F:aD) (K:aD→Prop),xE F K=K F
 | [],_=>rfl
 | (k,x)::r,K=>by simp only [xE,qu,Za r]
theorem qv (b:Bool) (K:Bool→Prop):Br b K=K b:=by cases b<;>rfl
theorem Zb:∀ (H:Hp) (K:Hp→Prop),xF H K=K H
 | [],_=>rfl
 | ⟨fz,pu,esz,rows⟩::r,K=>by simp only [xF,qv,Zb r]
def xG (F:aD) (H:Hp) (K:aD→Hp→Prop):Prop:=xE F fun F=>xF H fun H=>K F H
theorem Bs (F:aD) (H:Hp) (K:aD→Hp→Prop):xG F H K=K F H:=by simp only [xG,Za,Zb]
def mS (E:Env) (callK:CK) (an:List An):List AO→Nat→aD→Hp→(aD→Hp→Prop)→Prop
 | [],_,F,H,K=>K F H
 | o::r,i,F,H,K=>
  GI F o.guard
   (fun F=>jO E callK (xA an i) F H o.op fun x bx H'=>match ydT (jA F bx) o.dst x with
    | none=>False
    | some F'=>xG F' H' fun F' H'=>mS E callK an r (i+1) F' H' K)
   (fun F=>mS E callK an r (i+1) (xC F o.dst) H K)
def yKj (E:Env) (F:aD) (f:Opd) (az:List Opd):Option (List Nat):=
 match evV E F f,evs E F az with
 | some g,some vs=>(match ype E g vs with
  | some x=>some (x.id::fJ (x.all.set x.j (.int .i64 0)))
  | none=>(match g with
   | .fn (.func n) first captured=>bif E.qui n then some (fJ (first++vs++captured)) else none
   | _=>none))
 | _,_=>none
def Ad (E:Env) (F:aD) (H:Hp) (o:AOp):FP:=
 match o with
 | .call f az=>bif vG E F f az then aR E F H (.call f az) else (match yKj E F f az with | some l=>⟨f.slots++qZ az,[],List.range H.length,l,true,false⟩ | none=>aR E F H (.call f az))
 | o=>aR E F H o
def yxh (E:Env) (F:aD) (H:Hp) (o:AO):FP:=
 let p:=Ad E F H o.op;⟨Dp o.guard++p.rd,o.dst.toList++p.wr,p.hr,p.hw,p.push,p.all⟩
def fpNo (o:AO):FP:=⟨Dp o.guard,o.dst.toList,[],[],false,false⟩
def pV (E:Env) (callK:CK) (an:List An) (F0:aD) (l0:List AO) (pairs:List (Nat×Nat)):List AO→Nat→aD→Hp→List FP→(aD→Hp→Prop)→Prop
 | [],_,F,H,ps,K=>aA (yid ps.reverse pairs&&wS F0 l0 l0) (K F H)
 | o::r,i,F,H,ps,K=>
  GI F o.guard
   (fun F=>jO E callK (xA an i) F H o.op fun x bx H'=>match ygU (jA F bx) o.dst x with
    | none=>False
    | some F'=>xG F' H' fun F' H'=>pV E callK an F0 l0 pairs r (i+1) F' H' (yxh E F H o::ps) K)
   (fun F=>pV E callK an F0 l0 pairs r (i+1) (xC F o.dst) H (fpNo o::ps) K)
abbrev LP:=Nat→aD→aD→Hp→(Ex→aD→Hp→Prop)→Prop
abbrev YK:=List PV→Hp→(Option Nat→Hp→Prop)→Prop
def gS:YK:=fun _ _ _=>False
def Bt (K:Nat) (H:Hp) (Q:Hp→Prop):Prop:=aA (gF (noY K) (fun _=>true) H) (Q H)
def WC (E:Env) (callK:CK) (lp:LP):aD→YK→TC→aD→Hp→(Ex→aD→Hp→Prop)→Prop
 | _,_,.skip,F,H,Q=>Q .norm F H
 | _,_,.ops l an [] fg,F,H,Q=>mS E callK an l 0 F H fun F' H'=>xG (fdels F' fg) H' fun F' H'=>Q .norm F' H'
 | _,_,.ops l an (p::ps) fg,F,H,Q=>bif Dr l (p::ps) then mS E callK an l 0 F H fun F' H'=>xG (fdels F' fg) H' fun F' H'=>Q .norm F' H' else pV E callK an (nF F l) l (p::ps) l 0 (nF F l) H [] fun F' H'=>xG (fdels F' fg) H' fun F' H'=>Q .norm F' H'
 | G,yk,.seq a b,F,H,Q=>WC E callK lp G yk a F H fun x F' H'=>match x with
  | .norm=>WC E callK lp G yk b F' H' Q
  | .exit i=>Q (.exit i) F' H'
  | .ret=>Q .ret F' H'
  | .brk k i=>Q (.brk k i) F' H'
 | G,yk,.cond c a b,F,H,Q=>(match evV E F c with
  | some (.bool t)=>aB t (WC E callK lp G yk a (pU F c true) H Q) (WC E callK lp G yk b (pU F c false) H Q)
  | _=>False)
 | G,yk,.block id b,F,H,Q=>WC E callK lp G yk b F H fun x F' H'=>match x with
  | .norm=>Q .norm F' H'
  | .exit i=>(bif Nat.beq i id then Q .norm F' H' else Q (.exit i) F' H')
  | .ret=>Q .ret F' H'
  | .brk k i=>Q (.brk k i) F' H'
 | G,_,.loop id _,F,H,Q=>lp id G F H Q
 | G,_,.lG id _,F,H,Q=>lp id G F H Q
 | G,_,.join id _,F,H,Q=>lp id G F H Q
 | _,_,.exit id,F,H,Q=>Q (.exit id) F H
 | _,_,.ret,F,H,Q=>Q .ret F H
 | _,_,.bad,_,_,_=>False
 | _,_,.cut _,_,_,_=>False
 | _,_,.rangeF g f np ib ps az bd,F,H,Q=>(match evV E F g with
  | some (.fn (.func n) first cap)=>aA (Nat.beq n f&&decide ((first++[PV.fn (.yield E.yn) [] []]++cap).length=np))
   (WC E callK lp (jL F) (fun vs H K=>match ypg (jL F) ps vs with
     | some F1=>WC E callK lp [] gS az F1 H fun x F2 H2=>match x with
      | .norm=>WC E callK lp [] gS bd F2 H2 fun x _ H3=>match x with
       | .norm=>K none H3
       | .exit i=>K (some i) H3
       | .ret | .brk _ _=>False
      | .exit _ | .ret | .brk _ _=>False
     | none=>False) ib (iX 0 (first++[PV.fn (.yield E.yn) [] []]++cap)) H fun x _ H'=>match x with
    | .norm | .ret=>Bt E.yn H' fun H'=>Q .norm F H'
    | .brk k i=>aA (Nat.beq k E.yn) (Bt E.yn H' fun H'=>Q (.exit i) F H')
    | .exit _=>False)
  | _=>False)
 | _,yk,.yret _ pre d y args e fgt,F,H,Q=>mS E callK [] pre 0 F H fun F1 H1=>(match evV E F1 y,evs E F1 args with
  | some (.fn (.yield k) [] []),some vs=>aA (Nat.beq k E.yn) (yk vs H1 fun r H2=>match r with
   | none=>xG (fdels (aF (aF F1 d (.v (.bool true))) e (.v (.bool false))) fgt) H2 fun F' H'=>Q .norm F' H'
   | some i=>Q (.brk k i) (aF (aF F1 d (.v (.bool false))) e (.v (.bool true))) H2)
  | _,_=>False)
abbrev Qx:Type:=Ex→aD→Hp→Prop
abbrev Zc (R:aD→Hp→Prop) (Q:Qx):Qx:=fun x F' H'=>match x with | .norm=>R F' H' | .exit i=>Q (.exit i) F' H' | .ret=>Q .ret F' H' | .brk k i=>Q (.brk k i) F' H'
def GJ (E:Env) (callK:CK) (lp:LP) (fn:TFn) (args:List PV) (H:Hp) (K:PV→Hp→Prop):Prop:=
 aA (decide (args.length=fn.nparams)) (WC E callK lp [] gS fn.body (iX 0 args) H fun x F' H'=>match x with
  | .exit _ | .brk _ _=>False
  | .norm | .ret=>(match ykD F' H' fn.results with | some ps=>K (sU ps) H' | none=>False))
structure SE where
 E:Env
 sumK:Nat→Option (List PV→(PV→Prop)→Prop)
 inl:Nat→Option TFn
 lp:LP
 sumL:Nat→Option (List PV→HB→(PV→List PV→Prop)→Prop)
def Kd (H:Hp) (x:PV) (K:PV→Hp→Prop):Prop:=
 match x with
 | .tup ps=>Bm H ps fun qs H'=>K (.tup qs) H'
 | x=>vL H x K
def GK (wp:List PV→HB→(PV→List PV→Prop)→Prop) (x:LocC) (H:Hp) (K:PV→Hp→Prop):Prop:=
 Bm H (x.all.set x.j (.int .i64 0)) fun az H'=>match H'[x.id]? with
  | some b=>aA (!b.fz&&b.pu) (wp (az.set x.j x.y) b fun q rows=>K q (H'.set x.id { b with rows:=rows }))
  | none=>False
def pX (S:SE):Nat→CK
 | 0,_,_,_,_=>False
 | d+1,f,args,H,K=>
  match f with
  | .fn (.func n) first captured=>
   (match ype S.E f args with
   | some x=>(match S.sumL x.n with | some wp=>GK wp x H K | none=>False)
   | none=>
   match S.sumK n with
    | some wp=>(bif S.E.rb n then Kc (jU H) (first++args++captured) fun az=>wp az fun r=>aA r.scalar (K r H)
     else Bm H (first++args++captured) fun az H'=>wp az fun r=>K r (bif r.scalar then H else H'))
    | none=>(match S.inl n with
     | some fn=>(bif S.E.rb n then False else GJ S.E (pX S d) S.lp fn (first++args++captured) H K)
     | none=>(match S.E.eff n (first++args++captured) H with
      | some (c,t,x,y)=>aA c (aB t (K x.1 x.2) (K y.1 y.2))
      | none=>False)))
  | _=>False
@[irreducible] def tD (S:SE) (d:Nat) (fn:TFn) (args:List PV) (b:HB) (K:PV→List PV→Prop):Prop:=
 GJ S.E (pX S d) S.lp fn args [b] fun r H=>Kd H r fun q H'=>match H'[0]? with
  | some b2=>aA (!b2.fz&&decide (b2.rows.length=b.rows.length)) (K q b2.rows)
  | none=>False
@[irreducible] def WP (S:SE) (d:Nat) (fn:TFn) (args:List PV) (K:PV→Prop):Prop:=
 GJ S.E (pX S d) S.lp fn args [] fun r H=>GF H r K
abbrev EP:=Nat→Env→Prop
def cN (E e:Env):Prop:=e={ E with yn:=e.yn,ctx:=e.ctx,yl:=e.yl }
def Uni (E:Env):EP:=fun _ e=>cN E e
def jY (E:Env):EP:=fun _ e=>e=E
def GL (E:Env):EP:=fun _ e=>e=E.ats (E.yn+1)
def aK (P:EP) (E:Env):Prop:=∀ n e,P n e→cN E e
theorem cN.refl (E:Env):cN E E:=rfl
theorem aK.uni (E:Env):aK (Uni E) E:=fun _ _ h=>h
theorem aK.solo (E:Env):aK (jY E) E:=fun _ e h=>by cases h;rfl
theorem aK.ats (E:Env):aK (GL E) E:=fun _ e h=>by cases h;rfl
def hnd (E:Env) (G:aD) (ps:List Nat) (az bd:AC) (n:Nat):Nat→List PV→Hp→Option (Option Nat×Hp):=fun y vs H=>(match ypg G ps vs with
 | some F1=>(match exec (E.ats y) n az F1 H with
  | some (.norm,F2,H2)=>(match exec (E.ats y) n bd F2 H2 with
   | some (.norm,_,H3)=>some (none,H3)
   | some (.exit i,_,H3)=>some (some i,H3)
   | _=>none)
  | _=>none)
 | none=>none)
def GM (E:Env) (G:aD) (ps:List Nat) (az bd:AC):EP:=fun n e=>e=E.push ⟨G,ps,az,bd⟩ (hnd E G ps az bd n)
theorem aK.rng (E:Env) (G:aD) (ps:List Nat) (az bd:AC):aK (GM E G ps az bd) E:=fun _ e h=>by cases h;rfl
def Good (P:EP) (callK:CK):Prop:=
 ∀ f args H K,callK f args H K→∃ r H',K r H'∧∃ m0,∀ n e m,m0≤n→P n e→m0≤m→ylw e (ybu e m) f args H=some (r,H')
theorem Good.sub {E:Env} {P:EP} {callK:CK} (h:Good (Uni E) callK) (hP:aK P E):Good P callK:=fun f args H K hk=>by obtain ⟨r,H',k,m0,hm⟩:=h f args H K hk;exact ⟨r,H',k,m0,fun n e m h1 h2 h3=>hm n e m h1 (hP n e h2) h3⟩
section
variable {E:Env} {y:Nat} {cx:Nat→Option LCtx} {yl:Nat→Nat→List PV→Hp→Option (Option Nat×Hp)}
theorem Ke (F:aD) (x:Opd):ev { E with yn:=y,ctx:=cx,yl:=yl } F x=ev E F x:=by cases x<;>rfl
theorem rM (F:aD) (x:Opd):evV { E with yn:=y,ctx:=cx,yl:=yl } F x=evV E F x:=by simp only [evV,Ke]
theorem Bu (F:aD):∀ l:List Opd,evs { E with yn:=y,ctx:=cx,yl:=yl } F l=evs E F l
 | []=>rfl
 | x::r=>by simp only [evs,rM,Bu F r]
theorem Zd (F:aD) (x:Opd):yey { E with yn:=y,ctx:=cx,yl:=yl } F x=yey E F x:=by simp only [yey,rM]
theorem qw (F:aD) (x:Option Opd):nS { E with yn:=y,ctx:=cx,yl:=yl } F x=nS E F x:=by cases x<;>simp only [nS,Zd]
theorem Ze (F:aD):∀ (l:List (Nat×Nat×Opd)) (cs:List PV),ylv { E with yn:=y,ctx:=cx,yl:=yl } F cs l=ylv E F cs l
 | [],_=>rfl
 | (_,_,x)::r,cs=>by simp only [ylv,rM,Ze F r]
theorem Zf (F:aD) (pu:Bool) (esz:Nat):∀ (l:List (Nat×Opd)) (rows:List PV) (H:Hp),yhl { E with yn:=y,ctx:=cx,yl:=yl } F pu esz rows H l=yhl E F pu esz rows H l
 | [],_,_=>rfl
 | (_,x)::r,rows,H=>by simp only [yhl,rM,Zf F pu esz r]
theorem Zg (F:aD) (x:Opd):kY { E with yn:=y,ctx:=cx,yl:=yl } F x=kY E F x:=by simp only [kY,Ke]
theorem qx (F:aD) (x:Opd):rB { E with yn:=y,ctx:=cx,yl:=yl } F x=rB E F x:=by simp only [rB,Ke]
theorem Zh (F:aD):∀ l:List (Nat×Opd),nE { E with yn:=y,ctx:=cx,yl:=yl } F l=nE E F l
 | []=>rfl
 | (_,x)::r=>by simp only [nE,Zg,Zh F r]
theorem qy (F:aD) (f:Opd) (az:List Opd):vG { E with yn:=y,ctx:=cx,yl:=yl } F f az=vG E F f az:=by simp only [vG,rM,Bu]
theorem Zi (F:aD) (H:Hp) (o:AOp):aR { E with yn:=y,ctx:=cx,yl:=yl } F H o=aR E F H o:=by
 cases o<;>simp only [aR,Zg,qx,Zh,qy]
theorem qz {F:aD} {H:Hp} {o:AOp} (h:pQ o=false) (c1 c2:Nat→List PV→Hp→Option (PV×Hp)):yas { E with yn:=y,ctx:=cx,yl:=yl } c1 F H o=yas E c2 F H o:=by
 cases o<;>first | (simp [pQ] at h;done) | simp only [yas,Ke,rM,Bu,Zd,qw,Ze,Zf]
end
def Zj (E:Env) (F:aD) (H:Hp) (o:AOp) (K:OK):Prop:=
 ∃ out:Out,K out.x out.bx out.h∧∃ m0,∀ m,m0≤m→yas E (ybu E m) F H o=some out
def ra (P:EP) (F:aD) (H:Hp) (o:AOp) (K:OK):Prop:=
 ∃ out:Out,K out.x out.bx out.h∧∃ m0,∀ n e m,m0≤n→P n e→m0≤m→yas e (ybu e m) F H o=some out
section
variable {E:Env} {callK:CK} {F:aD} {H:Hp} {K:OK}
theorem re {o:AOp} (h:pQ o=false) (c1 c2:Nat→List PV→Hp→Option (PV×Hp)):yas E c1 F H o=yas E c2 F H o:=by
 cases o<;>first | rfl | simp [pQ] at h
theorem Oz {o:AOp} (hc:pQ o=false) (h:match yas E GD F H o with | some ⟨x,bx,H'⟩=>K x bx H' | none=>False):Zj E F H o K:=by
 split at h
 ·rename_i x bx H' he;exact ⟨⟨x,bx,H'⟩,h,0,fun m _=>by rw [re hc (ybu E m) GD,he]⟩
 ·exact h.elim
theorem OA {H:Hp} {x:PV} {K:PV→Hp→Prop} (h:GE H x K):∃ y H',K y H'∧yfB H x=some (y,H'):=by
 unfold GE at h;split at h
 ·exact ⟨_,_,h,rfl⟩
 ·exact ⟨_,_,h,rfl⟩
 ·exact ⟨_,_,h,rfl⟩
 ·exact ⟨_,_,h,rfl⟩
 ·exact ⟨_,_,h,rfl⟩
 ·split at h
  ·rename_i b hb;obtain ⟨h1,h⟩:=bJ.1 h;obtain ⟨h2,h⟩:=bJ.1 h;obtain ⟨h3,h⟩:=bJ.1 h;exact ⟨_,_,h,by simp only [yfB,hb];rw [WM ⟨by simpa using h1,by simpa using h2,h3⟩]⟩
  ·exact h.elim
 ·exact h.elim
theorem Zk:∀ (l:List PV) (H:Hp) (K:List PV→Hp→Prop),Ka H l K→∃ ys H',K ys H'∧yeq H l=some (ys,H')
 | [],H,K,h=>⟨_,_,h,rfl⟩
 | x::r,H,K,h=>by simp only [Ka] at h;obtain ⟨y,H1,h,e1⟩:=OA h;obtain ⟨ys,H2,h,e2⟩:=Zk r H1 _ h;exact ⟨_,_,h,by simp only [yeq,e1,e2]⟩
theorem DX {H:Hp} {x:PV} {K:PV→Hp→Prop} (h:vL H x K):∃ y H',K y H'∧yca H x=some (y,H'):=by
 cases x with
 | agg cs =>simp only [vL] at h;obtain ⟨ys,H',h,e⟩:=Zk cs H _ h;exact ⟨_,_,h,by simp only [yca,e,Option.map]⟩
 | _ =>simp only [vL] at h;obtain ⟨y,H',h,e⟩:=OA h;exact ⟨_,_,h,by simp only [yca,e]⟩
theorem GN:∀ (l:List PV) (H:Hp) (K:List PV→Hp→Prop),Bm H l K→∃ ys H',K ys H'∧ybd H l=some (ys,H')
 | [],H,K,h=>⟨_,_,h,rfl⟩
 | x::r,H,K,h=>by simp only [Bm] at h;obtain ⟨y,H1,h,e1⟩:=DX h;obtain ⟨ys,H2,h,e2⟩:=GN r H1 _ h;exact ⟨_,_,h,by simp only [ybd,e1,e2]⟩
theorem rf {H:Hp} {x:PV} {K:PV→Prop} (h:Kb H x K):∃ y,K y∧purP H x=some y:=by
 have base:∀ {x:PV},vL H x (fun q _=>K q)→∃ y,K y∧(match yca H x with | some (q,_)=>some q | none=>none)=some y:=fun h=>by
  obtain ⟨y,H',h,e⟩:=DX h;exact ⟨y,h,by simp only [e]⟩
 cases x with
 | ptr id ext i off=>
  simp only [Kb] at h;split at h
  ·rename_i b hb;obtain ⟨h1,h⟩:=bJ.1 h;split at h
   ·rename_i row hrow;obtain ⟨y,H',h,e⟩:=DX h;exact ⟨_,h,by simp only [purP,hb,hrow,e];rw [WM (by simpa using h1)]⟩
   ·exact h.elim
  ·exact h.elim
 | eptr rows i off=>exact ⟨_,h,rfl⟩
 | _=>simp only [Kb] at h;exact base h
theorem Zl {H:Hp}:∀ (l:List PV) (K:List PV→Prop),Kc H l K→∃ ys,K ys∧yyO H l=some ys
 | [],K,h=>⟨_,h,rfl⟩
 | x::r,K,h=>by simp only [Kc] at h;obtain ⟨y,h,e1⟩:=rf h;obtain ⟨ys,h,e2⟩:=Zl r _ h;exact ⟨_,h,by simp only [yyO,e1,e2]⟩
theorem Zm {H:Hp} {x:PV} {K:PV→Prop} (h:GF H x K):∃ q,K q∧purR H x=some q:=by
 cases x with
 | tup ps =>simp only [GF] at h;obtain ⟨ys,H',h,e⟩:=GN ps H _ h;exact ⟨_,h,by simp only [purR,e]⟩
 | _ =>simp only [GF] at h;obtain ⟨y,H',h,e⟩:=DX h;exact ⟨_,h,by simp only [purR,e]⟩
theorem OB {pu:Bool} {H:Hp} {x:PV} {K:PV→Hp→Prop} (h:GG pu H x K):∃ y H',K y H'∧(if pu then yca H x else some (x,H))=some (y,H'):=by
 cases pu with
 | true=>simp only [GG] at h;obtain ⟨y,H',h,e⟩:=DX h;exact ⟨y,H',h,by simpa using e⟩
 | false=>exact ⟨_,_,h,by simp⟩
theorem Kf {pu:Bool} {esz:Nat}:∀ (l:List (Nat×Opd)) (rows:List PV) (H:Hp) (K:List PV→Hp→Prop),DV E F pu esz rows H l K →
  ∃ rows' H',K rows' H'∧yhl E F pu esz rows H l=some (rows',H')
 | [],rows,H,K,h=>⟨_,_,h,rfl⟩
 | (i,x)::r,rows,H,K,h=>by
  simp only [DV] at h;split at h
  ·rename_i p hp;obtain ⟨q,H',h,e⟩:=OB h;obtain ⟨h1,h⟩:=bJ.1 h;simp only [bO] at h1;obtain ⟨rows',H2,h,e2⟩:=Kf r _ H' K h;refine ⟨rows',H2,h,?_⟩;simp only [yhl,hp,e];rw [WM ⟨dK h1.1.1,(show i+1≤rows.length from yT h1.1.2),h1.2⟩];exact e2
  ·exact h.elim
theorem rh {op:BinOp} {k k':IntKind} {a b:Int} {K:PV→Prop} (h:Bn op k k' a b K):∃ r,K r∧binV op (.int k a) (.int k' b)=some r:=by
 cases op<;>simp only [Bn] at h
 case quo=>
  obtain ⟨h1,h2⟩:=bJ.1 h;obtain ⟨h3,h4⟩:=bJ.1 h2;have e1:k=k':=by simpa using h1
  have e2:¬b=0:=by simpa using h3
  exact ⟨_,h4,by simp [binV,e1,binI,e2]⟩
 case rem=>
  obtain ⟨h1,h2⟩:=bJ.1 h;obtain ⟨h3,h4⟩:=bJ.1 h2;have e1:k=k':=by simpa using h1
  have e2:¬b=0:=by simpa using h3
  exact ⟨_,h4,by simp [binV,e1,binI,e2]⟩
 case shl=>
  obtain ⟨h1,h2⟩:=bJ.1 h;have e1:¬b<0:=by simpa using h1
  exact ⟨_,h2,by simp only [binV,Dl,e1,if_false]⟩
 case shr=>
  obtain ⟨h1,h2⟩:=bJ.1 h;have e1:¬b<0:=by simpa using h1
  exact ⟨_,h2,by simp only [binV,Dl,e1,if_false]⟩
 all_goals
  obtain ⟨h1,h2⟩:=bJ.1 h;have e1:k=k':=by simpa using h1
  split at h2
  ·rename_i r hr;exact ⟨r,h2,by simp only [binV,e1,if_true];rw [← e1];exact hr⟩
  ·exact h2.elim
theorem DY {n:Nat} {j:Int} {K:Nat→Prop}:∀ m,m≤n→Ac n j K m→∃ k:Nat,K k∧j=(k:Int)∧k<n
 | 0,_,h=>h.elim
 | m+1,hm,h=>by
  simp only [Ac] at h;obtain ⟨h1,h2⟩:=pR.1 h
  by_cases hj:j=((n-(m+1):Nat):Int)
  ·exact ⟨_,h1 (by simpa using hj),hj,by omega⟩
  ·exact DY m (by omega) (h2 (by simpa using hj))
theorem Zn:∀ (cs:List PV) (i:Nat),GH cs=true→i<cs.length→cs[i]?=some (.int .u8 (aJ (cs.getD i .nils)))
 | [],i,_,h=>by simp at h
 | x::r,i,hu,hi=>by
  cases x with
  | int k n=>
   cases k<;>simp only [GH,gE] at hu
   cases i with
   | zero=>simp [aJ]
   | succ i=>have:=Zn r i hu (by simpa using hi);simpa using this
  | _=>simp [GH] at hu
theorem ri {x:PV} {K:List PV→Prop} (h:Ox H x K):∃ ys,K ys∧yiw H x=some ys:=by
 unfold Ox at h;split at h
 ·exact ⟨_,h,rfl⟩
 ·exact ⟨_,h,rfl⟩
 ·exact ⟨_,h,rfl⟩
 ·split at h
  ·rename_i b hb;obtain ⟨h1,h2⟩:=bJ.1 h;obtain ⟨h3,h4⟩:=bJ.1 h2;exact ⟨_,h4,by simp only [yiw,hb];rw [WM ⟨by simpa using h1,by simpa using h3⟩]⟩
  ·exact h.elim
 ·exact h.elim
theorem Kg {pu:Bool} {esz bytes:Nat} {rows:List PV} {K:PV→Hp→Prop} (h:DW H pu esz bytes rows K):∃ r H',K r H'∧ydm H pu esz bytes rows=some (r,H'):=by obtain ⟨h1,h2⟩:=bJ.1 h;exact ⟨_,_,h2,by simp only [ydm];rw [WM (by simpa using h1)]⟩
def nZ (H:Hp) (pu:Bool) (esz bytes:Nat) (ys:List PV):PV→Option (PV×Hp)
 | .nils=>if ys.isEmpty then some (.nils,H) else ydm H pu esz bytes ys
 | .emp=>if ys.isEmpty then some (.emp,H) else ydm H pu esz bytes ys
 | .own id lo len ext cap=>
  (match H[id]? with
   | some b=>if b.rows.length=ext∧b.pu=pu∧b.esz=esz∧lo+len≤ext then
    (if ys.isEmpty then some (.own id lo len ext cap,H) else nC H pu esz bytes ys id lo len ext cap b) else none
   | none=>none)
 | _=>none
theorem rj {md:Nat} {pu:Bool} {esz bytes:Nat} {s x:PV} {ys:List PV} {K:PV→Hp→Prop} (hy:yiw H x=some ys) (hh:hO esz ys=true) (hs:vC H pu x=true) (h:Bo md H pu esz bytes s ys K) :
  ∃ r H',K r H'∧appV H pu esz bytes s x=some (r,H'):=by
 have e0:appV H pu esz bytes s x=nZ H pu esz bytes ys s:=by simp only [appV,hy];rw [WM ⟨hh,hs⟩];cases s<;>rfl
 rw [e0];clear e0 hy hs;unfold Bo at h;split at h
 ·obtain ⟨h1,h2⟩:=pR.1 h
  cases hE:ys.isEmpty with
  | true=>exact ⟨_,_,h1 hE,by simp [nZ,hE]⟩
  | false =>obtain ⟨r,H',hk,hf⟩:=Kg (h2 hE);exact ⟨r,H',hk,by simp [nZ,hE,hf]⟩
 ·obtain ⟨h1,h2⟩:=pR.1 h
  cases hE:ys.isEmpty with
  | true=>exact ⟨_,_,h1 hE,by simp [nZ,hE]⟩
  | false =>obtain ⟨r,H',hk,hf⟩:=Kg (h2 hE);exact ⟨r,H',hk,by simp [nZ,hE,hf]⟩
 ·rename_i id lo len ext cap;split at h
  ·rename_i b hb;obtain ⟨h1,h⟩:=bJ.1 h;obtain ⟨h2,h⟩:=bJ.1 h;obtain ⟨h3,h⟩:=bJ.1 h;simp only [bO,decide_eq_true_eq] at h1 h2 h3;obtain ⟨k1,k2⟩:=pR.1 h;have hc:b.rows.length=ext∧b.pu=pu∧b.esz=esz∧lo+len≤ext:=⟨h1,h2.1,h2.2,h3⟩
   cases hE:ys.isEmpty with
   | true=>exact ⟨_,_,k1 hE,by simp only [nZ,hb];rw [WM hc];simp [hE]⟩
   | false=>
    have h:=k2 hE
    suffices ∃ r H',K r H'∧nC H pu esz bytes ys id lo len ext cap b=some (r,H') by obtain ⟨r,H',hk,hf⟩:=this;exact ⟨r,H',hk,by simp only [nZ,hb];rw [WM hc];simp [hE,hf]⟩
    cases cap with
    | some c=>
     simp only at h;have key1:decide (len+ys.length≤c)=true→aA (!b.fz) (K (.own id lo (len+ys.length) ext (some c)) (H.set id { b with rows:=b.rows.take (lo+len)++(ys++b.rows.drop (lo+len+ys.length)) })) →
       ∃ r H',K r H'∧nC H pu esz bytes ys id lo len ext (some c) b=some (r,H'):=by
      intro e1 e2;obtain ⟨e3,e4⟩:=bJ.1 e2;refine ⟨_,_,e4,?_⟩;simp only [nC];rw [WM (by simpa using e1),WM (by simpa using e3)]
     have key2:decide (len+ys.length≤c)=false→DW H pu esz bytes ((b.rows.drop lo).take len++ys) K →
       ∃ r H',K r H'∧nC H pu esz bytes ys id lo len ext (some c) b=some (r,H'):=by
      intro e1 e2;obtain ⟨r,H',hk,hf⟩:=Kg e2;refine ⟨r,H',hk,?_⟩;simp only [nC];rw [WN (by simpa using e1)];exact hf
     split at h
     ·obtain ⟨a1,a2⟩:=pR.1 h
      cases hd:decide (len+ys.length≤c) with
      | true=>exact key1 hd (a1 hd)
      | false=>exact key2 hd (a2 hd)
     ·obtain ⟨a1,a2⟩:=pR.1 h
      cases hd:decide (len+ys.length≤c) with
      | true=>exact key1 hd (a1 hd)
      | false=>exact key2 hd (a2 hd)
     ·obtain ⟨a1,a2⟩:=bJ.1 h;exact key2 (by simpa using a1) a2
     ·obtain ⟨a1,a2⟩:=bJ.1 h;exact key1 a1 a2
    | none=>
     simp only at h;obtain ⟨hfz,h⟩:=bJ.1 h;have hfz':¬b.fz=true:=by simpa using hfz
     have key1:decide (lo+len+ys.length≤ext)=true→K (.own id lo (len+ys.length) ext none) (H.set id { b with rows:=b.rows.take (lo+len)++(ys++b.rows.drop (lo+len+ys.length)) }) →
       ∃ r H',K r H'∧nC H pu esz bytes ys id lo len ext none b=some (r,H'):=by
      intro e1 e2;refine ⟨_,_,e2,?_⟩;simp only [nC];rw [WN hfz',WM (by simpa using e1)]
     have key3:decide (lo+len+ys.length≤ext)=false→aA (decide (lo=0)) (aA (decide (len=ext)) (aA (decide ((ext+ys.length+64)*(bytes+1)≤room))
        (K (.own id 0 (b.rows++ys).length (b.rows++ys).length none) (H.set id { b with rows:=b.rows++ys })))) →
       ∃ r H',K r H'∧nC H pu esz bytes ys id lo len ext none b=some (r,H'):=by
      intro e1 e2;obtain ⟨e3,e2⟩:=bJ.1 e2;obtain ⟨e4,e2⟩:=bJ.1 e2;obtain ⟨e5,e2⟩:=bJ.1 e2;simp only [decide_eq_true_eq] at e3 e4 e5;refine ⟨_,_,e2,?_⟩;simp only [nC];rw [WN hfz',WN (by simpa using e1),WM ⟨e3,by omega,by rw [e4];exact e5⟩];have e6:b.rows.take len=b.rows:=wJ (by omega);have e7:(b.rows++ys).length=len+ys.length:=by rw [dM,h1,e4]
      rw [e6,e7]
     have key4:decide (lo+len+ys.length≤ext)=false→aA (decide (lo=0)) (aA (decide (len≤ext)) (aA (decide ((len+ys.length+64)*(bytes+1)≤room))
        (K (.own id 0 (len+ys.length) (len+ys.length) none) (H.set id { b with rows:=b.rows.take len++ys })))) →
       ∃ r H',K r H'∧nC H pu esz bytes ys id lo len ext none b=some (r,H'):=by
      intro e1 e2;obtain ⟨e3,e2⟩:=bJ.1 e2;obtain ⟨e4,e2⟩:=bJ.1 e2;obtain ⟨e5,e2⟩:=bJ.1 e2;simp only [decide_eq_true_eq] at e3 e4 e5;refine ⟨_,_,e2,?_⟩;simp only [nC];rw [WN hfz',WN (by simpa using e1),WM ⟨e3,e4,e5⟩]
     split at h
     ·obtain ⟨a1,a2⟩:=pR.1 h
      cases hd:decide (lo+len+ys.length≤ext) with
      | true=>exact key1 hd (a1 hd)
      | false=>exact key3 hd (a2 hd)
     ·obtain ⟨a1,a2⟩:=pR.1 h
      cases hd:decide (lo+len+ys.length≤ext) with
      | true=>exact key1 hd (a1 hd)
      | false=>exact key4 hd (a2 hd)
     ·obtain ⟨a1,a2⟩:=bJ.1 h;exact key1 a1 a2
     ·obtain ⟨a1,a2⟩:=bJ.1 h;exact key3 (by simpa using a1) a2
  ·exact h.elim
 ·exact h.elim
theorem rk {esz:Nat} {lo hi mx:Option Int} {x:PV} {K:PV→Prop} (h:Oy H esz lo hi mx x K):∃ r,K r∧yix H esz lo hi mx x=some r:=by
 unfold Oy at h;split at h
 ·obtain ⟨h1,h2⟩:=bJ.1 h;simp only [bO,decide_eq_true_eq] at h1;exact ⟨_,h2,by simp only [yix];rw [WM h1]⟩
 ·obtain ⟨h1,h2⟩:=bJ.1 h;simp only [bO,decide_eq_true_eq] at h1;exact ⟨_,h2,by simp only [yix];rw [WM h1]⟩
 ·rename_i rows;simp only at h;split at h
  ·obtain ⟨h1,h⟩:=bJ.1 h;obtain ⟨h2,h⟩:=bJ.1 h;obtain ⟨h3,h⟩:=bJ.1 h;obtain ⟨h4,h⟩:=bJ.1 h;simp only [nR,decide_eq_true_eq] at h1 h2 h3 h4;exact ⟨_,h,by simp only [yix];rw [WM ⟨h1,h2,h3,h4⟩]⟩
  ·rename_i m;obtain ⟨h1,h⟩:=bJ.1 h;obtain ⟨h2,h⟩:=bJ.1 h;obtain ⟨h3,h⟩:=bJ.1 h;obtain ⟨h4,h⟩:=bJ.1 h;obtain ⟨h5,h⟩:=bJ.1 h;obtain ⟨k1,k2⟩:=pR.1 h;simp only [nR,decide_eq_true_eq] at h1 h2 h3 h4 h5
   by_cases hl:lo.getD 0=m
   ·exact ⟨_,k1 (by simpa using hl),by simp only [yix];rw [WM ⟨h1,h2,h3,h4,h5⟩,WM hl]⟩
   ·exact ⟨_,k2 (by simpa using hl),by simp only [yix];rw [WM ⟨h1,h2,h3,h4,h5⟩,WN hl]⟩
 ·rename_i id lo0 len ext cap;simp only at h;split at h
  ·rename_i b hb;obtain ⟨h0,h⟩:=bJ.1 h;split at h
   ·obtain ⟨h1,h⟩:=bJ.1 h;obtain ⟨h2,h⟩:=bJ.1 h;obtain ⟨h3,h⟩:=bJ.1 h;simp only [nR,decide_eq_true_eq] at h1 h2 h3;exact ⟨_,h,by simp only [yix,hb,h0,Bool.true_eq_false,if_false];rw [WM ⟨h1,h2,h3⟩]⟩
   ·obtain ⟨h1,h⟩:=bJ.1 h;obtain ⟨h2,h⟩:=bJ.1 h;obtain ⟨h3,h⟩:=bJ.1 h;obtain ⟨h4,h⟩:=bJ.1 h;simp only [nR,decide_eq_true_eq] at h1 h2 h3 h4;exact ⟨_,h,by simp only [yix,hb,h0,Bool.true_eq_false,if_false];rw [WM ⟨h1,h2,h3,h4⟩]⟩
  ·exact h.elim
 ·exact h.elim
theorem Zo {sh:Sh} {rows:List PV} {i:Nat} {K:PV→Prop} (h:xB sh rows i K):∃ r,K r∧rows[i]?=some r:=by
 have key:aA (decide (i<rows.length)) (aA (aI sh (rows.getD i .nils)) (K (pT sh (rows.getD i .nils))))→∃ r,K r∧rows[i]?=some r:=by
  intro h;obtain ⟨h1,h⟩:=bJ.1 h;obtain ⟨h2,h⟩:=bJ.1 h;have hi:i<rows.length:=by simpa using h1
  rw [YU _ _ h2] at h;refine ⟨_,h,?_⟩;rw [dU hi,eQ,dU hi];rfl
 unfold xB at h;split at h
 ·split at h
  ·rename_i r hr;exact ⟨r,h,hr⟩
  ·exact h.elim
 ·exact key h
theorem rm {a:An} {o:AOp} (hc:pQ o=false) (h:jO E callK a F H o K):Zj E F H o K:=by
 cases o
 case pick c x y=>
  simp only [jO] at h;split at h
  ·rename_i t ht;obtain ⟨h1,h2⟩:=pR.1 h
   cases t with
   | true=>
    have h:=h1 rfl;split at h
    ·rename_i p hp;exact ⟨⟨some (.v p),none,H⟩,h,0,fun m _=>by simp only [yas,ht,hp];rfl⟩
    ·exact h.elim
   | false=>
    have h:=h2 rfl;split at h
    ·rename_i p hp;exact ⟨⟨some (.v p),none,H⟩,h,0,fun m _=>by simp only [yas,ht,hp];rfl⟩
    ·exact h.elim
  ·exact h.elim
 case bin op x y=>
  simp only [jO] at h;split at h
  ·rename_i k p k' q hx hy;obtain ⟨r,hk,hr⟩:=rh h;exact ⟨⟨some (.v r),none,H⟩,hk,0,fun m _=>by simp only [yas,hx,hy,hr];rfl⟩
  ·exact h.elim
 case eqN neg x=>
  simp only [jO] at h;split at h
  ·rename_i hx;exact ⟨⟨some (.v (.bool (bif neg then false else true))),none,H⟩,h,0,fun m _=>by simp only [yas,hx];cases neg<;>rfl⟩
  ·rename_i b hx;exact ⟨⟨some (.v (.bool (bif neg then !b else b))),none,H⟩,h,0,fun m _=>by simp only [yas,hx];cases neg<;>rfl⟩
  ·rename_i rows hx;obtain ⟨h1,h⟩:=bJ.1 h
   cases rows with
   | nil=>simp at h1
   | cons q l=>exact ⟨⟨some (.v (.bool neg)),none,H⟩,h,0,fun m _=>by simp only [yas,hx];cases neg<;>rfl⟩
  ·rename_i hx;exact ⟨⟨some (.v (.bool neg)),none,H⟩,h,0,fun m _=>by simp only [yas,hx];cases neg<;>rfl⟩
  ·exact h.elim
 case load agg sz x=>
  simp only [jO] at h;split at h
  ·rename_i id ext i off hx;split at h
   ·rename_i b hb;obtain ⟨h1,h⟩:=bJ.1 h;obtain ⟨row,h,hr⟩:=Zo h;split at h
    ·rename_i p hp;exact ⟨⟨some (.v p),none,H⟩,h,0,fun m _=>by simp only [yas,hx,hb];rw [WM (by simpa using h1)];simp only [hr,hp];rfl⟩
    ·exact h.elim
   ·exact h.elim
  ·exact Oz rfl h
 case store sz x y=>
  simp only [jO] at h;split at h
  ·rename_i id ext i off hx;split at h
   ·rename_i p hp;split at h
    ·rename_i b0 hb0;obtain ⟨q,H',h,hq⟩:=OB h;split at h
     ·rename_i b hb;obtain ⟨h1,h⟩:=bJ.1 h;obtain ⟨h2,h⟩:=bJ.1 h;obtain ⟨row,h,hr⟩:=Zo h;split at h
      ·rename_i row' hrow;refine ⟨⟨none,none,H'.set id { b with rows:=b.rows.set i row' }⟩,h,0,fun m _=>?_⟩;have e1:b.rows.length=ext:=by simpa using h1
       have e2:b.fz=false:=by simpa using h2
       simp only [yas,hp,hx,hb0,hq,hb,hr,hrow];rw [WM ⟨e1,e2⟩]
      ·exact h.elim
     ·exact h.elim
    ·exact h.elim
   ·exact h.elim
  ·exact Oz rfl h
 case iad esz x i=>
  simp only [jO] at h;split at h
  ·rename_i rows n hx hi;obtain ⟨h1,h⟩:=bJ.1 h;obtain ⟨h2,h⟩:=bJ.1 h;obtain ⟨h3,h⟩:=bJ.1 h;obtain ⟨h4,h⟩:=bJ.1 h;simp only [decide_eq_true_eq] at h1 h2;rw [YU _ _ h3] at h h4;have hlt:n.toNat<rows.length:=by omega
   have e:rows[n.toNat]?=some (rows.getD n.toNat .nils):=by rw [dU hlt,eQ,dU hlt];rfl
   refine ⟨⟨_,_,_⟩,h,0,fun m _=>?_⟩;simp only [yas,hx,hi];rw [WM ⟨h1,h2⟩];simp only [e];rw [WM (by simpa using h4)];rfl
  ·rename_i id lo len ext cap n hx hi;split at h
   ·rename_i b hb;obtain ⟨h1,h⟩:=bJ.1 h;obtain ⟨h2,h⟩:=bJ.1 h;obtain ⟨h3,h⟩:=bJ.1 h;simp only [decide_eq_true_eq] at h1 h2 h3;refine ⟨⟨_,_,_⟩,h,0,fun m _=>?_⟩;simp only [yas,hx,hi];rw [WM ⟨h1,h2⟩];simp only [hb];rw [WM h3];rfl
   ·exact h.elim
  ·rename_i id ext r off mm e j hx hi;obtain ⟨h1,h⟩:=bJ.1 h;have h1:e=esz:=dK h1;subst h1;obtain ⟨k,h',rfl,hk⟩:=DY mm (bW _) h;clear h;refine ⟨⟨_,_,_⟩,h',0,fun m _=>?_⟩;simp only [yas,hx,hi];rw [WM ⟨by omega,by omega,by trivial⟩];simp [outV]
  ·exact h.elim
 case iadA n esz x i=>
  simp only [jO] at h;split at h
  ·rename_i s o j hx hi;obtain ⟨k,h',rfl,hk⟩:=DY n (bW _) h;clear h;refine ⟨⟨_,_,_⟩,h',0,fun m _=>?_⟩;simp only [yas,hx,hi];rw [WM ⟨by omega,by omega⟩];simp
  ·rename_i id e r o j hx hi;obtain ⟨k,h',rfl,hk⟩:=DY n (bW _) h;clear h;refine ⟨⟨_,_,_⟩,h',0,fun m _=>?_⟩;simp only [yas,hx,hi];rw [WM ⟨by omega,by omega⟩];simp [outV]
  ·rename_i rows r o j hx hi;obtain ⟨k,h',rfl,hk⟩:=DY n (bW _) h;clear h;refine ⟨⟨_,_,_⟩,h',0,fun m _=>?_⟩;simp only [yas,hx,hi];rw [WM ⟨by omega,by omega⟩];simp [outV]
  ·exact h.elim
 case idx agg n esz x i=>
  simp only [jO] at h;split at h
  ·rename_i cs j hx hi;split at h
   ·obtain ⟨h0,k0⟩:=bJ.1 h;obtain ⟨h1,k1⟩:=bJ.1 k0;obtain ⟨h2,k2⟩:=bJ.1 k1;clear h k0 k1;simp only [bO,decide_eq_true_eq,jR] at h0 h1 h2;obtain ⟨ha,he,hn,hu⟩:=h0;have he:=dK he;have hn:=dK hn;subst ha;subst he;refine ⟨⟨_,_,_⟩,k2,0,fun m _=>?_⟩;simp only [yas,hx,hi];rw [WM ⟨h1,h2⟩];have hlt:j.toNat<cs.length:=by omega
    have hcell:cs[j.toNat]?=some (.int .u8 (aJ (cs.getD j.toNat .nils))):=Zn cs _ hu hlt;simp only [ygw,Nat.mul_one,PV.cells,gE,if_false,hcell];rfl
   obtain ⟨k,h',rfl,hk⟩:=DY n (bW _) h;clear h;split at h'
   ·rename_i p hp;refine ⟨⟨_,_,_⟩,h',0,fun m _=>?_⟩;simp only [yas,hx,hi];rw [WM ⟨by omega,by omega⟩];simp only [cM,hp];rfl
   ·exact h'.elim
  ·exact h.elim
 case slc esz x lo hi mx=>
  simp only [jO] at h;split at h
  ·rename_i p l hh m hx hl hhi hm;split at h
   ·exact h.elim
   ·rename_i hb;obtain ⟨r,h,hr⟩:=rk h;refine ⟨⟨_,_,_⟩,h,0,fun _ _=>?_⟩;simp only [yas,hx,hl,hhi,hm];rw [WN (by rw [hb];exact Bool.false_ne_true)];simp only [hr];rfl
  ·exact h.elim
 case mkSl pu esz bytes z l c=>
  simp only [jO] at h;split at h
  ·rename_i l c hl hc;obtain ⟨h1,h⟩:=bJ.1 h;obtain ⟨h2,h⟩:=bJ.1 h;obtain ⟨h3,h⟩:=bJ.1 h;simp only [decide_eq_true_eq] at h1 h2 h3;refine ⟨⟨_,_,_⟩,h,0,fun _ _=>?_⟩;simp only [yas,hl,hc];rw [WM ⟨h1,h2,h3⟩];rfl
  ·exact h.elim
 case app pu esz bytes s x=>
  simp only [jO] at h;split at h
  ·rename_i s x hs hx;obtain ⟨ys,h,hy⟩:=ri h;obtain ⟨h1,h⟩:=bJ.1 h;obtain ⟨h2,h⟩:=bJ.1 h;obtain ⟨r,H',h,hr⟩:=rj hy h1 h2 h;refine ⟨⟨_,_,_⟩,h,0,fun _ _=>?_⟩;simp only [yas,hs,hx,hr];rfl
  ·exact h.elim
 case appZ pu esz bytes z s n=>
  simp only [jO] at h;split at h
  ·rename_i k hs hk;obtain ⟨h1,h⟩:=bJ.1 h;have h1:0≤k:=by simpa using h1
   obtain ⟨ha,hb⟩:=pR.1 h
   cases h0:decide (k.toNat=0) with
   | true=>
    refine ⟨⟨_,_,_⟩,ha h0,0,fun _ _=>?_⟩;have h0:k.toNat=0:=by simpa using h0
    simp only [yas,hs,hk,appZ];rw [WM h1,WM h0];rfl
   | false=>
    obtain ⟨r,H',h2,hr⟩:=Kg (hb h0);refine ⟨⟨_,_,_⟩,h2,0,fun _ _=>?_⟩;have h0:¬k.toNat=0:=by simpa using h0
    simp only [yas,hs,hk,appZ];rw [WM h1,WN h0,hr];rfl
  ·exact h.elim
 case clr pu esz z x=>
  simp only [jO] at h;split at h
  ·rename_i hx;exact ⟨⟨_,_,_⟩,h,0,fun _ _=>by simp only [yas,hx,clrV];rfl⟩
  ·rename_i hx;exact ⟨⟨_,_,_⟩,h,0,fun _ _=>by simp only [yas,hx,clrV];rfl⟩
  ·rename_i hx;exact ⟨⟨_,_,_⟩,h,0,fun _ _=>by simp only [yas,hx,clrV];rfl⟩
  ·rename_i id lo len ext cap hx;split at h
   ·rename_i b hb;obtain ⟨ha,hb2⟩:=pR.1 h
    cases len with
    | zero=>exact ⟨⟨_,_,_⟩,ha rfl,0,fun _ _=>by simp only [yas,hx,clrV];rfl⟩
    | succ len =>have h:=hb2 (by simp);obtain ⟨h1,h⟩:=bJ.1 h;obtain ⟨h2,h⟩:=bJ.1 h;obtain ⟨h3,h⟩:=bJ.1 h;obtain ⟨h4,h⟩:=bJ.1 h;obtain ⟨h5,h⟩:=bJ.1 h;simp only [decide_eq_true_eq,jR,beq_iff_eq] at h1 h2 h3 h4;have h5:=dK h5;refine ⟨⟨_,_,_⟩,h,0,fun _ _=>?_⟩;simp only [yas,hx,clrV,hb];rw [WM ⟨h1,h2,h3,h4,h5⟩];rfl
   ·exact h.elim
  ·exact h.elim
 case boxH pu esz x=>
  simp only [jO] at h;split at h
  ·rename_i p hp;obtain ⟨q,H',h,hq⟩:=OB h;obtain ⟨h1,h⟩:=bJ.1 h;simp only [bO] at h1;refine ⟨⟨_,_,_⟩,h,0,fun _ _=>?_⟩;simp only [yas,hp,hq];rw [WM ⟨dK h1.1,h1.2⟩]
  ·exact h.elim
 case bSl pu esz z len parts=>
  simp only [jO] at h;split at h
  ·exact ⟨⟨_,_,_⟩,h,0,fun _ _=>by simp only [yas,if_true];rfl⟩
  ·obtain ⟨rows,H',h,e⟩:=Kf _ _ _ _ h;refine ⟨⟨_,_,_⟩,h,0,fun _ _=>?_⟩;simp only [yas,e];rfl
 case buildN pu esz z len parts=>
  simp only [jO] at h;split at h
  ·exact ⟨⟨_,_,_⟩,h,0,fun _ _=>by simp only [yas,if_true];rfl⟩
  ·obtain ⟨rows,H',h,e⟩:=Kf _ _ _ _ h;refine ⟨⟨_,_,_⟩,h,0,fun _ _=>?_⟩;simp only [yas,e];rfl
 case bD esz z len parts=>
  simp only [jO] at h;split at h
  ·exact ⟨⟨_,_,_⟩,h,0,fun _ _=>by simp only [yas,if_true];rfl⟩
  ·obtain ⟨rows,H',h,e⟩:=Kf _ _ _ _ h;refine ⟨⟨_,_,_⟩,h,0,fun _ _=>?_⟩;simp only [yas,e];rfl
 case mvD x=>
  simp only [jO] at h;split at h
  ·rename_i p hp;obtain ⟨y,H',h,e⟩:=OA h;split at h
   ·exact ⟨⟨_,_,_⟩,h,0,fun _ _=>by simp only [yas,hp,e];rfl⟩
   ·exact h.elim
  ·exact h.elim
 case call f args=>simp [pQ] at hc
 all_goals exact Oz rfl h
theorem OC {P:EP} (hP:aK P E) (hG:Good P callK) {a:An} {o:AOp} (h:jO E callK a F H o K):ra P F H o K:=by
 cases hc:pQ o with
 | false =>obtain ⟨out,hk,m0,hm⟩:=rm hc h;refine ⟨out,hk,0,fun n e m _ hp _=>?_⟩;have hl:=hP n e hp;unfold cN at hl;rw [hl,qz hc _ (ybu E m0)];exact hm m0 (bW _)
 | true=>
  cases o with
  | call f args=>
   simp only [jO] at h;split at h
   ·rename_i g vs hg hvs;obtain ⟨r,H',h,m0,hm⟩:=hG _ _ _ _ h;refine ⟨⟨_,_,_⟩,h,m0,fun n e m hn hp hle=>?_⟩;have hl:=hP n e hp;have e1:evV e F f=some g:=by unfold cN at hl;rw [hl,rM];exact hg
    have e2:evs e F args=some vs:=by unfold cN at hl;rw [hl,Bu];exact hvs
    simp only [yas,e1,e2,hm n e m hn hp hle];rfl
   ·exact h.elim
  | _=>simp [pQ] at hc
theorem DZ:∀ (F:aD) (s:Nat) (x:FV),fget F s=some x→jD F s x=F
 | [],_,_,h=>by simp [fget] at h
 | (k,y)::r,s,x,h=>by
  simp only [fget] at h;simp only [jD]
  by_cases hk:k=s
  ·subst hk;simp only [if_true,bT] at h;subst h;simp
  ·rw [WN hk] at h;have:Nat.beq k s=false:=by
    cases e:Nat.beq k s with
    | true=>exact absurd (dK e) hk
    | false=>rfl
   rw [this,DZ r s x h];rfl
theorem Kh {c:Opd} {b:Bool} (h:evV E F c=some (.bool b)):pU F c b=F:=by
 cases c with
 | t s=>
  simp only [evV,ev] at h;simp only [pU];apply DZ
  cases e:fget F s with
  | none=>simp [e] at h
  | some fv=>cases fv<;>simp [e] at h;rw [h]
 | _=>rfl
theorem yv5 {g:Option (Nat×Bool)} {yes no:aD→Prop} (h:GI F g yes no):(ycK F g=some true∧yes F)∨(ycK F g=some false∧no F):=by
 unfold GI at h;split at h
 ·exact .inl ⟨rfl,h⟩
 ·rename_i s want;split at h
  ·rename_i b hb;have e:ycK F (some (s,want))=some (b==want):=by simp only [ycK,hb]
   split at h
   ·cases b with
    | true=>have h:yes (jD F s (.v (.bool true))):=h;rw [DZ _ _ _ hb] at h;exact .inl ⟨by rw [e];rfl,h⟩
    | false=>have h:no (jD F s (.v (.bool false))):=h;rw [DZ _ _ _ hb] at h;exact .inr ⟨by rw [e];rfl,h⟩
   ·cases b with
    | true=>have h:no (jD F s (.v (.bool true))):=h;rw [DZ _ _ _ hb] at h;exact .inr ⟨by rw [e];rfl,h⟩
    | false=>have h:yes (jD F s (.v (.bool false))):=h;rw [DZ _ _ _ hb] at h;exact .inl ⟨by rw [e];rfl,h⟩
  ·rename_i hb;exact .inr ⟨by simp only [ycK,hb],h⟩
  ·exact h.elim
theorem Ea {P:EP} (hP:aK P E) (hG:Good P callK) {an:List An}:∀ (l:List AO) (i:Nat) (F:aD) (H:Hp) (K:aD→Hp→Prop),mS E callK an l i F H K →
  ∃ F' H',K F' H'∧∃ m0,∀ n e m,m0≤n→P n e→m0≤m→ybo e (ybu e m) l F H=some (F',H')
 | [],i,F,H,K,h=>⟨F,H,h,0,fun _ _ _ _ _ _=>rfl⟩
 | o::r,i,F,H,K,h=>by
  simp only [mS] at h;rcases yv5 h with ⟨hg,h⟩ | ⟨hg,h⟩
  ·obtain ⟨out,h,m0,hm⟩:=OC hP hG h;split at h
   ·exact h.elim
   ·rename_i F' hF';rw [Bs] at h;obtain ⟨F2,H2,hk,m1,hm1⟩:=Ea hP hG r (i+1) F' out.h K h;refine ⟨F2,H2,hk,max m0 m1,fun n e m hn hp hle=>?_⟩;have e0:yez e (ybu e m) F H o=some (F',out.h):=by
     simp only [yez,hg,hm n e m (by omega) hp (by omega),hF',Option.map]
    simp only [ybo,e0];exact hm1 n e m (by omega) hp (by omega)
  ·obtain ⟨F2,H2,hk,m1,hm1⟩:=Ea hP hG r (i+1) (xC F o.dst) H K h;refine ⟨F2,H2,hk,m1,fun n e m hn hp hle=>?_⟩;have e0:yez e (ybu e m) F H o=some (xC F o.dst,H):=by
    simp only [yez,hg]
    cases o.dst<;>rfl
   simp only [ybo,e0];exact hm1 n e m hn hp hle
structure Cov (p q:FP):Prop where
 rd:q.rd=p.rd
 wr:q.wr=p.wr
 h:p.all=true∨((∀ x,x∈q.hr→x∈p.hr)∧(∀ x,x∈q.hw→x∈p.hw)∧(q.push=true→p.push=true)∧q.all=false)
theorem Cov.tight (p:FP) (H H1:Hp):Cov p (p.tight H H1):=by
 unfold FP.tight
 cases h:p.all with
 | true=>exact ⟨rfl,rfl,.inl h⟩
 | false=>exact ⟨rfl,rfl,.inr ⟨fun _ h=>h,fun _ h=>h,fun h=>h,h⟩⟩
def ysS:List FP→List FP→Prop
 | [],[]=>True
 | p::r,q::s=>Cov p q∧ysS r s
 | _,_=>False
theorem ysS.get:∀ (l l':List FP),ysS l l'→∀ (i:Nat) (p:FP),l[i]?=some p→∃ q:FP,l'[i]?=some q∧Cov p q
 | [],_,_,i,p,e=>by simp at e
 | p::r,[],h,_,_,_=>h.elim
 | p::r,q::s,h,i,x,e=>by
  obtain ⟨h1,h2⟩:=h
  cases i with
  | zero=>simp at e;subst e;exact ⟨q,rfl,h1⟩
  | succ i=>simp at e;simpa using ysS.get r s h2 i x e
theorem OD:∀ l:List Nat,jV l []=false
 | []=>rfl
 | x::r=>by simp only [jV,OD r];rfl
theorem OE:∀ (l m:List Nat),jV l m=true↔∃ x,x∈l∧x∈m
 | [],m=>by simp [jV]
 | y::r,m=>by
  simp only [jV,nR,OE r m,AM,decide_eq_true_eq,qAo];constructor
  ·rintro (h | ⟨x,h1,h2⟩)
   ·exact ⟨y,.inl rfl,h⟩
   ·exact ⟨x,.inr h1,h2⟩
  ·rintro ⟨x,rfl | h1,h2⟩
   ·exact .inl h2
   ·exact .inr ⟨x,h1,h2⟩
theorem OF {a b a' b':List Nat} (h:jV a b=false) (ha:∀ x,x∈a'→x∈a) (hb:∀ x,x∈b'→x∈b):jV a' b'=false:=by
 cases e:jV a' b' with
 | false=>rfl
 | true=>
  obtain ⟨x,h1,h2⟩:=(OE _ _).1 e;have:jV a b=true:=(OE _ _).2 ⟨x,ha x h1,hb x h2⟩;rw [h] at this
  cases this
theorem Zp {a:List Nat} (h:∀ x,x∈a→x∈([]:List Nat)):a=[]:=by
 cases a with
 | nil=>rfl
 | cons x r=>exact absurd (h x kC) (by simp)
theorem rn {p q p' q':FP} (h:vH p q=false) (hp:Cov p p') (hq:Cov q q'):vH p' q'=false:=by
 have hpx:∀ {x x':FP},x.heapy=false→Cov x x'→x'.push=false∧x'.all=false∧x'.hr=[]∧x'.hw=[]:=by
  intro x x' hx hc;simp only [FP.heapy,wL,Bool.not_eq_false',yX] at hx;obtain ⟨⟨⟨h1,h2⟩,h3⟩,h4⟩:=hx;rcases hc.h with h | ⟨k1,k2,k3,k4⟩
  ·rw [h2] at h;cases h
  ·rw [h3] at k1;rw [h4] at k2;refine ⟨?_,k4,Zp k1,Zp k2⟩
   cases e:x'.push with
   | false=>rfl
   | true=>rw [k3 e] at h1;cases h1
 simp only [vH,wL] at h;obtain ⟨⟨⟨⟨⟨⟨⟨⟨A,B⟩,C⟩,D⟩,E⟩,G⟩,I⟩,J⟩,K⟩:=h;have A':jV p'.wr q'.rd=false:=by rw [hp.wr,hq.rd];exact A
 have B':jV p'.wr q'.wr=false:=by rw [hp.wr,hq.wr];exact B
 have C':jV q'.wr p'.rd=false:=by rw [hp.rd,hq.wr];exact C
 cases ea:p.all with
 | true =>rw [ea,pI] at D;obtain ⟨h1,h2,h3,h4⟩:=hpx D hq;simp [vH,A',B',C',h1,h2,h3,h4,OD,jV,FP.heapy]
 | false=>
  cases eb:q.all with
  | true =>rw [eb,pI] at E;obtain ⟨h1,h2,h3,h4⟩:=hpx E hp;simp [vH,A',B',C',h1,h2,h3,h4,OD,jV,FP.heapy]
  | false=>
   rcases hp.h with h|⟨k1,k2,k3,k4⟩
   ·rw [ea] at h;cases h
   rcases hq.h with h|⟨l1,l2,l3,l4⟩
   ·rw [eb] at h;cases h
   have G':(p'.push&&q'.push)=false:=by
    cases e1:p'.push with
    | false=>rfl
    | true=>
     cases e2:q'.push with
     | false=>rfl
     | true=>rw [k3 e1,l3 e2] at G;cases G
   simp only [vH,A',B',C',k4,l4,mJ,G',OF I k2 l1,OF J k2 l2,OF K l2 k1,Bool.or_self]
theorem OG {l l':List FP} (ht:ysS l l'):∀ (pairs:List (Nat×Nat)),yid l pairs=true→yid l' pairs=true
 | [],_=>rfl
 | (i,j)::r,h=>by
  simp only [yid,bO] at h ⊢;refine ⟨?_,OG ht r h.2⟩;have h1:=h.1;split at h1
  ·rename_i p q e1 e2;obtain ⟨p',k1,c1⟩:=ysS.get l l' ht i p e1;obtain ⟨q',k2,c2⟩:=ysS.get l l' ht j q e2;rw [k1,k2];simp only [jR] at h1 ⊢;exact rn h1 c1 c2
  ·cases h1
theorem Ki {E e:Env} (h:cN E e) (f:PV) (args:List PV):ype e f args=ype E f args:=by unfold cN at h;rw [h];rfl
theorem rp {p q:PV} {H H1:Hp} (h:yca H p=some (q,H1)):EffI (cO p) H H1 H H1:=by
 obtain ⟨H1',e,k⟩:=DN (H':=H) (fun _ _=>rfl) h;rw [h] at e
 cases e
 exact k
theorem OH:∀ (l ps:List PV) (H H1:Hp),ybd H l=some (ps,H1)→H1.length=H.length∧∀ id,id∉fJ l→H1[id]?=H[id]?
 | [],ps,H,H1,h=>by simp only [ybd,bT,Prod.mk.injEq] at h;rw [← h.2];exact ⟨rfl,fun _ _=>rfl⟩
 | x::r,ps,H,H1,h=>by
  simp only [ybd] at h;split at h
  ·rename_i y H2 hy;split at h
   ·rename_i ys H3 hys;simp only [bT,Prod.mk.injEq] at h;obtain ⟨_,rfl⟩:=h;obtain ⟨l1,o1⟩:=OH r ys H2 _ hys;have k:=rp hy;refine ⟨l1.trans k.len.1,fun id hid=>?_⟩;simp only [fJ,qAv,not_or] at hid;rw [o1 id hid.2,(k.out id hid.1).1]
   ·cases h
  ·cases h
theorem rq {call:Nat→List PV→Hp→Option (PV×Hp)} {x:LocC} {H H1:Hp} {r:PV} (h:Dm call x H=some (r,H1)):∀ id,id∈cV 0 H H1→id∈x.id::fJ (x.all.set x.j (.int .i64 0)):=by
 intro id hm;unfold Dm at h;split at h
 ·rename_i az H' hp;split at h
  ·rename_i b hb;split at h
   ·split at h
    ·rename_i q rows hq;simp only [bT,Prod.mk.injEq] at h;obtain ⟨_,rfl⟩:=h;obtain ⟨l1,o1⟩:=OH _ _ _ _ hp
     by_cases hi:id=x.id
     ·rw [hi];exact kC
     ·by_cases hj:id∈fJ (x.all.set x.j (.int .i64 0))
      ·exact gO _ hj
      ·refine absurd hm ?_;have:=Oj 0 H (H'.set x.id { b with rows:=rows }) (by simp [l1]) id (by
        rw [pG (fun e=>hi e.symm),o1 id hj])
       simpa using this
    ·cases h
   ·cases h
  ·cases h
 ·cases h
theorem OI {H H1:Hp} {l:List Nat} (h1:H1.length=H.length) (h2:∀ id,id∉l→H1[id]?=H[id]?):∀ id,id∈cV 0 H H1→id∈l:=by
 intro id hm
 by_cases hj:id∈l
 ·exact hj
 ·refine absurd hm ?_;have:=Oj 0 H H1 h1 id (h2 id hj);simpa using this
theorem rr {e:Env} {call:Nat→List PV→Hp→Option (PV×Hp)} {n:Nat} {first captured vs:List PV} {H H1:Hp} {r:PV} (hq:e.qui n=true) (h:pK e call (.fn (.func n) first captured) vs H=some (r,H1)):∀ id,id∈cV 0 H H1→id∈fJ (first++vs++captured):=by
 simp only [pK,hq,if_true] at h;split at h
 ·split at h
  ·split at h
   ·split at h
    ·cases h
     exact OI rfl fun _ _=>rfl
    ·cases h
   ·cases h
  ·cases h
 ·split at h
  ·rename_i x hx
   cases h
   split at hx
   ·rename_i az H' hp;obtain ⟨l1,o1⟩:=OH _ _ _ _ hp;split at hx
    ·split at hx
     ·cases hx
      exact OI rfl fun _ _=>rfl
     ·cases hx
      exact OI l1 o1
    ·cases hx
   ·cases hx
  ·cases h
theorem Zq {e:Env} (hl:cN E e) {call:Nat→List PV→Hp→Option (PV×Hp)} {F:aD} {H:Hp} {o:AOp} {out:Out} (h:yas e call F H o=some out) (a b _ _:List Nat) :
  Cov ⟨a++(Ad E F H o).rd,b++(Ad E F H o).wr,(Ad E F H o).hr,(Ad E F H o).hw,(Ad E F H o).push,(Ad E F H o).all⟩
   ((⟨a++(aR E F H o).rd,b++(aR E F H o).wr,(aR E F H o).hr,(aR E F H o).hw,(aR E F H o).push,(aR E F H o).all⟩:FP).tight H out.h):=by
 unfold Ad;split
 ·rename_i f az
  cases hq:vG E F f az with
  | true=>exact Cov.tight _ _ _
  | false=>
  rw [cond_false];split
  ·rename_i l hli;unfold yKj at hli;split at hli
   ·rename_i g vs hg hvs;have hg':evV e F f=some g:=by unfold cN at hl;rw [hl,rM];exact hg
    have hv':evs e F az=some vs:=by unfold cN at hl;rw [hl,Bu];exact hvs
    simp only [yas,hg',hv'] at h;split at h
    ·rename_i r H1 hr
     cases h
     have key:∀ id,id∈cV 0 H H1→id∈l:=by
      split at hli
      ·rename_i x hx
       cases hli
       simp only [ylw,(Ki hl g vs).trans hx] at hr;exact rq hr
      ·rename_i hx;simp only [ylw,(Ki hl g vs).trans hx] at hr;split at hli
       ·rename_i n first captured
        cases hqu:E.qui n with
        | false=>rw [hqu] at hli;cases hli
        | true=>
         rw [hqu] at hli
         cases hli
         have:e.qui n=true:=by unfold cN at hl;rw [hl];exact hqu
         exact rr this hr
       ·cases hli
     simp only [aR,hq,jS,FP.tight,if_true];exact ⟨rfl,rfl,.inr ⟨fun _ h=>h,key,fun h=>h,rfl⟩⟩
    ·cases h
   ·cases hli
  ·exact Cov.tight _ _ _
 ·exact Cov.tight _ _ _
theorem OJ {P:EP} (hP:aK P E) (hG:Good P callK) {an:List An} {F0:aD} {l0:List AO} {pairs:List (Nat×Nat)}:∀ (l:List AO) (i:Nat) (F:aD) (H:Hp) (ps:List FP) (K:aD→Hp→Prop),pV E callK an F0 l0 pairs l i F H ps K →
  ∃ F' H' qs,K F' H'∧yid (ps.reverse++qs) pairs=true∧wS F0 l0 l0=true∧∃ m0,∀ n e m,m0≤n→P n e→m0≤m→∃ qt,ysS qs qt∧yjL e (ybu e m) l F H=some (F',H',qt)
 | [],i,F,H,ps,K,h=>by simp only [pV] at h;obtain ⟨h1,h⟩:=bJ.1 h;simp only [bO] at h1;exact ⟨F,H,[],h,by simpa using h1.1,h1.2,0,fun _ _ _ _ _ _=>⟨[],trivial,rfl⟩⟩
 | o::r,i,F,H,ps,K,h=>by
  simp only [pV] at h;have hfp:∀ n e,P n e→∀ F H,ydd e F H o=ydd E F H o:=by
   intro n e hp F H;have hl:=hP n e hp;unfold cN at hl;rw [hl];simp only [ydd,Zi]
  rcases yv5 h with ⟨hg,h⟩|⟨hg,h⟩
  ·obtain ⟨out,h,m0,hm⟩:=OC hP hG h;split at h
   ·exact h.elim
   ·rename_i F' hF';rw [Bs] at h;obtain ⟨F2,H2,qs,hk,ha,hb,m1,hm1⟩:=OJ hP hG r (i+1) F' out.h (yxh E F H o::ps) K h;refine ⟨F2,H2,yxh E F H o::qs,hk,by simpa using ha,hb,max m0 m1,fun n e m hn hp hle=>?_⟩;obtain ⟨qt,ht,hq⟩:=hm1 n e m (by omega) hp (by omega);have ho:=hm n e m (by omega) hp (by omega);have e0:ygM e (ybu e m) o (F,H)=some (F',out.h):=by
     simp only [ygM,hg,ho,hF',Option.map]
    refine ⟨(ydd E F H o).tight H out.h::qt,⟨?_,ht⟩,?_⟩
    ·simp only [ydd,hg,yxh];exact Zq (hP n e hp) ho _ _ [] []
    ·simp only [yjL,e0,hq,hfp n e hp]
  ·obtain ⟨F2,H2,qs,hk,ha,hb,m1,hm1⟩:=OJ hP hG r (i+1) (xC F o.dst) H (fpNo o::ps) K h;refine ⟨F2,H2,fpNo o::qs,hk,by simpa using ha,hb,m1,fun n e m hn hp hle=>?_⟩;obtain ⟨qt,ht,hq⟩:=hm1 n e m hn hp hle;have e0:ygM e (ybu e m) o (F,H)=some (xC F o.dst,H):=by
    simp only [ygM,hg]
    cases o.dst<;>rfl
   have e2:ydd E F H o=fpNo o:=by simp only [ydd,hg,fpNo]
   refine ⟨(fpNo o).tight H H::qt,⟨Cov.tight _ _ _,ht⟩,?_⟩;simp only [yjL,e0,hq,hfp n e hp,e2]
def fA (P:EP) (c:AC) (F:aD) (H:Hp) (Q:Ex→aD→Hp→Prop):Prop:=
 ∃ x F' H',Q x F' H'∧∃ m0,∀ n e m,m0≤n→P n e→m0≤m→exec e m c F H=some (x,F',H')
theorem fA.sub {P P':EP} {c:AC} {F:aD} {H:Hp} {Q:Ex→aD→Hp→Prop} (h:fA P c F H Q) (hs:∀ n e,P' n e→P n e):fA P' c F H Q:=by obtain ⟨x,F',H',h1,m0,h2⟩:=h;exact ⟨x,F',H',h1,m0,fun n e m k1 k2 k3=>h2 n e m k1 (hs n e k2) k3⟩
def cA (P:EP) (c:TC) (F:aD) (H:Hp) (Q:Ex→aD→Hp→Prop):Prop:=fA P (bP c) F H Q
def dE:TC→Bool
 | .seq a b | .cond _ a b=>dE a&&dE b
 | .block _ b=>dE b
 | .loop _ b=>dE b
 | .lG _ b=>dE b
 | .join _ b=>dE b
 | .rangeF _ _ _ _ _ _ _=>false
 | _=>true
def LpOk (P:EP) (E:Env) (lp:LP) (G:aD):TC→Prop
 | .seq a b=>LpOk P E lp G a∧LpOk P E lp G b
 | .cond _ a b=>LpOk P E lp G a∧LpOk P E lp G b
 | .block _ b=>LpOk P E lp G b
 | .loop id b=>LpOk P E lp G b∧∀ F H Q,lp id G F H Q→cA P (.loop id b) F H Q
 | .lG id b=>LpOk P E lp G b∧∀ F H Q,lp id G F H Q→cA P (.lG id b) F H Q
 | .join id b=>LpOk P E lp G b∧∀ F H Q,lp id G F H Q→cA P (.join id b) F H Q
 | .rangeF _ f np ib ps az bd=>(∃ rs,E.fns f=some ⟨np,rs,bP ib⟩∧rs.length=0)∧(dE ib=true∧dE az=true∧dE bd=true)∧(∀ G,LpOk (GM E G ps (bP az) (bP bd)) E lp G ib)∧LpOk (GL E) E lp [] az∧LpOk (GL E) E lp [] bd
 | _=>True
def kO:TC→List (Nat×TC)
 | .seq a b | .cond _ a b=>kO a++kO b
 | .block _ b=>kO b
 | .loop id b=>kO b++[(id,.loop id b)]
 | .lG id b=>kO b++[(id,.lG id b)]
 | .join id b=>kO b++[(id,.join id b)]
 | _=>[]
theorem vM {P:EP} {E:Env} {lp:LP} {G:aD}:∀ (c:TC),dE c=true→(∀ p∈kO c,∀ F H Q,lp p.1 G F H Q→cA P p.2 F H Q)→LpOk P E lp G c
 | .skip,_,_ | .ops _ _ _ _,_,_ | .exit _,_,_ | .ret,_,_ | .bad,_,_ | .yret _ _ _ _ _ _ _,_,_ | .cut _,_,_=>trivial
 | .rangeF _ _ _ _ _ _ _,hf,_=>by simp [dE] at hf
 | .seq a b,hf,h=>by simp only [dE,bO] at hf;exact ⟨vM a hf.1 fun p hp=>h p (by simp only [kO,qAv];exact .inl hp),vM b hf.2 fun p hp=>h p (by simp only [kO,qAv];exact .inr hp)⟩
 | .cond _ a b,hf,h=>by simp only [dE,bO] at hf;exact ⟨vM a hf.1 fun p hp=>h p (by simp only [kO,qAv];exact .inl hp),vM b hf.2 fun p hp=>h p (by simp only [kO,qAv];exact .inr hp)⟩
 | .block _ b,hf,h=>vM b hf h
 | .loop id b,hf,h=>⟨vM b hf fun p hp=>h p (by simp only [kO,qAv];exact .inl hp),h (id,.loop id b) (by simp [kO])⟩
 | .lG id b,hf,h=>⟨vM b hf fun p hp=>h p (by simp only [kO,qAv];exact .inl hp),h (id,.lG id b) (by simp [kO])⟩
 | .join id b,hf,h=>⟨vM b hf fun p hp=>h p (by simp only [kO,qAv];exact .inl hp),h (id,.join id b) (by simp [kO])⟩
def cH (P:EP) (E:Env) (yk:YK):Prop:=∀ vs H K,yk vs H K→∃ r H',K r H'∧∃ m0,∀ n e,m0≤n→P n e→e.yl e.yn E.yn vs H=some (r,H')
theorem cH.no (P:EP) (E:Env):cH P E gS:=fun _ _ _ h=>h.elim
def aY (P:EP) (E:Env) (callK:CK) (c:TC):Prop:=dE c=false→Good (Uni E) callK∧∀ n e,P n e→e=E
theorem fA.up {P:EP} {c:AC} {F:aD} {H:Hp} {Q:Ex→aD→Hp→Prop} {x:Ex} {F':aD} {H':Hp} {m0:Nat} (hk:Q x F' H') (h:∀ n e k,m0≤n→P n e→m0≤k→exec e (k+1) c F H=some (x,F',H')):fA P c F H Q:=
 ⟨x,F',H',hk,m0+1,fun n e m hn hp hm=>by
  obtain ⟨k,rfl⟩:∃ k,m=k+1:=⟨m-1,by omega⟩;exact h n e k (by omega) hp (by omega)⟩
def Kj (E:Env) (F:aD) (H:Hp):Option (Ex×aD×Hp)→Option (Ex×aD×Hp)
 | some (.norm,_,H') | some (.ret,_,H')=>(match clrY E.yn H.length H' with | some H2=>some (.norm,F,H2) | none=>none)
 | some (.brk k i,_,H')=>if k=E.yn then (match clrY E.yn H.length H' with | some H2=>some (.exit i,F,H2) | none=>none) else none
 | _=>none
theorem OL {E:Env} {n:Nat} {g:Opd} {ps:List Nat} {az bd:AC} {F:aD} {H:Hp} {f:Nat} {first cap:List PV} {fn:AFn} (hg:evV E F g=some (.fn (.func f) first cap)) (hf:E.fns f=some fn) (hc:(first++[PV.fn (.yield E.yn) [] []]++cap).length=fn.nparams∧fn.results.length=0) :
  exec E (n+1) (.rangeF g ps az bd) F H=Kj E F H (exec (E.push ⟨jL F,ps,az,bd⟩ (hnd E (jL F) ps az bd n)) n fn.body (iX 0 (first++[PV.fn (.yield E.yn) [] []]++cap)) H):=by
 simp only [exec,hg];simp only [hf];rw [WM hc];rfl
theorem Zr {K n0:Nat}:∀ (H:Hp) (i:Nat),gF (noY K) (fun _=>true) H=true→badY K n0 [] i H=[]
 | [],_,_=>rfl
 | b::r,i,h=>by simp only [gF,bO] at h;have h1:ybg (noY K) (fun id=>!memB [] id) b.rows=true:=h.1;simp only [badY,h1,jJ,Bool.and_false,cond_false];exact Zr r (i+1) h.2
theorem ru {K n0:Nat} {H:Hp} (h:gF (noY K) (fun _=>true) H=true):clrY K n0 H=some H:=by simp only [clrY,Zr H 0 h,h,cond_true]
theorem oW {lp:LP}:∀ (c:TC) (P:EP) (_:aK P E) (_:Good P callK) (_:aY P E callK c) (G:aD) (yk:YK) (_:cH P E yk) (_:LpOk P E lp G c) (F:aD) (H:Hp) (Q:Ex→aD→Hp→Prop),WC E callK lp G yk c F H Q→fA P (bP c) F H Q
 | .skip,P,hP,hG,hR,G,yk,hY,_,F,H,Q,h=>by simp only [WC] at h;exact fA.up (m0:=0) h fun n e k _ _ _=>by simp only [bP,exec]
 | .exit id,P,hP,hG,hR,G,yk,hY,_,F,H,Q,h=>by simp only [WC] at h;exact fA.up (m0:=0) h fun n e k _ _ _=>by simp only [bP,exec]
 | .ret,P,hP,hG,hR,G,yk,hY,_,F,H,Q,h=>by simp only [WC] at h;exact fA.up (m0:=0) h fun n e k _ _ _=>by simp only [bP,exec]
 | .bad,P,hP,hG,hR,G,yk,hY,_,F,H,Q,h=>by simp only [WC] at h
 | .cut _,P,hP,hG,hR,G,yk,hY,_,F,H,Q,h=>by simp only [WC] at h
 | .ops l an ps fg,P,hP,hG,hR,G,yk,hY,_,F,H,Q,h=>by
  cases ps with
  | nil =>simp only [WC] at h;obtain ⟨F',H',hk,m0,hm⟩:=Ea hP hG l 0 F H _ h;rw [Bs] at hk;exact fA.up (m0:=m0) hk fun n e k hn hp hle=>by simp only [bP,exec,yiz,hm n e k hn hp hle]
  | cons p ps=>
   simp only [WC] at h
   cases htw:Dr l (p::ps) with
   | true =>rw [htw,cond_true] at h;obtain ⟨F',H',hk,m0,hm⟩:=Ea hP hG l 0 F H _ h;rw [Bs] at hk;exact fA.up (m0:=m0) hk fun n e k hn hp hle=>by simp only [bP,exec,yiz,htw,cond_true,hm n e k hn hp hle]
   | false=>
    rw [htw,cond_false] at h;obtain ⟨F',H',qs,hk,ha,hb,m0,hm⟩:=OJ hP hG l 0 _ H [] _ h;rw [Bs] at hk;refine fA.up (m0:=m0) hk fun n e k hn hp hle=>?_
    obtain ⟨qt,ht,hq⟩:=hm n e k hn hp hle;simp only [bP,exec,yiz,htw,cond_false,hq];rw [WM ⟨OG ht _ (by simpa using ha),hb⟩]
 | .seq a b,P,hP,hG,hR,G,yk,hY,hl,F,H,Q,h=>by
  simp only [WC] at h;simp only [LpOk] at hl;have hRa:aY P E callK a:=fun hf=>hR (by simp only [dE,hf,mJ])
  have hRb:aY P E callK b:=fun hf=>hR (by simp only [dE,hf,Bool.and_false])
  obtain ⟨x,F',H',hk,m0,hm⟩:=oW a P hP hG hRa G yk hY hl.1 F H _ h
  cases x with
  | norm =>obtain ⟨x2,F2,H2,hk2,m1,hm1⟩:=oW b P hP hG hRb G yk hY hl.2 F' H' Q hk;exact fA.up (m0:=max m0 m1) hk2 fun n e k hn hp hle=>by simp only [bP,exec,hm n e k (by omega) hp (by omega),hm1 n e k (by omega) hp (by omega)]
  | exit i=>exact fA.up (m0:=m0) hk fun n e k hn hp hle=>by simp only [bP,exec,hm n e k hn hp hle]
  | ret=>exact fA.up (m0:=m0) hk fun n e k hn hp hle=>by simp only [bP,exec,hm n e k hn hp hle]
  | brk _ _=>exact fA.up (m0:=m0) hk fun n e k hn hp hle=>by simp only [bP,exec,hm n e k hn hp hle]
 | .cond c a b,P,hP,hG,hR,G,yk,hY,hl,F,H,Q,h=>by
  simp only [WC] at h;simp only [LpOk] at hl;have hRa:aY P E callK a:=fun hf=>hR (by simp only [dE,hf,mJ])
  have hRb:aY P E callK b:=fun hf=>hR (by simp only [dE,hf,Bool.and_false])
  split at h
  ·rename_i t ht;have hte:∀ n e,P n e→evV e F c=some (.bool t):=fun n e hp=>by
    have hl:=hP n e hp;unfold cN at hl;rw [hl,rM];exact ht
   obtain ⟨h1,h2⟩:=pR.1 h
   cases t with
   | true =>obtain ⟨x,F',H',hk,m0,hm⟩:=oW a P hP hG hRa G yk hY hl.1 F H Q (Kh ht ▸ h1 rfl);exact fA.up (m0:=m0) hk fun n e k hn hp hle=>by simp only [bP,exec,hte n e hp,hm n e k hn hp hle]
   | false =>obtain ⟨x,F',H',hk,m0,hm⟩:=oW b P hP hG hRb G yk hY hl.2 F H Q (Kh ht ▸ h2 rfl);exact fA.up (m0:=m0) hk fun n e k hn hp hle=>by simp only [bP,exec,hte n e hp,hm n e k hn hp hle]
  ·exact h.elim
 | .block id b,P,hP,hG,hR,G,yk,hY,hl,F,H,Q,h=>by
  simp only [WC] at h;simp only [LpOk] at hl;have hRb:aY P E callK b:=fun hf=>hR (by simp only [dE,hf])
  obtain ⟨x,F',H',hk,m0,hm⟩:=oW b P hP hG hRb G yk hY hl F H _ h
  cases x with
  | norm=>exact fA.up (m0:=m0) hk fun n e k hn hp hle=>by simp only [bP,exec,hm n e k hn hp hle]
  | exit i=>
   simp only at hk
   cases hb:Nat.beq i id with
   | true =>rw [hb] at hk;have e:=dK hb;subst e;exact fA.up (m0:=m0) (x:=.norm) hk fun n e k hn hp hle=>by simp only [bP,exec,hm n e k hn hp hle,if_true]
   | false=>
    rw [hb] at hk;have e:¬i=id:=fun e=>by subst e;rw [Nat.beq_refl] at hb;cases hb
    exact fA.up (m0:=m0) (x:=.exit i) hk fun n e' k hn hp hle=>by simp only [bP,exec,hm n e' k hn hp hle,e,if_false]
  | ret=>exact fA.up (m0:=m0) hk fun n e k hn hp hle=>by simp only [bP,exec,hm n e k hn hp hle]
  | brk _ _=>exact fA.up (m0:=m0) hk fun n e k hn hp hle=>by simp only [bP,exec,hm n e k hn hp hle]
 | .loop id b,P,hP,hG,hR,G,yk,hY,hl,F,H,Q,h=>by simp only [WC] at h;simp only [LpOk] at hl;exact hl.2 F H Q h
 | .lG id b,P,hP,hG,hR,G,yk,hY,hl,F,H,Q,h=>by simp only [WC] at h;simp only [LpOk] at hl;exact hl.2 F H Q h
 | .join id b,P,hP,hG,hR,G,yk,hY,hl,F,H,Q,h=>by simp only [WC] at h;simp only [LpOk] at hl;exact hl.2 F H Q h
 | .yret c pre d y args e0 fgt,P,hP,hG,hR,G,yk,hY,_,F,H,Q,h=>by
  simp only [WC] at h;obtain ⟨F1,H1,hk,m0,hm⟩:=Ea hP hG pre 0 F H _ h;split at hk
  ·rename_i k vs hy hvs;obtain ⟨hb,hk⟩:=bJ.1 hk;have hb:=dK hb;subst hb;obtain ⟨r,H2,hk,m1,hm1⟩:=hY _ _ _ hk;have hye:∀ n e,P n e→evV e F1 y=some (.fn (.yield E.yn) [] [])∧evs e F1 args=some vs:=fun n e hp=>by
    have hl:=hP n e hp;unfold cN at hl;rw [hl,rM,Bu];exact ⟨hy,hvs⟩
   cases r with
   | none=>
    simp only [Bs] at hk;refine fA.up (m0:=max m0 m1) hk fun n e k hn hp hle=>?_
    simp only [bP,exec,yiz,hm n e k (by omega) hp (by omega),(hye n e hp).1,(hye n e hp).2,hm1 n e (by omega) hp]
   | some i=>
    refine fA.up (m0:=max m0 m1) hk fun n e k hn hp hle=>?_
    simp only [bP,exec,yiz,hm n e k (by omega) hp (by omega),(hye n e hp).1,(hye n e hp).2,hm1 n e (by omega) hp]
  ·exact hk.elim
 | .rangeF g f np ib ps az bd,P,hP,hG,hR,G,yk,hY,hl,F,H,Q,h=>by
  simp only [WC] at h;simp only [LpOk] at hl;obtain ⟨⟨rs,hfn,hrs⟩,hflat,hl1,hl2,hl3⟩:=hl;obtain ⟨hU,hE⟩:=hR rfl;split at h
  ·rename_i n first cap hg;obtain ⟨hc,h2⟩:=bJ.1 h;clear h;simp only [bO,decide_eq_true_eq] at hc;have hn:=dK hc.1;subst hn;have hq:∀ (P':EP) (c:TC) (_:aK P' E),dE c=true→aY P' E callK c:=fun _ _ _ hf hf'=>by rw [hf] at hf';cases hf'
   have hyo:cH (GM E (jL F) ps (bP az) (bP bd)) E (fun vs H K=>match ypg (jL F) ps vs with
      | some F1=>WC E callK lp [] gS az F1 H fun x F2 H2=>match x with
       | .norm=>WC E callK lp [] gS bd F2 H2 fun x _ H3=>match x with
        | .norm=>K none H3
        | .exit i=>K (some i) H3
        | .ret | .brk _ _=>False
       | .exit _ | .ret | .brk _ _=>False
      | none=>False):=by
    intro vs H K hk;simp only at hk;split at hk
    ·rename_i F1 hF1;obtain ⟨x,F2,H2,hk,m0,hm⟩:=oW az (GL E) (aK.ats E) (hU.sub (aK.ats E)) (hq _ _ (aK.ats E) hflat.2.1) [] gS (cH.no _ _) hl2 F1 H _ hk
     cases x with
     | norm=>
      simp only at hk;obtain ⟨x,F3,H3,hk,m1,hm1⟩:=oW bd (GL E) (aK.ats E) (hU.sub (aK.ats E)) (hq _ _ (aK.ats E) hflat.2.2) [] gS (cH.no _ _) hl3 F2 H2 _ hk;have key:∀ n e,max m0 m1≤n→GM E (jL F) ps (bP az) (bP bd) n e→e.yl e.yn E.yn vs H=hnd E (jL F) ps (bP az) (bP bd) n (E.yn+1) vs H:=by
       intro n e hn he
       cases he
       simp only [Env.push,if_true]
      cases x with
      | norm =>refine ⟨none,H3,hk,max m0 m1,fun n e hn he=>?_⟩;rw [key n e hn he];simp only [hnd,hF1,hm n _ n (by omega) rfl (by omega),hm1 n _ n (by omega) rfl (by omega)]
      | exit i =>refine ⟨some i,H3,hk,max m0 m1,fun n e hn he=>?_⟩;rw [key n e hn he];simp only [hnd,hF1,hm n _ n (by omega) rfl (by omega),hm1 n _ n (by omega) rfl (by omega)]
      | ret=>exact hk.elim
      | brk _ _=>exact hk.elim
     | exit i=>exact hk.elim
     | ret=>exact hk.elim
     | brk _ _=>exact hk.elim
    ·exact hk.elim
   obtain ⟨x,F',H',hk,m0,hm⟩:=oW ib (GM E (jL F) ps (bP az) (bP bd)) (aK.rng E (jL F) ps (bP az) (bP bd)) (hU.sub (aK.rng E (jL F) ps (bP az) (bP bd))) (hq _ _ (aK.rng E (jL F) ps (bP az) (bP bd)) hflat.1) (jL F) _ hyo (hl1 _) _ H _ h2;have hclr:∀ {H':Hp} {Q':Hp→Prop},Bt E.yn H' Q'→Q' H'∧clrY E.yn H.length H'=some H':=fun hw=>by
    obtain ⟨h1,h2⟩:=bJ.1 hw;exact ⟨h2,ru h1⟩
   have run:∀ k,m0≤k→exec (E.push ⟨jL F,ps,bP az,bP bd⟩ (hnd E (jL F) ps (bP az) (bP bd) k)) k (bP ib) (iX 0 (first++[PV.fn (.yield E.yn) [] []]++cap)) H=some (x,F',H'):=fun k hle=>hm k _ k hle rfl hle
   cases x with
   | norm=>
    obtain ⟨hk,hcl⟩:=hclr hk;refine fA.up (m0:=m0) hk fun n e k hn hp hle=>?_
    cases hE n e hp
    simp only [bP];rw [OL hg hfn ⟨hc.2,hrs⟩];simp only;rw [run k hle];simp only [Kj,hcl]
   | ret=>
    obtain ⟨hk,hcl⟩:=hclr hk;refine fA.up (m0:=m0) hk fun n e k hn hp hle=>?_
    cases hE n e hp
    simp only [bP];rw [OL hg hfn ⟨hc.2,hrs⟩];simp only;rw [run k hle];simp only [Kj,hcl]
   | brk k0 i=>
    obtain ⟨hb,hk2⟩:=bJ.1 hk;clear hk;have hb:=dK hb;subst hb;obtain ⟨hk,hcl⟩:=hclr hk2;refine fA.up (m0:=m0) hk fun n e k hn hp hle=>?_
    cases hE n e hp
    simp only [bP];rw [OL hg hfn ⟨hc.2,hrs⟩];simp only;rw [run k hle];simp only [Kj,if_true,hcl]
   | exit i=>exact hk.elim
  ·exact h.elim
theorem cA.intro {id:Nat} {P:EP} (hP:aK P E) (hG:Good P callK) {lp:LP} {b:TC} (hf:dE b=true) {G:aD} {yk:YK} (hY:cH P E yk) (hl:LpOk P E lp G b) {Q:Ex→aD→Hp→Prop} (R:Nat→aD→Hp→Prop) (h0:∀ F H,¬R 0 F H)
  (hs:∀ n F H,R (n+1) F H→WC E callK lp G yk b F H fun x F' H'=>match x with | .norm=>R n F' H' | .exit i=>Q (.exit i) F' H' | .ret=>Q .ret F' H' | .brk k i=>Q (.brk k i) F' H') :
  ∀ n F H,R n F H→cA P (.loop id b) F H Q
 | 0,F,H,h=>(h0 F H h).elim
 | n+1,F,H,h=>by
  obtain ⟨x,F',H',hk,m0,hm⟩:=oW b P hP hG (fun hf'=>by rw [hf] at hf';cases hf') G yk hY hl F H _ (hs n F H h)
  cases x with
  | norm =>have hk:R n F' H':=hk;obtain ⟨x2,F2,H2,hk2,m1,hm1⟩:=cA.intro (id:=id) hP hG hf hY hl R h0 hs n F' H' hk;simp only [bP] at hm1;exact fA.up (m0:=max m0 m1) hk2 fun n e k hn hp hle=>by simp only [bP,exec,hm n e k (by omega) hp (by omega),hm1 n e k (by omega) hp (by omega)]
  | exit i=>exact fA.up (m0:=m0) hk fun n e k hn hp hle=>by simp only [bP,exec,hm n e k hn hp hle]
  | ret=>exact fA.up (m0:=m0) hk fun n e k hn hp hle=>by simp only [bP,exec,hm n e k hn hp hle]
  | brk _ _=>exact fA.up (m0:=m0) hk fun n e k hn hp hle=>by simp only [bP,exec,hm n e k hn hp hle]
theorem cA.introG {id:Nat} {P:EP} (hP:aK P E) (hG:Good P callK) {lp:LP} {b:TC} (hf:dE b=true) {G:aD} {yk:YK} (hY:cH P E yk) (hl:LpOk P E lp G b) {Q:Ex→aD→Hp→Prop} (R:Nat→aD→Hp→Prop) (h0:∀ F H,¬R 0 F H)
  (hs:∀ n F H,R (n+1) F H→WC E callK lp G yk b F H fun x F' H'=>match x with | .norm=>R n (fdels F' (lJ (bP b))) (oO (fdels F' (lJ (bP b))) H.length H') | .exit i=>Q (.exit i) F' H' | .ret=>Q .ret F' H' | .brk k i=>Q (.brk k i) F' H') :
  ∀ n F H,R n F H→cA P (.lG id b) F H Q
 | 0,F,H,h=>(h0 F H h).elim
 | n+1,F,H,h=>by
  obtain ⟨x,F',H',hk,m0,hm⟩:=oW b P hP hG (fun hf'=>by rw [hf] at hf';cases hf') G yk hY hl F H _ (hs n F H h)
  cases x with
  | norm =>have hk:R n (fdels F' (lJ (bP b))) (oO (fdels F' (lJ (bP b))) H.length H'):=hk;obtain ⟨x2,F2,H2,hk2,m1,hm1⟩:=cA.introG (id:=id) hP hG hf hY hl R h0 hs n _ _ hk;simp only [bP] at hm1;exact fA.up (m0:=max m0 m1) hk2 fun n e k hn hp hle=>by simp only [bP,exec,hm n e k (by omega) hp (by omega),hm1 n e k (by omega) hp (by omega)]
  | exit i=>exact fA.up (m0:=m0) hk fun n e k hn hp hle=>by simp only [bP,exec,hm n e k hn hp hle]
  | ret=>exact fA.up (m0:=m0) hk fun n e k hn hp hle=>by simp only [bP,exec,hm n e k hn hp hle]
  | brk _ _=>exact fA.up (m0:=m0) hk fun n e k hn hp hle=>by simp only [bP,exec,hm n e k hn hp hle]
end
def cX (P:EP) (n:Nat) (az:List PV) (r:PV):Prop:=∃ m0,∀ k e m,m0≤k→P k e→m0≤m→ycH e (ybu e m) n az=some r
def Ans (E:Env) (n:Nat) (az:List PV) (r:PV):Prop:=cX (Uni E) n az r
def oA (E:Env) (n:Nat) (az:List PV) (r:PV):Prop:=cX (jY E) n az r
theorem cX.sub {P P':EP} {n:Nat} {az:List PV} {r:PV} (h:cX P n az r) (hs:∀ k e,P' k e→P k e):cX P' n az r:=by obtain ⟨m0,hm⟩:=h;exact ⟨m0,fun k e m h1 h2 h3=>hm k e m h1 (hs k e h2) h3⟩
theorem Ans.solo {E:Env} {n:Nat} {az:List PV} {r:PV} (h:Ans E n az r):oA E n az r:=cX.sub h fun _ e h=>by cases h;rfl
def Eb (E:Env):Prop:=∀ n az H x,E.eff n az H=some x→E.qui n=false∧E.frz n=false∧(∀ az,E.sum n az=none)∧E.rb n=false
def tE (P:EP) (n:Nat) (az:List PV) (b:HB) (q:PV) (rows:List PV):Prop:=∃ m0,∀ k e m,m0≤k→P k e→m0≤m→yCe (ybu e m) n az b=some (q,rows)
structure SEOk (P:EP) (S:SE):Prop where
 sb:aK P S.E
 sum:∀ n wp,S.sumK n=some wp→∀ az K,wp az K→∃ r,K r∧cX P n az r
 inl:∀ n fn,S.inl n=some fn→S.E.fns n=some fn.fn∧S.E.qui n=false∧S.E.frz n=false∧(∀ az,S.E.sum n az=none)∧(∀ az H,S.E.eff n az H=none)∧dE fn.body=true∧LpOk P S.E S.lp [] fn.body
 eff:Eb S.E
 sumL:∀ n wp,S.sumL n=some wp→∀ az b K,wp az b K→∃ q rows,K q rows∧tE P n az b q rows
section
variable {S:SE} {P:EP} {callK:CK} {H:Hp}
theorem tF {E e:Env} (h:cN E e):e.fns=E.fns∧e.sum=E.sum∧e.qui=E.qui∧e.frz=E.frz∧e.rb=E.rb∧e.nl=E.nl∧e.eff=E.eff:=by unfold cN at h;rw [h];exact ⟨rfl,rfl,rfl,rfl,rfl,rfl,rfl⟩
theorem Kk (hP:aK P S.E) (hG:Good P callK) {fn:TFn} (hR:aY P S.E callK fn.body) (hl:LpOk P S.E S.lp [] fn.body) {n:Nat} (hf:S.E.fns n=some fn.fn) (he:∀ az H,S.E.eff n az H=none) {args:List PV} {K:PV→Hp→Prop} (h:GJ S.E callK S.lp fn args H K) :
  ∃ r H',K r H'∧∃ m0,∀ k e m,m0≤k→P k e→m0≤m→ybu e m n args H=some (r,H'):=by
 obtain ⟨h1,h⟩:=bJ.1 h;have h1:args.length=fn.nparams:=by simpa using h1
 obtain ⟨x,F',H',hk,m0,hm⟩:=oW fn.body P hP hG hR [] gS (cH.no _ _) hl _ H _ h;have key:(match ykD F' H' fn.results with | some ps=>K (sU ps) H' | none=>False)→(x=.norm∨x=.ret) →
   ∃ r H',K r H'∧∃ m0,∀ k e m,m0≤k→P k e→m0≤m→ybu e m n args H=some (r,H'):=by
  intro hk hx;split at hk
  ·rename_i ps hps;refine ⟨_,_,hk,m0+1,fun k e m hkl hp hle=>?_⟩;obtain ⟨q,rfl⟩:∃ q,m=q+1:=⟨m-1,by omega⟩;have e0:=hm k e q (by omega) hp (by omega);obtain ⟨l1,_,_,_,_,_,l7⟩:=tF (hP k e hp);simp only [ybu,Env.effx,pJ,l7,l1,he,hf,TFn.fn,h1,if_true];rw [e0];rcases hx with rfl | rfl<;>simp only [hps]
  ·exact hk.elim
 cases x with
 | norm=>exact key hk (.inl rfl)
 | exit i=>exact hk.elim
 | brk _ _=>exact hk.elim
 | ret=>exact key hk (.inr rfl)
theorem rx {H:Hp} {x:PV} {K:PV→Hp→Prop} (h:Kd H x K):∃ q H',K q H'∧yBp H x=some (q,H'):=by
 cases x with
 | tup ps =>simp only [Kd] at h;obtain ⟨ys,H',h,e⟩:=GN ps H _ h;exact ⟨_,_,h,by simp only [yBp,e]⟩
 | _ =>simp only [Kd] at h;obtain ⟨y,H',h,e⟩:=DX h;exact ⟨_,_,h,by simp only [yBp,e]⟩
theorem GO {e:Env} {call:Nat→List PV→Hp→Option (PV×Hp)} {f:PV} {args:List PV} (h:ype e f args=none):ylw e call f args H=pK e call f args H:=by simp only [ylw,h]
theorem cU (hS:SEOk P S):∀ d,Good P (pX S d)
 | 0,f,args,H,K,h=>h.elim
 | d+1,f,args,H,K,h=>by
  unfold pX at h;split at h
  ·rename_i n first captured;split at h
   ·rename_i x hx;split at h
    ·rename_i wp hwp;unfold GK at h;obtain ⟨az,H',h,hp⟩:=GN _ _ _ h;split at h
     ·rename_i b hb;obtain ⟨hc,h⟩:=bJ.1 h;simp only [bO,jR] at hc;obtain ⟨q,rows,hk,m0,hm⟩:=hS.sumL _ wp hwp _ _ _ h;refine ⟨q,_,hk,m0,fun k e m hkl he hle=>?_⟩;simp only [ylw,Ki (hS.sb k e he),hx,Dm,hp,hb];rw [WM hc];simp only [hm k e m hkl he hle]
     ·exact h.elim
    ·exact h.elim
   rename_i hx;have hx':∀ k e,P k e→ype e (.fn (.func n) first captured) args=none:=fun k e he=>(Ki (hS.sb k e he) _ _).trans hx
   split at h
   ·rename_i wp hwp
    cases hb:S.E.rb n with
    | true =>rw [hb,cond_true] at h;obtain ⟨az,h,hp⟩:=Zl _ _ h;obtain ⟨r,hk,m0,hm⟩:=hS.sum n wp hwp az _ h;obtain ⟨hs,hk⟩:=bJ.1 hk;refine ⟨r,_,hk,m0,fun k e m hkl he hle=>?_⟩;obtain ⟨_,_,_,_,l5,_,_⟩:=tF (hS.sb k e he);rw [GO (hx' k e he)];simp only [pK,l5,hb,if_true,hp,hm k e m hkl he hle,hs]
    | false=>
     rw [hb,cond_false] at h;obtain ⟨az,H',h,hp⟩:=GN _ _ _ h;obtain ⟨r,hk,m0,hm⟩:=hS.sum n wp hwp az _ h;refine ⟨r,_,hk,m0,fun k e m hkl he hle=>?_⟩;obtain ⟨_,_,_,_,l5,_,_⟩:=tF (hS.sb k e he);rw [GO (hx' k e he)];simp only [pK,l5,hb,gE,if_false,hp,hm k e m hkl he hle]
     cases r.scalar<;>simp
   ·split at h
    ·rename_i fn hfn;obtain ⟨h1,h2,h3,h4,h6,h7,h5⟩:=hS.inl n fn hfn
     cases hb:S.E.rb n with
     | true =>rw [hb,cond_true] at h;exact h.elim
     | false=>
      rw [hb,cond_false] at h;obtain ⟨r,H',hk,m0,hm⟩:=Kk hS.sb (cU hS d) (fun hf=>by rw [h7] at hf;cases hf) h5 h1 h6 h;refine ⟨r,H',hk,m0,fun k e m hkl he hle=>?_⟩;obtain ⟨_,l2,l3,l4,l5,_,_⟩:=tF (hS.sb k e he);have e0:∀ az,ycH e (ybu e m) n az=none:=by
       intro az;simp only [ycH,l2,l3,h4 az,h2];rfl
      rw [GO (hx' k e he)];simp only [pK,e0,l3,l4,l5,h2,h3,hb]
      cases ybd H (first++args++captured)<;>simp only [gE,if_false,hm k e m hkl he hle]
    ·split at h
     ·rename_i c t x y he;obtain ⟨hc,h⟩:=bJ.1 h;subst hc;obtain ⟨h2,h3,h4,h7⟩:=hS.eff n _ _ _ he;obtain ⟨r,H',h,hrt⟩:∃ r H',K r H'∧(bif t then x else y)=(r,H'):=by
       cases t with
       | true=>exact ⟨_,_,h,rfl⟩
       | false=>exact ⟨_,_,h,rfl⟩
      refine ⟨r,H',h,1,fun k e m hkl hp hle=>?_⟩;obtain ⟨k,rfl⟩:∃ k,m=k+1:=⟨m-1,by omega⟩;obtain ⟨_,l2,l3,l4,l5,_,l7⟩:=tF (hS.sb _ e hp);have e0:∀ az,ycH e (ybu e (k+1)) n az=none:=by
       intro az;simp only [ycH,l2,l3,h4 az,h2];rfl
      have hi:ybu e (k+1) n (first++args++captured) H=some (r,H'):=by simp only [ybu,Env.effx,pJ,l7,he,hrt]
      rw [GO (hx' _ e hp)];simp only [pK,e0,l3,l4,l5,h2,h3,h7]
      cases ybd H (first++args++captured)<;>simp only [gE,if_false,hi]
     ·exact h.elim
  ·exact h.elim
theorem ry (hS:SEOk P S) {d:Nat} {fn:TFn} {n:Nat} (hR:aY P S.E (pX S d) fn.body) (hl:LpOk P S.E S.lp [] fn.body) (hf:S.E.fns n=some fn.fn) (hq:S.E.qui n=true) (hs:∀ az,S.E.sum n az=none) (he:∀ az H,S.E.eff n az H=none) {az:List PV} {K:PV→Prop} (h:WP S d fn az K) (hn:S.E.nl n=false:=by kernel_rfl) :
  ∃ r,K r∧cX P n az r:=by
 unfold WP at h;obtain ⟨r,H',hk,m0,hm⟩:=Kk hS.sb (cU hS d) hR hl hf he h;obtain ⟨q,hk,hq'⟩:=Zm hk;refine ⟨q,hk,m0,fun k e m hkl hp hle=>?_⟩;obtain ⟨_,l2,l3,_,_,l6,_⟩:=tF (hS.sb k e hp);simp only [ycH,l2,l3,l6,hs az,hq,hm k e m hkl hp hle,hn,kK,cond_false,hq',if_true]
theorem xH (hS:SEOk P S) {d:Nat} {fn:TFn} {n:Nat} (hR:aY P S.E (pX S d) fn.body) (hl:LpOk P S.E S.lp [] fn.body) (hf:S.E.fns n=some fn.fn) (he:∀ az H,S.E.eff n az H=none) {az:List PV} {b:HB} {K:PV→List PV→Prop} (h:tD S d fn az b K) :
  ∃ q rows,K q rows∧tE P n az b q rows:=by
 unfold tD at h;obtain ⟨r,H',hk,m0,hm⟩:=Kk hS.sb (cU hS d) hR hl hf he h;obtain ⟨q,H2,hk,hq'⟩:=rx hk;split at hk
 ·rename_i b2 hb2;obtain ⟨hc,hk⟩:=bJ.1 hk;simp only [bO,jR,decide_eq_true_eq] at hc;refine ⟨q,_,hk,m0,fun k e m hkl hp hle=>?_⟩;simp only [yCe,hm k e m hkl hp hle,hq',hb2];rw [WM hc]
 ·exact hk.elim
theorem aY.flat {E:Env} {c:TC} (h:dE c=true:=by kernel_rfl):aY P E callK c:=fun hf=>by rw [h] at hf;cases hf
end
def tG (P:EP) (lp:LP) (G:aD):List (Nat×TC)→Prop
 | []=>True
 | p::r=>(∀ F H Q,lp p.1 G F H Q→cA P p.2 F H Q)∧tG P lp G r
theorem tG.mem {P:EP} {lp:LP} {G:aD}:∀ {l:List (Nat×TC)},tG P lp G l→∀ p∈l,∀ F H Q,lp p.1 G F H Q→cA P p.2 F H Q
 | [],_,p,hp=>by cases hp
 | q::r,h,p,hp=>by
  rcases qAo.1 hp with rfl|hp
  ·exact h.1
  ·exact tG.mem h.2 p hp
theorem cA.intoJ {S:Nat} {P:EP} {E:Env} {callK:CK} {lp:LP} {b:TC} {G F:aD} {H:Hp} {yk:YK} {Q:Ex→aD→Hp→Prop} (hP:aK P E) (hG:Good P callK) (hY:cH P E yk) (hl:LpOk P E lp G b) (hf:dE b=true) (h:WC E callK lp G yk b F H Q):cA P (.join S b) F H Q:=
 oW b P hP hG (fun k=>by rw [hf] at k;cases k) G yk hY hl F H Q h
theorem dT {P:EP} {E:Env} {lp:LP} {G:aD} {c:TC} {l:List (Nat×TC)} (h:tG P lp G l) (e:kO c=l) (hf:dE c=true:=by kernel_rfl):LpOk P E lp G c:=vM c hf (by rw [e];exact h.mem)
theorem bC {P:EP} {E:Env} {lp:LP} {G:aD} {c:TC} (e:kO c=[]) (hf:dE c=true:=by kernel_rfl):LpOk P E lp G c:=dT (l:=[]) trivial e hf
theorem LpOk.sub {P P':EP} {E:Env} {lp:LP} {G:aD} (hs:∀ n e,P' n e→P n e):∀ (c:TC),dE c=true→LpOk P E lp G c→LpOk P' E lp G c
 | .skip,_,_ | .ops _ _ _ _,_,_ | .exit _,_,_ | .ret,_,_ | .bad,_,_ | .yret _ _ _ _ _ _ _,_,_ | .cut _,_,_=>trivial
 | .rangeF _ _ _ _ _ _ _,hf,_=>by simp [dE] at hf
 | .seq a b,hf,h=>by simp only [dE,bO] at hf;exact ⟨LpOk.sub hs a hf.1 h.1,LpOk.sub hs b hf.2 h.2⟩
 | .cond _ a b,hf,h=>by simp only [dE,bO] at hf;exact ⟨LpOk.sub hs a hf.1 h.1,LpOk.sub hs b hf.2 h.2⟩
 | .block _ b,hf,h=>LpOk.sub hs b hf h
 | .loop _ b,hf,h=>⟨LpOk.sub hs b hf h.1,fun F H Q k=>(h.2 F H Q k).sub hs⟩
 | .lG _ b,hf,h=>⟨LpOk.sub hs b hf h.1,fun F H Q k=>(h.2 F H Q k).sub hs⟩
 | .join _ b,hf,h=>⟨LpOk.sub hs b hf h.1,fun F H Q k=>(h.2 F H Q k).sub hs⟩
theorem SEOk.solo {S:SE} (h:SEOk (Uni S.E) S):SEOk (jY S.E) S where
 sb:=aK.solo _
 sum:=fun n wp hw az K k=>by
  obtain ⟨r,h1,h2⟩:=h.sum n wp hw az K k;exact ⟨r,h1,h2.sub fun _ _ he=>aK.solo _ _ _ he⟩
 inl:=fun n fn hf=>by
  obtain ⟨h1,h2,h3,h4,h5,h6,h7⟩:=h.inl n fn hf;exact ⟨h1,h2,h3,h4,h5,h6,LpOk.sub (fun n e he=>aK.solo _ n e he) _ h6 h7⟩
 eff:=h.eff
 sumL:=fun n wp hw az b K k=>by obtain ⟨q,rows,h1,m0,h2⟩:=h.sumL n wp hw az b K k;exact ⟨q,rows,h1,m0,fun k e m k1 k2 k3=>h2 k e m k1 (aK.solo _ _ _ k2) k3⟩
def yhr:List (Nat×(List PV→(PV→Prop)→Prop))→Nat→Option (List PV→(PV→Prop)→Prop)
 | [],_=>none
 | (k,f)::r,n=>bif Nat.beq k n then some f else yhr r n
def yhs:List (Nat×TFn)→Nat→Option TFn
 | [],_=>none
 | (k,f)::r,n=>bif Nat.beq k n then some f else yhs r n
def tH (P:EP):List (Nat×(List PV→(PV→Prop)→Prop))→Prop
 | []=>True
 | (k,f)::r=>(∀ az K,f az K→∃ q,K q∧cX P k az q)∧tH P r
def tI (P:EP) (E:Env) (lp:LP):List (Nat×TFn)→Prop
 | []=>True
 | (k,f)::r=>(E.fns k=some f.fn∧E.qui k=false∧E.frz k=false∧(∀ az,E.sum k az=none)∧(∀ az H,E.eff k az H=none)∧dE f.body=true∧LpOk P E lp [] f.body)∧tI P E lp r
theorem OM {P:EP}:∀ (l:List (Nat×(List PV→(PV→Prop)→Prop))),tH P l→∀ n wp,yhr l n=some wp→∀ az K,wp az K→∃ r,K r∧cX P n az r
 | [],_,_,_,h=>by simp [yhr] at h
 | (k,f)::r,hl,n,wp,h=>by
  simp only [tH] at hl;simp only [yhr] at h
  cases hc:Nat.beq k n with
  | true =>rw [hc] at h;simp only [cond_true,bT] at h;have:=dK hc;subst this;subst h;exact hl.1
  | false =>rw [hc] at h;exact OM r hl.2 n wp (by simpa using h)
theorem ON {P:EP} {E:Env} {lp:LP}:∀ (l:List (Nat×TFn)),tI P E lp l→∀ n fn,yhs l n=some fn→E.fns n=some fn.fn∧E.qui n=false∧E.frz n=false∧(∀ az,E.sum n az=none)∧(∀ az H,E.eff n az H=none)∧dE fn.body=true∧LpOk P E lp [] fn.body
 | [],_,_,_,h=>by simp [yhs] at h
 | (k,f)::r,hl,n,fn,h=>by
  simp only [tI] at hl;simp only [yhs] at h
  cases hc:Nat.beq k n with
  | true =>rw [hc] at h;simp only [cond_true,bT] at h;have:=dK hc;subst this;subst h;exact hl.1
  | false =>rw [hc] at h;exact ON r hl.2 n fn (by simpa using h)
def yp7:List (Nat×(List PV→HB→(PV→List PV→Prop)→Prop))→Nat→Option (List PV→HB→(PV→List PV→Prop)→Prop)
 | [],_=>none
 | (k,f)::r,n=>bif Nat.beq k n then some f else yp7 r n
def Kl (P:EP):List (Nat×(List PV→HB→(PV→List PV→Prop)→Prop))→Prop
 | []=>True
 | (k,f)::r=>(∀ az b K,f az b K→∃ q rows,K q rows∧tE P k az b q rows)∧Kl P r
theorem Zs {P:EP}:∀ (l:List (Nat×(List PV→HB→(PV→List PV→Prop)→Prop))),Kl P l→∀ n wp,yp7 l n=some wp→∀ az b K,wp az b K→∃ q rows,K q rows∧tE P n az b q rows
 | [],_,_,_,h=>by simp [yp7] at h
 | (k,f)::r,hl,n,wp,h=>by
  simp only [Kl] at hl;simp only [yp7] at h
  cases hc:Nat.beq k n with
  | true =>rw [hc] at h;simp only [cond_true,bT] at h;have:=dK hc;subst this;subst h;exact hl.1
  | false =>rw [hc] at h;exact Zs r hl.2 n wp (by simpa using h)
theorem Ec {P:EP} {E:Env} {ls:List (Nat×(List PV→(PV→Prop)→Prop))} {li:List (Nat×TFn)} {lp:LP} {ll:List (Nat×(List PV→HB→(PV→List PV→Prop)→Prop))} (hb:aK P E) (hs:tH P ls) (hi:tI P E lp li) (he:Eb E) (hL:Kl P ll):SEOk P ⟨E,yhr ls,yhs li,lp,yp7 ll⟩ where
 sb:=hb
 sum:=fun n wp h=>OM ls hs n wp h
 inl:=fun n fn h=>ON li hi n fn h
 eff:=he
 sumL:=fun n wp h=>Zs ll hL n wp h
theorem bK {P:EP} {E:Env} {ls:List (Nat×(List PV→(PV→Prop)→Prop))} {li:List (Nat×TFn)} {lp:LP} (hb:aK P E) (hs:tH P ls) (hi:tI P E lp li) (he:Eb E):SEOk P ⟨E,yhr ls,yhs li,lp,fun _=>none⟩ where
 sb:=hb
 sum:=fun n wp h=>OM ls hs n wp h
 inl:=fun n fn h=>ON li hi n fn h
 eff:=he
 sumL:=fun n wp h=>by cases h
theorem Zt {add sub n:Nat} (h1:Nat.beq n add=false) (h2:Nat.beq n sub=false) (az:List PV):sumC add sub n az=none:=by
 unfold sumC;split
 ·rw [h1,h2];rfl
 ·rfl
def Ed (p0 p1 p2:Int) (K:Int→Int→Prop):Prop:=
 aA (decide (p2.toNat≤1)) (K (((p0.toNat+p1.toNat+p2.toNat)%18446744073709551616:Nat):Int) (((p0.toNat+p1.toNat+p2.toNat)/18446744073709551616:Nat):Int))
def tJ:List PV:=([0,1,2,2,3,3,3,3,4,4,4,4,4,4,4,4,5,5,5,5,5,5,5,5,5,5,5,5,5,5,5,5,6,6,6,6,6,6,6,6,6,6,6,6,6,6,6,6,6,6,6,6,6,6,6,6,6,6,6,6,6,6,6,6,7,7,7,7,7,7,7,7,7,7,7,7,7,7,7,7,7,7,7,7,7,7,7,7,7,7,7,7,7,7,7,7,7,7,7,7,7,7,7,7,7,7,7,7,7,7,7,7,7,7,7,7,7,7,7,7,7,7,7,7,7,7,7,7,8,8,8,8,8,8,8,8,8,8,8,8,8,8,8,8,8,8,8,8,8,8,8,8,8,8,8,8,8,8,8,8,8,8,8,8,8,8,8,8,8,8,8,8,8,8,8,8,8,8,8,8,8,8,8,8,8,8,8,8,8,8,8,8,8,8,8,8,8,8,8,8,8,8,8,8,8,8,8,8,8,8,8,8,8,8,8,8,8,8,8,8,8,8,8,8,8,8,8,8,8,8,8,8,8,8,8,8,8,8,8,8,8,8,8,8,8,8,8,8,8,8,8,8,8,8,8,8]:List Int).map (PV.int .u8)
def OO (w:Int→Int→Int→(Int→Int→Prop)→Prop) (az:List PV) (K:PV→Prop):Prop:=
 match az with
 | [(.int .u64 p0),(.int .u64 p1),(.int .u64 p2)]=>w p0 p1 p2 (fun (r0:Int) (r1:Int)=>K (.tup [(.int .u64 r0),(.int .u64 r1)]))
 | _=>False
def ysV (az:List PV) (K:PV→Prop):Prop:=OO Ed az K
def Ee (p0 p1 p2:Int) (K:Int→Int→Prop):Prop:=
 aA (decide (p2.toNat≤1)) (K (((p0.toNat+18446744073709551616-p1.toNat-p2.toNat)%18446744073709551616:Nat):Int) ((bif Nat.ble (p1.toNat+p2.toNat) p0.toNat then 0 else 1:Nat):Int))
def OP (w:Int→Int→Int→(Int→Int→Prop)→Prop) (az:List PV) (K:PV→Prop):Prop:=
 match az with
 | [(.int .u64 p0),(.int .u64 p1),(.int .u64 p2)]=>w p0 p1 p2 (fun (r0:Int) (r1:Int)=>K (.tup [(.int .u64 r0),(.int .u64 r1)]))
 | _=>False
def ysX (az:List PV) (K:PV→Prop):Prop:=OP Ee az K
theorem OQ {P:Program} {E:Env} (hE:EO P E) (hm:P.follows .mixedOrders=true) {n:Nat} {az:List PV} {r:PV} (hs:E.sum n az=none) (hq:E.qui n=true) (h:oA E n az r):oV P E.glob n az r:=by
 obtain ⟨m0,hm0⟩:=h;have:=hm0 m0 E m0 (bW _) rfl (bW _);simp only [ycH,hs,hq,if_true] at this;refine YJ hE hm (n:=m0) ?_;unfold topV;split at this
 ·rename_i x H hx;rw [hx];exact this
 ·cases this
end Go.Pf
namespace Go.Pf
open Go Go.RowKit
section
variable {P:Program} {E:Env}
theorem se {b:Bool} {call} (hc:yba P E call) {I:Nat→Prop} {w:World} {f:Nat} {args:List PV} {vs:List Value} {r q:PV} {H:Hp} (himm:∀ b,I b→b<w.heap.size)
  (hg:∀ n x,E.glob n=some x→I n∧∃ vs,0<vs.length∧RC I w x vs∧At w n 0 vs) (hv:bH ⟨fun _=>none,fun _=>none,I,fun _=>none⟩ [] w args vs) (hin:call f args []=some (r,H)) (h:kK b H r=some q) :
  kM P f vs.toArray w fun v w'=>Bel w.heap.size w w'∧VP (fun b=>I b∨(w.heap.size≤b∧b<w'.heap.size)) w' q v:=by
 let g0:Gh:=⟨fun _=>none,fun _=>none,I,fun _=>none⟩;have hr:Rel E 0 g0 [] [] #[] w:=by
  refine ⟨kF _,fun s fv e=>by simp [fget] at e,fun id hb e=>by simp at e,fun id id' hb b o b' o' e=>by simp at e,fun id b o e=>by simp [g0] at e,fun s s' b e=>by simp [g0] at e,fun s b id o e=>by simp [g0] at e,fun s b e=>by simp [g0] at e,himm,hg⟩
 refine (hc f args [] r H hin 0 g0 [] #[] w vs hr (Lps.none_ fun _=>rfl) hv).mono ?_;rintro v w' ⟨g',n1,r1,hvr⟩;obtain ⟨g2,H2,r2,n2,hvp⟩:=XJ r1 hvr h;have n3:=n1.trans n2;have noR:∀ b,¬RngR g0 b:=fun b ⟨id,o,e⟩=>by simp [g0] at e
 have noM:∀ b,¬kL g0 b:=fun b ⟨s,e⟩=>by simp [g0] at e
 refine ⟨⟨⟨n3.os,n3.tape,n3.output,n3.size,fun k hk=>n3.kept k hk (noR k) (noM k)⟩,n3.drawn⟩,NQ (fun b hb=>⟨?_,rfl⟩) hvp⟩;rcases qA4 b w.heap.size with h1 | h1
 ·rcases hb with hb | hb
  ·rcases n3.immb b h1 hb with h2 | h2
   ·exact .inl h2
   ·exact absurd h2 (noR b)
  ·exact absurd (n3.rng b h1 hb) (noR b)
 ·exact .inr ⟨h1,hb.elim (r2.imm b) r2.brng⟩
theorem sf (hE:EO P E) (hm:P.follows .mixedOrders=true) {n f:Nat} {q:PV} (h:∀ b,topV E n f [.mt b]=some q):oV P E.glob f [.data []] q:=by
 intro I w vs himm hgl hv;simp only [fW,eU,RC] at hv;obtain ⟨v,vr,rfl,⟨a,len,cap,e,hl,hc,hm2,_⟩,rfl⟩:=hv;simp only [kJ,and_true] at e;subst e;have hl:len=0:=hl;subst hl;have hh:=h a.isNone;unfold topV at hh;split at hh
 ·rename_i r H hin;refine se (DR hE hm n) himm hgl (args:=[.mt a.isNone]) ?_ hin hh;simp only [bH,VR];exact ⟨_,_,rfl,⟨a,cap,rfl,hm2,rfl⟩,rfl⟩
 ·cases hh
end
def Ef (esz bytes:Nat) (z:PV):AFn:=⟨1,[.tmp 2],
 (.seq
  (.ops [⟨some 2,(.mv (.c .nils)),none⟩] [] [2])
  (.seq
   (.seq
    (.ops [⟨some 3,(.mv (.t 0)),none⟩,
     ⟨some 4,(.eqN false (.t 3)),none⟩] [] [3])
    (.cond (.t 4)
     (.seq (.ops [⟨some 2,(.mv (.c .nils)),none⟩] [] [0,4]) .ret)
     .skip))
   (.seq
    (.ops [⟨some 5,(.bSl true esz z 0 []),none⟩,
     ⟨some 6,(.mv (.t 0)),none⟩,
     ⟨some 7,(.app true esz bytes (.t 5) (.t 6)),none⟩,
     ⟨some 2,(.mv (.t 7)),none⟩] [] [0,4,5,6,7])
    .ret)))⟩
abbrev mT:=List (Nat×Nat×Nat)
def xI (esz bytes:Nat) (rows:List PV):Bool:=hO esz rows&&decide ((rows.length+64)*(bytes+1)≤room)
def yhQ:mT→Nat→List PV→Option PV
 | [],_,_=>none
 | (k,esz,bytes)::r,n,az=>bif Nat.beq k n then (match az with
  | [.data rows]=>(bif xI esz bytes rows then some (.data rows) else none)
  | _=>none) else yhQ r n az
def Km:mT→Nat→Bool
 | [],_=>false
 | (k,_,_)::r,n=>Nat.beq k n||Km r n
section
variable {P:Program} {E:Env}
theorem sg {n esz bytes:Nat} {z:PV} (hf:E.fns n=some (Ef esz bytes z)) (he:∀ az H,E.eff n az H=none) (hnl:E.nl n=false) (b:Bool):topV E 12 n [.mt b]=some (.data []):=by
 unfold topV
 cases b<;>simp [ybu,Env.effx,pJ,he,exec,hf,Ef,yiz,ybo,yez,ycK,yas,evV,ev,iX,fget,aF,fdels,eR,jA,ydT,outV,Option.map,ykD,yBr,sU,kK,hnl,purR,yca,yfB,appV,yiw,hO,vC]
theorem si {n esz bytes:Nat} {z:PV} (hf:E.fns n=some (Ef esz bytes z)) (he:∀ az H,E.eff n az H=none) (hnl:E.nl n=false) {x:PV} {r:List PV} (h:xI esz bytes (x::r)=true):topV E 12 n [.data (x::r)]=some (.data (x::r)):=by simp only [xI,bO,decide_eq_true_eq,kI] at h;obtain ⟨h1,h2⟩:=h;unfold topV;simp [ybu,Env.effx,pJ,he,exec,hf,Ef,yiz,ybo,yez,ycK,yas,evV,ev,iX,fget,aF,fdels,eR,jA,ydT,outV,Option.map,ykD,yBr,sU,kK,hnl,purR,yca,yfB,appV,yiw,h1,vC,ydm,h2]
theorem Zu (hE:EO P E) (hm:P.follows .mixedOrders=true) (he:∀ n az H,E.eff n az H=none) (hnl:∀ n,E.nl n=false):∀ (cl:mT),(∀ n esz bytes,(n,esz,bytes)∈cl→∃ z,E.fns n=some (Ef esz bytes z))→∀ n az r,yhQ cl n az=some r→oV P E.glob n az r
 | [],_,_,_,_,h=>by simp [yhQ] at h
 | (k,esz,bytes)::t,hc,n,az,r,h=>by
  simp only [yhQ] at h
  cases hb:Nat.beq k n with
  | false=>rw [hb] at h;exact Zu hE hm he hnl t (fun n e b hm=>hc n e b (gO _ hm)) n az r (by simpa using h)
  | true=>
   rw [hb] at h;have e:=dK hb;subst e;simp only [cond_true] at h;split at h
   ·rename_i rows
    cases hk:xI esz bytes rows with
    | false=>rw [hk] at h;simp at h
    | true=>
     rw [hk] at h;simp only [cond_true,bT] at h;subst h;obtain ⟨z,hf⟩:=hc k esz bytes kC
     cases rows with
     | nil=>exact sf hE hm (fun b=>sg hf (he k) (hnl k) b)
     | cons x r=>exact YJ hE hm (si hf (he k) (hnl k) hk)
   ·cases h
end
def Zv:List (Nat×PV)→Nat→Option PV
 | [],_=>none
 | (k,a)::r,n=>bif Nat.beq k n then some a else Zv r n
theorem oV.any {P:Program} {G:Nat→Option PV} {f:FuncId} {az:List PV} {r:PV} (h:oV P (fun _=>none) f az r):oV P G f az r:=
 fun I w vs hI _ hv=>h I w vs hI (fun _ _ e=>nomatch e) hv
def rO (add sub:Nat) (tab:List (Nat×AFn)) (qui:List Nat) (cl:mT) (gl:List (Nat×PV)):Env:=
 { glob:=Zv gl,sum:=fun n az=>match sumC add sub n az with | some r=>some r | none=>yhQ cl n az,fns:=yzj tab,frz:=fun _=>false,qui:=memN qui,nl:=fun n=>memN qui (n+1000000),rb:=fun n=>memN qui (n+3000000),lo:=fun n=>bif memN qui (n+4000000) then some 1 else bif memN qui (n+5000000) then some 0 else bif memN qui (n+2000000) then some 4 else none,dn:=fun n=>memN qui (n+6000000) }
def Kn (add sub:Nat) (cl:mT) (n:Nat):Bool:=Nat.beq n add||(Nat.beq n sub||Km cl n)
theorem Zw:∀ (cl:mT) (n:Nat) (az:List PV),Km cl n=false→yhQ cl n az=none
 | [],_,_,_=>rfl
 | (k,_,_)::r,n,az,h=>by simp only [Km,wL] at h;simp only [yhQ,h.1,cond_false];exact Zw r n az h.2
theorem sj {add sub:Nat} {tab:List (Nat×AFn)} {qui:List Nat} {cl:mT} {gl:List (Nat×PV)} {n:Nat} (h:Kn add sub cl n=false) (az:List PV):(rO add sub tab qui cl gl).sum n az=none:=by simp only [Kn,wL] at h;simp only [rO,Zt h.1 h.2.1,Zw cl n az h.2.2]
def Zx (esz bytes:Nat) (p0:List PV) (K:List PV→Prop):Prop:=aA (xI esz bytes p0) (K p0)
def OR (w:List PV→(List PV→Prop)→Prop) (az:List PV) (K:PV→Prop):Prop:=
 match az with
 | [(.data p0)]=>w p0 (fun r0=>K (.data r0))
 | _=>False
def yzF (esz bytes:Nat) (az:List PV) (K:PV→Prop):Prop:=OR (Zx esz bytes) az K
def GP:mT→Nat→Option (Nat×Nat)
 | [],_=>none
 | (k,e,b)::r,n=>bif Nat.beq k n then some (e,b) else GP r n
theorem Zy {n esz bytes:Nat} {rows:List PV}:∀ (cl:mT),GP cl n=some (esz,bytes)→xI esz bytes rows=true→yhQ cl n [.data rows]=some (.data rows)
 | [],h,_=>by simp [GP] at h
 | (k,e,b)::r,h,hk=>by
  simp only [GP] at h;simp only [yhQ]
  cases hb:Nat.beq k n with
  | true=>rw [hb] at h;simp only [cond_true,bT,Prod.mk.injEq] at h;obtain ⟨rfl,rfl⟩:=h;simp only [cond_true,hk]
  | false=>rw [hb] at h;simp only [cond_false] at h ⊢;exact Zy r h hk
theorem sk {P:Program} {add sub:Nat} {tab:List (Nat×AFn)} {qui:List Nat} {cl:mT} {gl:List (Nat×PV)} (hm:P.follows .mixedOrders=true) (ha:IsExtern P add add64Entry) (hs:IsExtern P sub GB) (ht:Bk P tab)
  (hd:∀ n∈Bl qui,YP P n) (hc:∀ n esz bytes,(n,esz,bytes)∈cl→∃ z,yzj tab n=some (Ef esz bytes z)):EO P (rO add sub tab qui cl gl) where
 sum:=by
  intro n az r h;simp only [rO] at h;split at h
  ·rename_i q hq;cases h;exact YO ha hs n az _ hq
  ·exact (Zu (qn (qui:=[]) ha hs ht) hm (fun _ _ _=>rfl) (fun _=>rfl) cl (fun n e b hmem=>hc n e b hmem) n az r h).any
 fns:=fun n fn h=>Ov tab ht n fn h
 eff:=fun _ _ _ _ _ _ _ h=>by cases h
 dn:=fun n h=>hd n (YQ h)
 top:=fun _ _=>rfl
 yl:=fun _ _ _ _ _ _ h=>by cases h
end Go.Pf
namespace Go.Pf
abbrev Ls:Type:=List PV
def O (d:Nat) (x:AOp):AO:=⟨some d,x,none⟩
def M (d s:Nat):AO:=⟨some d,.mv (.t s),none⟩
def I (n:Int):Opd:=.c (.int .i64 n)
def oX (d:Nat) (op:BinOp) (a b:Nat):AO:=⟨some d,.bin op (.t a) (.t b),none⟩
def oT (d sz a:Nat):AO:=⟨some d,.load true sz (.t a),none⟩
def oF (d sz a:Nat):AO:=⟨some d,.load false sz (.t a),none⟩
def oQ (l:List AO) (d:List Nat):TC:=.ops l [] [] d
abbrev bL (E:Env) (wp:List PV→(PV→Prop)→Prop) (n:Nat):Prop:=∀ az K,wp az K→∃ r,K r∧Ans E n az r
abbrev xJ (E:Env) (wp:List PV→HB→(PV→List PV→Prop)→Prop) (n:Nat):Prop:=∀ az b K,wp az b K→∃ q rows,K q rows∧tE (Uni E) n az b q rows
abbrev Zz (E:Env) (wp:List PV→(PV→Prop)→Prop) (n:Nat):Prop:=∀ az K,wp az K→∃ r,K r∧oA E n az r
theorem bL.solo {E:Env} {wp:List PV→(PV→Prop)→Prop} {n:Nat} (h:bL E wp n):Zz E wp n:=fun az K k=>by obtain ⟨r,h1,h2⟩:=h az K k;exact ⟨r,h1,h2.solo⟩
theorem oA.unique {E:Env} {n:Nat} {az:List PV} {r r':PV} (h:oA E n az r) (h':oA E n az r'):r=r':=by obtain ⟨m,hm⟩:=h;obtain ⟨m',hm'⟩:=h';have e:=hm (m+m') E (m+m') (by omega) rfl (by omega);rw [hm' (m+m') E (m+m') (by omega) rfl (by omega)] at e;exact (qDk e).symm
theorem OS {E:Env} {n:Nat} {wp:List PV→(PV→Prop)→Prop} (ok:Zz E wp n) {az:List PV} {x:PV}
  (h:∀ K:PV→Prop,K x→wp az K) {K:PV→Prop} (k:wp az K):K x:=by
 obtain ⟨r,h1,h2⟩:=ok az K k;obtain ⟨q,h3,h4⟩:=ok az (fun y=>y=x) (h _ rfl);subst h3;rw [← h2.unique h4];exact h1
theorem cI {E:Env} {n:Nat} {wp:List PV→(PV→Prop)→Prop} (ok:∀ az K,wp az K→∃ r,K r∧Ans E n az r) {az:List PV} {x:PV}
 (h:∀ K:PV→Prop,K x→wp az K) {K:PV→Prop} (k:wp az K):K x:=OS (bL.solo ok) h k
end Go.Pf
namespace Go.Pf
open Go
inductive DS where
 | b
 | i (k:IntKind)
 | s (e:DS)
 | a (l:List DS)
def DS.isA:DS→Bool
 | .a _=>true
 | _=>false
def PV.isAgg:PV→Bool
 | .agg _=>true
 | _=>false
mutual
def HasF:DS→List PV→Prop
 | .b,c=>∃ x,c=[.bool x]
 | .i k,c=>∃ n,c=[.int k n]∧inK k n
 | .s e,c=>∃ rows:List PV,c=[.data rows]∧rows.length≤maxLen∧∀ x∈rows,x.isAgg=e.isA∧HasF e x.cells
 | .a l,c=>HasL l c
def HasL:List DS→List PV→Prop
 | [],c=>c=[]
 | d::l,c=>∃ c1 c2,c=c1++c2∧HasF d c1∧HasL l c2
end
mutual
def iQ (P:Program):DS→TypeId→Bool
 | .b,t=>(match P.underlying t with | some .bool=>true | _=>false)
 | .i k,t=>(match P.underlying t with | some (.int q)=>decide (q=k) | _=>false)
 | .s e,t=>(match P.underlying t with | some (.slice u)=>decide (0<P.cellsOf u)&&iQ P e u | _=>false)
 | .a l,t=>(match P.underlying t with | some (.struct fs)=>lK P l (fs.toList.map (·.type)) | some (.array n u)=>lK P l (replicate n u) | _=>false)
def lK (P:Program):List DS→List TypeId→Bool
 | [],[]=>true
 | d::l,t::r=>iQ P d t&&lK P l r
 | _,_=>false
end
theorem ZA (P:Program):∀ (l:List DS) (ts:List TypeId),lK P l ts=true→l.length=ts.length
 | [],[],_=>rfl
 | _::l,_::r,h=>by unfold lK at h;simp only [bO] at h;simp [ZA P l r h.2]
 | [],_::_,h=>by unfold lK at h;cases h
 | _::_,[],h=>by unfold lK at h;cases h
theorem ZB (P:Program):∀ (l:List DS) (ts:List TypeId),lK P l ts=true→∀ (j:Nat) d t,l[j]?=some d→ts[j]?=some t→iQ P d t=true
 | [],[],_,_,_,_,h,_=>by simp at h
 | d::l,t::r,h,0,d',t',h1,h2=>by unfold lK at h;simp only [bO] at h;simp only [yS,bT] at h1 h2;subst h1;subst h2;exact h.1
 | d::l,t::r,h,j+1,d',t',h1,h2=>by unfold lK at h;simp only [bO] at h;exact ZB P l r h.2 j d' t' (by simpa using h1) (by simpa using h2)
 | [],_::_,h,_,_,_,_,_=>by unfold lK at h;cases h
 | _::_,[],h,_,_,_,_,_=>by unfold lK at h;cases h
section
variable {H:Type} {enc:TypeId×Value→H} {P:Program} {w:World} {I:Nat→Prop}
theorem sm {l1 l2:List PV} {v1 v2:List Value} (h1:ya5 I w l1 v1) (h2:ya5 I w l2 v2):ya5 I w (l1++l2) (v1++v2):=NI h1 h2
def yMr (enc:TypeId×Value→H) (P:Program) (w:World) (I:Nat→Prop) (n:Nat):Prop:=
 ∀ (d:DS) (t:TypeId) (cs:List Value) (x:DataW H×List MemPlace),t<P.types.size→iQ P d t=true→DataW.trod enc P w 0 (fun _=>true) true n t cs=some x→(∀ p∈x.2,I p.block)→∃ pcs,HasF d pcs∧ya5 I w pcs cs
theorem ZC {n:Nat} (ih:yMr enc P w I n) {l:List DS} {ts:List TypeId} (hl:lK P l ts=true) (hrow:∀ t∈ts,t<P.types.size) {cs:List Value} {xs:List (DataW H×List MemPlace)} (off:Nat→Nat)
  (hoff:∀ j t,ts[j]?=some t→off (j+1)=off j+P.cellsOf t) (hend:cs.length≤off ts.length) (hx:∀ j t,ts[j]?=some t→DataW.trod enc P w 0 (fun _=>true) true n t ((cs.drop (off j)).take (P.cellsOf t))=xs[j]?)
  (hxl:xs.length=ts.length) (hI:∀ p∈xs.flatMap (·.2),I p.block) :
  ∀ (r j:Nat),j+r=ts.length→∃ pcs,HasL (l.drop j) pcs∧ya5 I w pcs (cs.drop (off j)):=by
 have hll:=ZA P l ts hl;intro r;induction r with
 | zero=>
  intro j hj;refine ⟨[],?_,?_⟩
  ·rw [pD (by omega)];simp only [HasL]
  ·rw [pD (by rw [show j=ts.length by omega];exact hend)];simp only [ya5]
 | succ r ihr=>
  intro j hj;obtain ⟨pcs,h1,h2⟩:=ihr (j+1) (by omega);have ht:ts[j]?=some ts[j]:=dU (by omega);have hd:l[j]?=some l[j]:=dU (by omega);have hxj:xs[j]?=some xs[j]:=dU (by omega);have h:=hx j _ ht;rw [hxj] at h;obtain ⟨pc,k1,k2⟩:=ih l[j] ts[j] _ _ (hrow _ (De _)) (ZB P l ts hl j _ _ hd ht) h (fun p hp=>hI p (List.mem_flatMap.2 ⟨xs[j],De _,hp⟩));refine ⟨pc++pcs,?_,?_⟩
  ·rw [Jg (by omega)];simp only [HasL];exact ⟨pc,pcs,rfl,k1,h1⟩
  ·have e:cs.drop (off j)=(cs.drop (off j)).take (P.cellsOf ts[j])++cs.drop (off (j+1)):=by
    rw [hoff j _ ht,← List.drop_drop,List.take_append_drop]
   rw [e];exact sm k2 h2
theorem sn {d:DS} {pcs:List PV} (h:HasF d pcs):∃ x:PV,x.isAgg=d.isA∧x.cells=pcs∧∀ vs,ya5 I w pcs vs→RC I w x vs:=by
 have one:∀ y:PV,y.isAgg=false→pcs=[y]→d.isA=false→∃ x:PV,x.isAgg=d.isA∧x.cells=pcs∧∀ vs,ya5 I w pcs vs→RC I w x vs:=by
  intro y hy e hd;refine ⟨y,hy.trans hd.symm,?_,?_⟩
  ·subst e;cases y<;>first | rfl | cases hy
  ·intro vs hv;subst e;simp only [ya5] at hv;obtain ⟨v,vr,rfl,_,h1,rfl⟩:=hv;exact h1
 cases d with
 | b=>simp only [HasF] at h;obtain ⟨x,e⟩:=h;exact one _ rfl e rfl
 | i k=>simp only [HasF] at h;obtain ⟨x,e,_⟩:=h;exact one _ rfl e rfl
 | s e=>simp only [HasF] at h;obtain ⟨x,e,_⟩:=h;exact one _ rfl e rfl
 | a l=>exact ⟨.agg pcs,rfl,rfl,fun vs hv=>by simp only [RC];exact hv⟩
theorem sr (K:Kids P (·<P.types.size)):∀ n,yMr enc P w I n:=by
 intro n;induction n with
 | zero=>intro d t cs x _ _ h;simp [DataW.trod] at h
 | succ n ih=>
  intro d t cs x hrow hty h hI
  cases d with
  | b=>
   unfold iQ at hty;split at hty
   ·rename_i ht;obtain ⟨b,rfl,_⟩:=DataW.trod_bool ht h;refine ⟨[.bool b],by simp only [HasF];exact ⟨b,rfl⟩,?_⟩;simp only [ya5,RC];exact ⟨_,_,rfl,rfl,rfl,rfl⟩
   ·cases hty
  | i k=>
   unfold iQ at hty;split at hty
   ·rename_i q ht;simp only [decide_eq_true_eq] at hty;subst hty;obtain ⟨m,rfl,_,hw⟩:=DataW.trod_int ht h;have hk:inK q m:=by
     unfold inK;simpa [Lit.wf] using hw
    refine ⟨[.int q m],by simp only [HasF];exact ⟨m,rfl,hk⟩,?_⟩;simp only [ya5,RC];exact ⟨_,_,rfl,rfl,⟨rfl,hk⟩,rfl⟩
   ·cases hty
  | s e=>
   unfold iQ at hty;split at hty
   ·rename_i u ht;simp only [bO,decide_eq_true_eq] at hty;obtain ⟨hpos,hty⟩:=hty;rcases DataW.trod_slice ht h with ⟨rfl,_⟩ | ⟨a,len,cap,elems,rest,m,hm,rfl,rfl,_,hle,hcap,hlen,hel,_⟩
    ·refine ⟨[.data []],?_,?_⟩
     ·simp only [HasF];exact ⟨[],rfl,by simp,by simp⟩
     ·simp only [ya5,RC];exact ⟨_,_,rfl,rfl,⟨none,0,0,rfl,rfl,by omega,by decide,by simp⟩,rfl⟩
    ·have hmn:m=n:=by omega
     subst hmn;have hru:=K.slice hrow ht;have hspot0:len≠0→a.spot=none:=by
      intro h0;have hb:=hel 0 (by omega);rw [dU (by omega)] at hb;obtain ⟨cs',hc,hy⟩:=FU.1 hb;obtain ⟨_,hcl,hcg⟩:=World.cells?_some hc;have h0:=hcg 0 hpos;rw [dU (by omega)] at h0;have e0:(a.add (0*P.cellsOf u)).add 0=a:=by simp [Addr.add]
      rw [e0] at h0;unfold World.cell? at h0;split at h0
      ·split at h0
       ·cases h0
       ·rename_i hs;simpa using hs
      ·cases h0
     have hadd:a.spot=none→∀ k i:Nat,(a.add k).add i=⟨a.block,a.off+k+i,none⟩:=by
      intro hs k i;obtain ⟨ab,ao,az⟩:=a;simp only at hs;subst hs;simp only [Addr.add]
      by_cases h1:k=0<;>by_cases h2:i=0<;>simp [h1,h2,uW]
     have yiw:∀ (r j:Nat),j+r=len→∃ rows:List PV,rows.length=r∧(∀ x∈rows,x.isAgg=e.isA∧HasF e x.cells)∧(r≠0→a.spot=none∧I a.block)∧dN I w rows (P.cellsOf u) a.block (a.off+j*P.cellsOf u):=by
      intro r;induction r with
      | zero=>intro j _;exact ⟨[],rfl,by simp,fun h=>absurd rfl h,by simp only [dN]⟩
      | succ r ihr=>
       intro j hj;obtain ⟨rows,l1,l2,_,l4⟩:=ihr (j+1) (by omega);have hj2:j<elems.length:=by omega
       have hb:=hel j (by omega);rw [dU hj2] at hb;obtain ⟨cs',hc,hy⟩:=FU.1 hb;obtain ⟨_,hcl,hcg⟩:=World.cells?_some hc;obtain ⟨pcs,k1,k2⟩:=ih e u cs' _ hru hty hy (fun p hp=>hI p (by
        simp only [qAv,List.mem_flatMap];exact .inr ⟨elems[j],.inl (De _),hp⟩))
       obtain ⟨x,x1,x2,x3⟩:=sn (I:=I) (w:=w) k1;have hspot:=hspot0 (by omega);have hIa:I a.block:=hI (.cell a.block a.off) (by
        simp only [qAv];left;exact MemPlace.mem_row.2 ⟨0,Nat.mul_pos (by omega) hpos,rfl⟩)
       refine ⟨x::rows,by simp [l1],?_,fun _=>⟨hspot,hIa⟩,?_⟩
       ·intro y hy;rcases qAo.1 hy with rfl | hy
        ·exact ⟨x1,by rw [x2];exact k1⟩
        ·exact l2 y hy
       ·simp only [dN];refine ⟨⟨cs',hcl,x3 _ k2,?_⟩,?_⟩
        ·intro i v hi;have hi2:i<P.cellsOf u:=by rw [← hcl];exact (nA.1 hi).1
         have:=hcg i hi2;rw [hi] at this;rw [← this,hadd hspot]
        ·rw [uW,show j*P.cellsOf u+P.cellsOf u=(j+1)*P.cellsOf u by rw [dC,iZ]];exact l4
     obtain ⟨rows,l1,l2,l3,l4⟩:=yiw len 0 (by omega);refine ⟨[.data rows],?_,?_⟩
     ·simp only [HasF];exact ⟨rows,rfl,by omega,l2⟩
     ·simp only [ya5,RC];refine ⟨_,_,rfl,rfl,⟨some a,len,cap,rfl,l1.symm,hle,hcap,?_⟩,rfl⟩
      by_cases h0:len=0
      ·left;exact CV (by omega)
      ·right;obtain ⟨hs,hIa⟩:=l3 h0;refine ⟨a.block,a.off,P.cellsOf u,?_,hIa,hpos,by simpa using l4⟩
       cases a;simp only at hs;subst hs;rfl
   ·cases hty
  | a l=>
   unfold iQ at hty;split at hty
   ·rename_i fs ht;obtain ⟨xs,m,hm,rfl,hcl,hxl,hxs⟩:=DataW.trod_struct ht h;have hmn:m=n:=by omega
    subst hmn;obtain ⟨k1,k2,k3⟩:=K.struct hrow ht;have:=ZC ih (l:=l) (ts:=fs.toList.map (·.type)) hty (fun t ht=>by obtain ⟨f,hf,rfl⟩:=List.mem_map.1 ht;exact k1 f hf) (cs:=cs) (xs:=xs) (fun j=>((fs.toList.take j).map fun f=>P.cellsOf f.type).sum)
     (fun j t hj=>by
      rw [wN,mI] at hj;obtain ⟨f,hf,rfl⟩:=hj;obtain ⟨hlt,hf2⟩:=nA.1 hf;show ((fs.toList.take (j+1)).map _).sum=_;rw [List.take_add_one,hf];simp)
     (by simp only [yZ,yV];rw [hcl,k2];exact bW _)
     (fun j t hj=>by
      rw [wN,mI] at hj;obtain ⟨f,hf,rfl⟩:=hj;have:=hxs j f (by simpa using hf);rw [← this,k3 j f hf])
     (by simp [hxl]) hI (fs.toList.map (·.type)).length 0 (by omega)
    obtain ⟨pcs,p1,p2⟩:=this;exact ⟨pcs,by simp only [HasF];exact p1,by simpa using p2⟩
   ·rename_i q u ht;obtain ⟨xs,m,hm,rfl,hcl,hxl,hxs⟩:=DataW.trod_array ht h;have hmn:m=n:=by omega
    subst hmn;obtain ⟨k1,k2⟩:=K.array hrow ht;have:=ZC ih (l:=l) (ts:=replicate q u) hty (fun t ht=>by rw [(List.mem_replicate.1 ht).2];exact k1) (cs:=cs) (xs:=xs) (fun j=>j*P.cellsOf u)
     (fun j t hj=>by
      have:t=u:=(List.mem_replicate.1 (FX hj)).2;subst this;show (j+1)*_=_;rw [dC,iZ])
     (by rw [wK,hcl,k2];exact bW _)
     (fun j t hj=>by
      have e:t=u:=(List.mem_replicate.1 (FX hj)).2;subst e;have hlt:j<q:=by have:=(nA.1 hj).1;simpa using this
      exact hxs j hlt)
     (by simp [hxl]) hI (replicate q u).length 0 (by omega)
    obtain ⟨pcs,p1,p2⟩:=this;exact ⟨pcs,by simp only [HasF];exact p1,by simpa using p2⟩
   ·cases hty
end
end Go.Pf
namespace Go.Pf
open Go Go.ChangeShapes Go.WideShapes Go.ChangeAt Go.RowKit
def yuG:List DS→List PV→Prop
 | [],az=>az=[]
 | d::l,az=>∃ x r,az=x::r∧x.isAgg=d.isA∧HasF d x.cells∧yuG l r
section
variable {H:Type} {enc:TypeId×Value→H} {P:Program}
theorem ss (K:Kids P (·<P.types.size)) {w:World} {I:Nat→Prop} {base:Nat} {d:DS} {t:TypeId} {v:Value} {x:DataW H} {p:List MemPlace} (hrow:t<P.types.size) (hty:iQ P d t=true)
  (hval:Value.okWide P w .any base t v) (h:DataW.Trod enc P w 0 (fun _=>true) true t v x p) (hI:∀ q∈p,I q.block) :
  ∃ y:PV,y.isAgg=d.isA∧HasF d y.cells∧eU I w y v:=by
 obtain ⟨n,hn⟩:=h;obtain ⟨pcs,h1,h2⟩:=sr (I:=I) K n d t _ _ hrow hty hn hI;have single:∀ y:PV,pcs=[y]→y.isAgg=false→d.isA=false→v.cells.toList=[v]→∃ y:PV,y.isAgg=d.isA∧HasF d y.cells∧eU I w y v:=by
  intro y e hy hd hv;subst e;refine ⟨y,hy.trans hd.symm,?_,?_⟩
  ·have:y.cells=[y]:=by cases y<;>first | rfl | cases hy
   rw [this];exact h1
  ·rw [hv] at h2;simp only [ya5] at h2;obtain ⟨u,vr,e,_,h3,h4⟩:=h2;simp only [kJ] at e;obtain ⟨rfl,_⟩:=e
   cases y<;>first | exact h3 | (simp only [RC] at h3;done) | (simp only [eU];exact h3) | cases hy
 cases d with
 | b=>
  unfold iQ at hty;split at hty
  ·rename_i ht;obtain ⟨b,rfl⟩:=okWide_bool ht hval;simp only [HasF] at h1;obtain ⟨z,e⟩:=h1;exact single _ e rfl rfl rfl
  ·cases hty
 | i k=>
  unfold iQ at hty;split at hty
  ·rename_i q ht;obtain ⟨m,rfl⟩:=okWide_int ht hval;simp only [HasF] at h1;obtain ⟨z,e,_⟩:=h1;exact single _ e rfl rfl rfl
  ·cases hty
 | s e=>
  unfold iQ at hty;split at hty
  ·rename_i u ht;obtain ⟨a,len,cap,rfl⟩:=okWide_slice ht hval;simp only [HasF] at h1;obtain ⟨z,e,_⟩:=h1;exact single _ e rfl rfl rfl
  ·cases hty
 | a l=>
  have key:∀ cs,v=.agg cs→∃ y:PV,y.isAgg=(DS.a l).isA∧HasF (DS.a l) y.cells∧eU I w y v:=by rintro cs rfl;refine ⟨.agg pcs,rfl,h1,?_⟩;simp only [eU];exact ⟨cs.toList,rfl,h2⟩
  unfold iQ at hty;split at hty
  ·rename_i fs ht;obtain ⟨cs,e,_⟩:=okWide_struct ht hval;exact key cs e
  ·rename_i q u ht;have hval2:=hval;unfold Value.okWide at hval2;rw [ht] at hval2;obtain ⟨cs,e,_⟩:=hval2;exact key cs e
  ·cases hty
theorem ZD (K:Kids P (·<P.types.size)) {w:World} {I:Nat→Prop} {base:Nat}:∀ (ts:List TypeId) (dss:List DS) (vs:List Value) (xs:List (DataW H)) (p:List MemPlace),lK P dss ts=true→(∀ t∈ts,t<P.types.size) →
  (∀ (j:Nat) t v,ts[j]?=some t→vs[j]?=some v→Value.okWide P w .any base t v)→DataW.TrodAll enc P w 0 (fun _=>true) true ts vs xs p→(∀ q∈p,I q.block)→∃ az,yuG dss az∧fW I w az vs
 | [],[],[],[],p,_,_,_,_,_=>⟨[],by simp only [yuG],by simp only [fW]⟩
 | t::ts,d::dss,v::vs,x::xs,p,hty,hrow,hval,h,hI=>by
  unfold lK at hty;simp only [bO] at hty;obtain ⟨p1,q,h1,h2,rfl⟩:=h;obtain ⟨y,y1,y2,y3⟩:=ss K (hrow t (kC ..)) hty.1 (hval 0 t v rfl rfl) h1 (fun z hz=>hI z (FY _ hz));obtain ⟨az,a1,a2⟩:=ZD K ts dss vs xs q hty.2 (fun u hu=>hrow u (gO _ hu)) (fun j u z hj hz=>hval (j+1) u z hj hz) h2 (fun z hz=>hI z (List.mem_append_right _ hz));refine ⟨y::az,?_,?_⟩
  ·simp only [yuG];exact ⟨y,az,rfl,y1,y2,a1⟩
  ·simp only [fW];exact ⟨v,vs,rfl,y3,a2⟩
 | [],_::_,_,_,_,hty,_,_,_,_=>by unfold lK at hty;cases hty
 | _::_,[],_,_,_,hty,_,_,_,_=>by unfold lK at hty;cases hty
 | [],[],_::_,_,_,_,_,_,h,_=>h.elim
 | [],[],[],_::_,_,_,_,_,h,_=>h.elim
 | _::_,_::_,[],_,_,_,_,_,h,_=>h.elim
 | _::_,_::_,_::_,[],_,_,_,_,h,_=>h.elim
theorem su (K:Kids P (·<P.types.size)) {n:FuncId} {fn:Func} {G:Nat→Option PV} {dss:List DS} {ts:List TypeId} (hty:lK P dss ts=true) (hrow:∀ t∈ts,t<P.types.size)
  (hf : P.funcs[n]? = some fn) (hn : (fn.name == "runtime.NumGoroutine") = false) (hb : fn.body.isSome = true) (hsum : ∀ az, yuG dss az → oV P G n az (.bool true))
  {W:World} {base:Nat} {args:Array Value} {ds:List (DataW H)} {p:List MemPlace} {I:Nat→Prop} (hval:∀ (j:Nat) t v,ts[j]?=some t→args.toList[j]?=some v→Value.okWide P W .any base t v)
  (hA:DataW.TrodAll enc P W 0 (fun _=>true) true ts args.toList ds p) (hI:∀ q∈p,I q.block) (himm:∀ b,I b→b<W.heap.size) (hG:NN G I W) :
  Calls P n args W fun e W'=>e=.returned (.bool true)∧Below W.heap.size W W':=by
 obtain ⟨az,a1,a2⟩:=ZD (I:=I) K ts dss args.toList ds p hty hrow hval hA hI;have h:=hsum az a1 I W args.toList himm hG a2;have e:(callFunc n (args.toList).toArray).run P W=.ok (.enter n args) W:=by
  have h1 : fn.name ≠ "runtime.NumGoroutine" := by simpa using hn
  obtain ⟨c,hc⟩:=wH.1 hb;simp [callFunc,hf,h1,hc]
 unfold kM at h;rw [e] at h;refine Calls.mono h fun e w' he=>?_
 cases e with
 | returned v =>obtain ⟨h1,h2⟩:=he;simp only [VP,eU,RC,kJ,and_true] at h2;exact ⟨by rw [h2],h1.toBelow⟩
 | panicked ch=>exact he.elim
 | outgrown=>exact he.elim
theorem sx (K:Kids P (·<P.types.size)) (hz:∀ t e,t<P.types.size→P.underlying t=some (.slice e)→0<P.cellsOf e) {W W':World} (hb:Below W.heap.size W W') {sp:Nat→Bool} :
  ∀ {ts:List TypeId} {vs:List Value} {ds:List (DataW H)} {ps:List MemPlace},(∀ t∈ts,t<P.types.size)→DataW.TrodAll enc P W 0 (fun _=>true) true ts vs ds ps→(∀ p∈ps,p.block<W.heap.size)→(∀ p∈ps,sp p.block=true)→DataW.TrodAll enc P W' 0 sp true ts vs ds ps:=by
 intro ts vs ds ps hT h hlt hs;have carry:∀ {ts:List TypeId} {vs:List Value} {ds:List (DataW H)} {ps:List MemPlace},DataW.TrodAll enc P W 0 (fun _=>true) true ts vs ds ps→(∀ p∈ps,p.block<W.heap.size)→DataW.TrodAll enc P W' 0 (fun _=>true) true ts vs ds ps:=by
  intro ts;induction ts with
  | nil=>
   intro vs ds ps h _
   cases vs with
   | nil=>cases ds with
    | nil=>exact h
    | cons _ _=>exact h.elim
   | cons _ _=>exact h.elim
  | cons t ts ih=>
   intro vs ds ps h hlt
   cases vs with
   | nil=>exact h.elim
   | cons v vs=>cases ds with
    | nil=>exact h.elim
    | cons d ds =>obtain ⟨p,q,⟨n,h1⟩,h2,e⟩:=h;subst e;exact ⟨p,q,⟨n,DataW.trod_carry n _ _ _ h1 (fun x hx=>hb.same (hlt x (FY _ hx)))⟩,ih h2 (fun x hx=>hlt x (List.mem_append_right _ hx)),rfl⟩
 exact DataW.TrodAll.respare K hz hT (carry h hlt) hs
theorem sy {f:Func} {s:ChangeSpec} {yid fresh handsOn again:Bool} {W W':World} {args:Array Value} {v:Value} {ds gs:List (DataW H)} {before pa pv:List MemPlace}
  (hW:DataW.Whole enc P f.params.toList s.vars yid W args.toList ds gs before)
  (hres:∀ (b:Nat) (sp:Nat→Bool) (hd:Bool),DataW.TrodAll enc P W' b sp hd f.resultTypes.toList (v.resultList f.resultTypes.size) (s.fn H (ds++gs)).results [])
  (hargs:∀ sp:Nat→Bool,(∀ p∈before,sp p.block=true)→DataW.TrodAll enc P W' 0 sp true f.params.toList args.toList (s.fn H (ds++gs)).args pa)
  (hvars:∀ sp:Nat→Bool,(∀ p∈before,sp p.block=true)→DataW.TrodVars enc P W' sp s.vars (s.fn H (ds++gs)).vars pv)
  (hps:before=pa++pv) (hb:Below W.heap.size W W')
  (hok:∀ (j:Nat) (t:TypeId) (r:Value),f.resultTypes[j]?=some t→(v.resultList f.resultTypes.size)[j]?=some r→Value.okWide P W' .any 0 t r) :
  s.post enc P f yid fresh handsOn again W args v W':=by
 have hlt:∀ p∈before,p.block<W.heap.size:=fun p hp=>hW.lt p hp
 have hold:∀ p∈before,(fun b=>decide (b<W.heap.size)) p.block=true:=fun p hp=>by simpa using hlt p hp
 refine ⟨ds,gs,before,[],pa,pv,hW,hres _ _ _,hargs _ hold,hvars _ hold,World.keptBut_mono (fun p hp=>⟨hp,?_⟩) (hb.frame (·∈before)),fun _=>?_⟩
 ·rw [hps,qAv] at hp;exact Or.inr hp
 ·obtain ⟨_,_,_,_,_,hz,hn⟩:=hW;refine ⟨hok,_,_,([]++pa)++pv,⟨[]++pa,pv,trodAll_append (hargs _ (fun _ _=>rfl)) (hres _ _ _),hvars _ (fun _ _=>rfl),rfl,?_,?_⟩,?_⟩
  ·intro b off hp;have hin:MemPlace.cell b off∈before:=by rw [hps];simpa using hp
   rw [hb.frozen (hlt _ hin)];exact hz b off hin
  ·intro ha;have:=hn ha;rw [hps] at this;simpa using this
  ·intro p hp _;rw [hps];simpa using hp
theorem ta (K:Kids P (·<P.types.size)) (hz:∀ t e,t<P.types.size→P.underlying t=some (.slice e)→0<P.cellsOf e) {n:FuncId} {fn:Func} {G:Nat→Option PV} {dss:List DS} {s:ChangeSpec} {bt:TypeId}
  (hty : lK P dss fn.params.toList = true) (hrow : ∀ t ∈ fn.params.toList, t < P.types.size) (hf : P.funcs[n]? = some fn) (hn : (fn.name == "runtime.NumGoroutine") = false) (hb : fn.body.isSome = true)
  (hvars:s.vars=[]) (hfn:∀ ds:List (DataW H),ds.length=fn.params.toList.length→s.fn H (ds++[])={ results:=[.lit (.bool true)],args:=ds })
  (hrt:fn.resultTypes.toList=[bt]) (hbt:P.underlying bt=some .bool) (hsum:∀ az,yuG dss az→oV P G n az (.bool true)) {yid fresh handsOn again:Bool}
  {W:World} {base:Nat} {args:Array Value} {ds gs:List (DataW H)} {before:List MemPlace} (hval:∀ (j:Nat) t v,fn.params[j]?=some t→args[j]?=some v→Value.okWide P W .any base t v)
  (hW:DataW.Whole enc P fn.params.toList s.vars yid W args.toList ds gs before) (J:Nat→Prop) (hJ:∀ b,J b→b<W.heap.size) (hG:NN G (fun b=>(∃ p∈before,p.block=b)∨J b) W) :
  Calls P n args W fun e W'=>∃ v,e=.returned v∧s.post enc P fn yid fresh handsOn again W args v W':=by
 have hW':=hW;obtain ⟨p,q,hA,hV,hpq,hfz,hnd⟩:=hW;have hlt:∀ x∈before,x.block<W.heap.size:=fun x hx=>hW'.lt x hx
 rw [hvars] at hV;obtain ⟨hgs,hq⟩:=trodVars_none hV;subst hgs;subst hq;rw [List.append_nil] at hpq;subst hpq;have hlen:ds.length=fn.params.toList.length:=by
  have len:∀ {ts:List TypeId} {vs:List Value} {xs:List (DataW H)} {ps:List MemPlace},DataW.TrodAll enc P W 0 (fun _=>true) true ts vs xs ps→xs.length=ts.length:=by
   intro ts;induction ts with
   | nil=>
    intro vs xs ps h
    cases vs with
    | nil=>cases xs with
     | nil=>rfl
     | cons _ _=>exact h.elim
    | cons _ _=>exact h.elim
   | cons t ts ih=>
    intro vs xs ps h
    cases vs with
    | nil=>exact h.elim
    | cons v vs=>cases xs with
     | nil=>exact h.elim
     | cons x xs =>obtain ⟨_,_,_,h2,_⟩:=h;simp [ih h2]
  exact len hA
 have hc:=su (I:=fun b=>(∃ x∈before,x.block=b)∨J b) K hty hrow hf hn hb hsum (W:=W) (base:=base) (args:=args) (fun j t v h1 h2=>hval j t v (by simpa using h1) (by simpa using h2)) hA (fun x hx=>.inl ⟨x,hx,rfl⟩)
  (fun b hb=>by
   rcases hb with ⟨x,hx,rfl⟩|hb
   ·exact hlt x hx
   ·exact hJ b hb) hG
 refine hc.mono fun e W' ⟨he,hg⟩=>?_
 subst he;have hrs:fn.resultTypes=#[bt]:=by rw [← qW];exact hrt
 refine ⟨_,rfl,sy (pa:=before) (pv:=[]) hW' ?_ ?_ ?_ (by simp) hg ?_⟩
 ·intro b sp hd;rw [hfn ds hlen,hrs];exact trodAll_mk1 (shut_bool hbt true)
 ·intro sp hs;rw [hfn ds hlen];exact sx K hz hg hrow hA hlt hs
 ·intro sp hs;rw [hfn ds hlen,hvars];rfl
 ·intro j t r h1 h2;rw [hrs] at h1 h2;have hj:j=0:=by
   rcases j with _|j
   ·rfl
   ·simp at h1
  subst hj;simp at h1;subst h1;have:r=.bool true:=by
   have h3:((Value.bool true).resultList (#[bt]:Array TypeId).size)[0]?=some (.bool true):=rfl;rw [h3] at h2;exact (qDk h2).symm
  subst this;exact okWide_bool_mk hbt true
end
end Go.Pf
namespace Go.Pf
open Go
abbrev dP:Type:=Nat→List PV→Hp→Option (Bool×Bool×(PV×Hp)×(PV×Hp))
def rP:List (Nat×dP)→dP
 | [],_,_,_=>none
 | (k,e)::r,n,xs,H=>bif Nat.beq n k then (match e n xs H with | some x=>some x | none=>rP r n xs H) else rP r n xs H
theorem ZE:∀ {l:List (Nat×dP)} {n:Nat} {xs:List PV} {H:Hp} {x:Bool×Bool×(PV×Hp)×(PV×Hp)},rP l n xs H=some x→∃ e∈l,n=e.1
 | [],_,_,_,_,h=>by cases h
 | (k,e)::r,n,xs,H,x,h=>by
  simp only [rP] at h
  cases hb:Nat.beq n k with
  | true=>exact ⟨(k,e),kC,dK hb⟩
  | false =>rw [hb,cond_false] at h;obtain ⟨e2,h1,h2⟩:=ZE h;exact ⟨e2,gO _ h1,h2⟩
theorem Ko {P:Program} {E:Env}:∀ {l:List (Nat×dP)},(∀ e∈l,yba P E (fun n xs H=>pJ (e.2 n xs H)))→yba P E (fun n xs H=>pJ (rP l n xs H))
 | [],_=>fun _ _ _ _ _ h=>by cases h
 | (k,e)::r,h=>by
  intro f args H q H' hc;dsimp only [rP] at hc
  cases hb:Nat.beq f k with
  | false =>rw [hb,cond_false] at hc;exact Ko (fun e2 h2=>h e2 (gO _ h2)) f args H q H' hc
  | true=>
   rw [hb,cond_true] at hc
   cases he:e f args H with
   | some x =>rw [he] at hc;refine h (k,e) kC f args H q H' ?_;dsimp only;rw [he];exact hc
   | none =>rw [he] at hc;exact Ko (fun e2 h2=>h e2 (gO _ h2)) f args H q H' hc
def tK (add sub:Nat) (tab:List (Nat×AFn)) (qui:List Nat) (cl:mT) (gl:List (Nat×PV)) (ef:List (Nat×dP)):Env:={ rO add sub tab qui cl gl with eff:=rP ef }
theorem vO {add sub:Nat} {tab:List (Nat×AFn)} {qui:List Nat} {cl:mT} {gl:List (Nat×PV)} {ef:List (Nat×dP)} {n:Nat} (h:Kn add sub cl n=false) (xs:List PV):(tK add sub tab qui cl gl ef).sum n xs=none:=sj (tab:=tab) (qui:=qui) (gl:=gl) h xs
theorem tc {P:Program} {add sub:Nat} {tab:List (Nat×AFn)} {qui:List Nat} {cl:mT} {gl:List (Nat×PV)} {ef:List (Nat×dP)} (h:EO P (rO add sub tab qui cl gl))
  (hs:∀ e∈ef,∀ y,yba P ((rO add sub tab qui cl gl).ats y) (fun n xs H=>pJ (e.2 n xs H))):EO P (tK add sub tab qui cl gl ef) where
 sum:=h.sum
 fns:=h.fns
 eff:=EO.eff' (E:=rO add sub tab qui cl gl) (E':=tK add sub tab qui cl gl ef) rfl rfl rfl fun y _=>Ko fun e he=>hs e he y
 dn:=h.dn
 top:=h.top
 yl:=h.yl' (E':=tK add sub tab qui cl gl ef) rfl rfl rfl rfl
end Go.Pf
namespace Go.Pf
abbrev lt {α:Type} (x:α) (f:α→Prop):Prop:=f x
abbrev jn {α:Type} (f:α→Prop) (k:α):Prop:=f k
theorem ZF {n:Nat} {xs:List PV} {H:Hp}:∀ {l:List (Nat×dP)},memN (l.map (·.1)) n=false→rP l n xs H=none
 | [],_=>rfl
 | (k,e)::r,h=>by
  simp only [sO,memN] at h;simp only [rP]
  cases hb:Nat.beq k n with
  | true=>rw [hb] at h;cases h
  | false=>
   rw [hb,cond_false] at h;have hb2:Nat.beq n k=false:=by
    cases hc:Nat.beq n k with
    | false=>rfl
    | true=>
     have:=dK hc;subst this;rw [Nat.beq_refl] at hb
     cases hb
   rw [hb2,cond_false];exact ZF h
structure EffG (E:List (Nat×dP)→Env) (nums:List Nat) (e:List (Nat×dP)):Prop where
 ok:Eb (E e)
 num:∀ n,memN nums n=false→∀ xs H,(E e).eff n xs H=none
theorem td {add sub:Nat} {tab:List (Nat×AFn)} {qui:List Nat} {cl:mT} {gl:List (Nat×PV)} {ef:List (Nat×dP)} {n esz bytes:Nat} (h1:Nat.beq n add=false) (h2:Nat.beq n sub=false) (hc:GP cl n=some (esz,bytes)) :
  ∀ az K,yzF esz bytes az K→∃ r,K r∧Ans (tK add sub tab qui cl gl ef) n az r:=by
 intro az K h;unfold yzF OR at h;split at h
 ·rename_i rows;obtain ⟨hk,h⟩:=bJ.1 h;refine ⟨_,h,0,fun k e m _ hl _=>?_⟩;have hl:=(tF hl).2.1;simp only [ycH,hl,tK,rO,Zt h1 h2,Zy cl hc hk]
 ·exact h.elim
theorem te {add sub:Nat} {tab:List (Nat×AFn)} {qui:List Nat} {cl:mT} {gl:List (Nat×PV)} {ef:List (Nat×dP)}:∀ az K,ysV az K→∃ r,K r∧Ans (tK add sub tab qui cl gl ef) add az r:=by
 intro az K h;unfold ysV OO at h;split at h
 ·rename_i a b c;obtain ⟨h1,h⟩:=bJ.1 h;have h1:c.toNat≤1:=by simpa using h1
  refine ⟨_,h,0,fun k e m _ hl _=>?_⟩;have hl:=(tF hl).2.1;have e0:sumC add sub add [.int .u64 a,.int .u64 b,.int .u64 c]=some (.tup [u6 ((a.toNat+b.toNat+c.toNat)%18446744073709551616),u6 ((a.toNat+b.toNat+c.toNat)/18446744073709551616)]):=by
   simp only [sumC,Nat.beq_refl,pI,CY h1,cond_true]
  simp only [ycH,hl,tK,rO,e0,u6]
 ·exact h.elim
theorem tf {add sub:Nat} (hne:Nat.beq sub add=false) {tab:List (Nat×AFn)} {qui:List Nat} {cl:mT} {gl:List (Nat×PV)} {ef:List (Nat×dP)}:∀ az K,ysX az K→∃ r,K r∧Ans (tK add sub tab qui cl gl ef) sub az r:=by
 intro az K h;unfold ysX OP at h;split at h
 ·rename_i a b c;obtain ⟨h1,h⟩:=bJ.1 h;have h1:c.toNat≤1:=by simpa using h1
  refine ⟨_,h,0,fun k e m _ hl _=>?_⟩;have hl:=(tF hl).2.1;have e0:sumC add sub sub [.int .u64 a,.int .u64 b,.int .u64 c]=some (.tup [u6 ((a.toNat+18446744073709551616-b.toNat-c.toNat)%18446744073709551616),u6 (bif Nat.ble (b.toNat+c.toNat) a.toNat then 0 else 1)]):=by
   simp only [sumC,hne,Nat.beq_refl,pI,mJ,CY h1,cond_true,cond_false]
  simp only [ycH,hl,tK,rO,e0,u6]
 ·exact h.elim
abbrev Es:Type:=List (Nat×dP)
def Kp:Option Bool→Prop | none=>True | some b=>b=true
def GQ:Option Bool→Prop→Prop | none,x=>x | some b,x=>aA b x
theorem Eg {g:Option Bool} {x:Prop}:GQ g x↔Kp g∧x:=by cases g<;>simp [GQ,Kp,bJ]
def blen (H:Hp) (id:Nat):Nat:=match H[id]? with | some b=>b.rows.length | none=>0
structure Pat (α:Type) where
 T:Type
 A:Type→Type
 app:{R:Type}→A R→T→R
 of:(Nat→Nat)→T→α
 get:(Nat→Nat)→α→Option Bool→Option (T×Option Bool)
 inv:∀ {H x g t g'},get H x g=some (t,g')→Kp g'→Kp g∧x=of H t
section
variable {α β:Type}
def GR:Pat α:=⟨α,fun R=>α→R,fun g t=>g t,fun _ t=>t,fun _ x g=>some (x,g),fun h k=>by cases h;exact ⟨k,rfl⟩⟩
def pY (c:α) (f:α→Bool) (h:∀ x,f x=true→x=c):Pat α:=
 ⟨Unit,fun R=>R,fun g _=>g,fun _ _=>c,fun _ x g=>bif f x then some ((),g) else none,fun {H x g t g'} e k=>by
  cases hf:f x with
  | true=>rw [hf] at e;cases e;exact ⟨k,h _ hf⟩
  | false=>rw [hf] at e;cases e⟩
def iR (m:β→α) (s:α→Option β) (h:∀ x b,s x=some b→x=m b) (p:Pat β):Pat α:=
 ⟨p.T,p.A,p.app,fun H t=>m (p.of H t),fun H x g=>match s x with | none=>none | some b=>p.get H b g,fun {H x g t g'} e k=>by
  cases hs:s x with
  | none=>rw [hs] at e;cases e
  | some b=>
   rw [hs] at e;obtain ⟨h1,h2⟩:=p.inv e k;exact ⟨h1,by rw [h _ _ hs,h2]⟩⟩
def xK (p:Pat α) (q:Pat β):Pat (α×β):=
 ⟨p.T×q.T,fun R=>p.A (q.A R),fun g t=>q.app (p.app g t.1) t.2,fun H t=>(p.of H t.1,q.of H t.2),
  fun H x g=>match p.get H x.1 g with | none=>none | some (a,g1)=>(match q.get H x.2 g1 with | none=>none | some (b,g2)=>some ((a,b),g2)),fun {H x g t g'} e k=>by
   cases h1:p.get H x.1 g with
   | none=>rw [h1] at e;cases e
   | some y=>
    obtain ⟨a,g1⟩:=y;rw [h1] at e;simp only at e
    cases h2:q.get H x.2 g1 with
    | none=>rw [h2] at e;cases e
    | some z=>
     obtain ⟨b,g2⟩:=z;rw [h2] at e
     cases e
     obtain ⟨k2,e2⟩:=q.inv h2 k;obtain ⟨k1,e1⟩:=p.inv h1 k2;exact ⟨k1,Prod.ext e1 e2⟩⟩
end
def nK (n:Nat):Pat Nat:=pY n (fun x=>Nat.beq x n) fun _ h=>dK h
def nT (id:Nat):Pat Nat:=
 ⟨Unit,fun R=>R,fun g _=>g,fun H _=>H id,fun H x g=>some ((),match g with | none=>some (decide (x=H id)) | some b=>some (b&&decide (x=H id))),fun {H x g t g'} e k=>by
  cases e
  cases g with
  | none=>exact ⟨trivial,of_decide_eq_true k⟩
  | some b=>
   have k:(b&&decide (x=H id))=true:=k;simp only [bO,decide_eq_true_eq] at k;exact ⟨k.1,k.2⟩⟩
abbrev nV:Pat Nat:=GR
abbrev jP:Type 1:=Pat (List PV)
abbrev iS:Type 1:=Pat PV
def vI (k:IntKind):iS:=iR (.int k) (fun x=>match x with | .int q n=>bif decide (q=k) then some n else none | _=>none) (fun x b h=>by
 split at h
 ·rename_i q n
  by_cases e:q=k
  ·subst e;rw [Os rfl] at h;cases h;rfl
  ·rw [Tx e] at h;cases h
 ·cases h) GR
def vB:iS:=iR .bool (fun x=>match x with | .bool b=>some b | _=>none) (fun x b h=>by cases x<;>cases h;rfl) GR
def tg (p:jP):iS:=iR .data (fun x=>match x with | .data b=>some b | _=>none) (fun x b h=>by cases x<;>cases h;rfl) p
def vD:iS:=tg GR
def vA (p:jP):iS:=iR .agg (fun x=>match x with | .agg b=>some b | _=>none) (fun x b h=>by cases x<;>cases h;rfl) p
def GS:iS:=pY .nils (fun x=>match x with | .nils=>true | _=>false) fun x h=>by cases x<;>cases h;rfl
def vE:iS:=pY .emp (fun x=>match x with | .emp=>true | _=>false) fun x h=>by cases x<;>cases h;rfl
def vP (id o:Nat) (e i:Pat Nat):iS:=iR (fun b=>.ptr id b.1 b.2 o) (fun x=>match x with | .ptr a e i f=>bif Nat.beq a id&&Nat.beq f o then some (e,i) else none | _=>none) (fun x b h=>by
 split at h
 ·rename_i a e i f
  cases hc:(Nat.beq a id&&Nat.beq f o) with
  | false=>rw [hc] at h;cases h
  | true=>
   rw [hc] at h;simp only [bO] at hc
   cases h
   rw [dK hc.1,dK hc.2]
 ·cases h) (xK e i)
def OT (id o n z:Nat) (e i:Pat Nat):iS:=iR (fun b=>.sub id b.1 b.2 o n z) (fun x=>match x with | .sub a e i f m y=>bif Nat.beq a id&&(Nat.beq f o&&(Nat.beq m n&&Nat.beq y z)) then some (e,i) else none | _=>none) (fun x b h=>by
 split at h
 ·rename_i a e i f m y
  cases hc:(Nat.beq a id&&(Nat.beq f o&&(Nat.beq m n&&Nat.beq y z))) with
  | false=>rw [hc] at h;cases h
  | true=>
   rw [hc] at h;simp only [bO] at hc
   cases h
   rw [dK hc.1,dK hc.2.1,dK hc.2.2.1,dK hc.2.2.2]
 ·cases h) (xK e i)
def vX (o:Nat) (p:iS):iS:=iR (fun b=>.eptr [b] 0 o) (fun x=>match x with | .eptr [y] i f=>bif Nat.beq i 0&&Nat.beq f o then some y else none | _=>none) (fun x b h=>by
 split at h
 ·rename_i y i f
  cases hc:(Nat.beq i 0&&Nat.beq f o) with
  | false=>rw [hc] at h;cases h
  | true=>
   rw [hc] at h;simp only [bO] at hc
   cases h
   rw [dK hc.1,dK hc.2]
 ·cases h) p
def vW (id:Nat) (lo len ext:Pat Nat):iS:=iR (fun b=>.own id b.1 b.2.1 b.2.2 none) (fun x=>match x with | .own a lo len ext none=>bif Nat.beq a id then some (lo,len,ext) else none | _=>none) (fun x b h=>by
 split at h
 ·rename_i a lo len ext
  cases hc:Nat.beq a id with
  | false=>rw [hc] at h;cases h
  | true=>rw [hc] at h;cases h;rw [dK hc]
 ·cases h) (xK lo (xK len ext))
def vF (n:Nat) (p q:jP):iS:=iR (fun b=>.fn (.func n) b.1 b.2) (fun x=>match x with | .fn (.func k) a b=>bif Nat.beq k n then some (a,b) else none | _=>none) (fun x b h=>by
 split at h
 ·rename_i k a b
  cases hc:Nat.beq k n with
  | false=>rw [hc] at h;cases h
  | true=>rw [hc] at h;cases h;rw [dK hc]
 ·cases h) (xK p q)
def lN:jP:=pY [] (fun x=>match x with | []=>true | _::_=>false) fun x h=>by cases x<;>cases h;rfl
def lC (p:iS) (q:jP):jP:=iR (fun b=>b.1::b.2) (fun x=>match x with | y::r=>some (y,r) | []=>none) (fun x b h=>by cases x<;>cases h;rfl) (xK p q)
def fN:Pat aD:=pY [] (fun x=>match x with | []=>true | _::_=>false) fun x h=>by cases x<;>cases h;rfl
def fV (s:Nat) (p:iS) (q:Pat aD):Pat aD:=iR (fun b=>(s,.v b.1)::b.2) (fun x=>match x with | (k,.v y)::r=>bif Nat.beq k s then some (y,r) else none | _=>none) (fun x b h=>by
 split at h
 ·rename_i k y r
  cases hc:Nat.beq k s with
  | false=>rw [hc] at h;cases h
  | true=>rw [hc] at h;cases h;rw [dK hc]
 ·cases h) (xK p q)
def fX (s:Nat) (p:iS) (q:Pat aD):Pat aD:=iR (fun b=>(s,.box b.1)::b.2) (fun x=>match x with | (k,.box y)::r=>bif Nat.beq k s then some (y,r) else none | _=>none) (fun x b h=>by
 split at h
 ·rename_i k y r
  cases hc:Nat.beq k s with
  | false=>rw [hc] at h;cases h
  | true=>rw [hc] at h;cases h;rw [dK hc]
 ·cases h) (xK p q)
def ti:Pat Hp:=pY [] (fun x=>match x with | []=>true | _::_=>false) fun x h=>by cases x<;>cases h;rfl
def tj (fz pu:Bool) (esz:Nat) (p:jP) (q:Pat Hp):Pat Hp:=iR (fun b=>⟨fz,pu,esz,b.1⟩::b.2) (fun x=>match x with | ⟨a,b,c,rows⟩::r=>bif (a==fz)&&((b==pu)&&Nat.beq c esz) then some (rows,r) else none | []=>none) (fun x b h=>by
 split at h
 ·rename_i a b c rows r
  cases hc:((a==fz)&&((b==pu)&&Nat.beq c esz)) with
  | false=>rw [hc] at h;cases h
  | true=>
   rw [hc] at h;simp only [bO,beq_iff_eq] at hc
   cases h
   rw [hc.1,hc.2.1,dK hc.2.2]
 ·cases h) (xK p q)
structure RPt where
 p:jP
 n:∀ r r' t,(p.of r t).length=(p.of r' t).length
structure HPt where
 p:Pat Hp
 n:∀ r r' t id,blen (p.of r t) id=blen (p.of r' t) id
def rA:RPt:=⟨GR,fun _ _ _=>rfl⟩
def rN:RPt:=⟨lN,fun _ _ _=>rfl⟩
def rC (p:iS) (q:RPt):RPt:=⟨lC p q.p,fun r r' t=>WO (·+1) (q.n r r' t.2)⟩
def hN:HPt:=⟨ti,fun _ _ _ _=>rfl⟩
def hB (fz pu:Bool) (esz:Nat) (p:RPt) (q:HPt):HPt:=⟨tj fz pu esz p.p q.p,fun r r' t id=>by
 cases id with
 | zero=>exact p.n r r' t.1
 | succ k=>exact q.n r r' t.2 k⟩
abbrev pZ:Type:=Hp×aD×aD
abbrev r0:Nat→Nat:=fun _=>0
def pS (h:HPt) (p o:Pat aD):Pat pZ:=
 ⟨h.p.T×p.T×o.T,fun R=>h.p.A (p.A (o.A R)),fun g t=>o.app (p.app (h.p.app g t.1) t.2.1) t.2.2,fun _ t=>(h.p.of (blen (h.p.of r0 t.1)) t.1,p.of (blen (h.p.of r0 t.1)) t.2.1,o.of (blen (h.p.of r0 t.1)) t.2.2),
  fun _ x g=>match h.p.get (blen x.1) x.1 g with | none=>none | some (a,g1)=>(match p.get (blen x.1) x.2.1 g1 with | none=>none | some (b,g2)=>(match o.get (blen x.1) x.2.2 g2 with | none=>none | some (c,g3)=>some ((a,b,c),g3))),fun {H x g t g'} e k=>by
   obtain ⟨X,Y,Z⟩:=x
   cases h1:h.p.get (blen X) X g with
   | none=>simp only [h1] at e;cases e
   | some y=>
    obtain ⟨a,g1⟩:=y;simp only [h1] at e
    cases h2:p.get (blen X) Y g1 with
    | none=>rw [h2] at e;cases e
    | some z=>
     obtain ⟨b,g2⟩:=z;rw [h2] at e;simp only at e
     cases h3:o.get (blen X) Z g2 with
     | none=>rw [h3] at e;cases e
     | some w=>
      obtain ⟨c,g3⟩:=w;rw [h3] at e
      cases e
      obtain ⟨k3,e3⟩:=o.inv h3 k;obtain ⟨k2,e2⟩:=p.inv h2 k3;obtain ⟨k1,e1⟩:=h.p.inv h1 k2;refine ⟨k1,?_⟩;show (X,Y,Z)=(h.p.of (blen (h.p.of r0 a)) a,p.of (blen (h.p.of r0 a)) b,o.of (blen (h.p.of r0 a)) c);have e4:blen (h.p.of r0 a)=blen X:=funext fun id=>by
       rw [h.n r0 (blen X) a id,← e1]
      rw [e4,← e1,← e2,← e3]⟩
structure St where
 p:Pat pZ
 g:Nat→p.A Prop
def runS:List St→Nat→pZ→Prop
 | [],_,_=>False
 | s::r,n,x=>match s.p.get r0 x none with | some (t,b)=>GQ b (s.p.app (s.g n) t) | none=>runS r n x
def oB:List St→pZ→Prop
 | [],_=>False
 | s::r,x=>match s.p.get r0 x none with | some (t,b)=>GQ b (∃ n,s.p.app (s.g n) t) | none=>oB r x
theorem Kq {x:pZ}:∀ {L:List St},oB L x→∃ n,runS L n x
 | [],h=>h.elim
 | s::r,h=>by
  unfold oB at h;unfold runS;split at h
  ·rename_i t b e;obtain ⟨hb,n,h⟩:=Eg.1 h;exact ⟨n,Eg.2 ⟨hb,h⟩⟩
  ·obtain ⟨n,h⟩:=Kq h;exact ⟨n,h⟩
theorem Eh {x:pZ} {n:Nat}:∀ {L:List St},runS L n x→∃ s,s∈L∧∃ t,x=s.p.of r0 t∧s.p.app (s.g n) t
 | [],h=>h.elim
 | s::r,h=>by
  unfold runS at h;split at h
  ·rename_i t b e;obtain ⟨hb,h⟩:=Eg.1 h;exact ⟨s,kC,t,(s.p.inv e hb).2,h⟩
  ·obtain ⟨s',h1,h2⟩:=Eh h;exact ⟨s',gO _ h1,h2⟩
def GT (gc:Bool) (D:List Nat) (L:List St) (n:Nat) (G:aD) (k:Nat) (F':aD) (H':Hp):Prop:=runS L n (bif gc then oO (fdels F' D) k H' else H',bif gc then fdels F' D else F',G)
def AllB (E:Env) (callK:CK) (lp:LP) (yk:aD→YK) (b:TC) (gc:Bool) (Q:Qx) (L:List St):List St→Prop
 | []=>True
 | s::r=>(∀ t,s.p.app (s.g 0) t=False)∧(∀ n t,WC E callK lp (s.p.of r0 t).2.2 (yk (s.p.of r0 t).2.2) b (s.p.of r0 t).2.1 (s.p.of r0 t).1 (Zc (GT gc (lJ (bP b)) L n (s.p.of r0 t).2.2 (s.p.of r0 t).1.length) Q)=s.p.app (s.g (n+1)) t)∧AllB E callK lp yk b gc Q L r
theorem AllB.mem {E:Env} {callK:CK} {lp:LP} {yk:aD→YK} {b:TC} {gc:Bool} {Q:Qx} {L:List St}:∀ {l:List St},AllB E callK lp yk b gc Q L l→∀ s∈l,(∀ t,s.p.app (s.g 0) t=False)∧(∀ n t,WC E callK lp (s.p.of r0 t).2.2 (yk (s.p.of r0 t).2.2) b (s.p.of r0 t).2.1 (s.p.of r0 t).1 (Zc (GT gc (lJ (bP b)) L n (s.p.of r0 t).2.2 (s.p.of r0 t).1.length) Q)=s.p.app (s.g (n+1)) t)
 | [],_,s,h=>by cases h
 | x::r,h,s,hs=>by
  rcases qAo.1 hs with rfl|hs
  ·exact ⟨h.1,h.2.1⟩
  ·exact AllB.mem h.2.2 s hs
section
variable {E:Env} {callK:CK} {P:EP} {lp:LP} {yk:aD→YK} {b:TC} {Q:Qx} {L:List St} {id:Nat} {F G:aD} {H:Hp}
theorem cA.st (hP:aK P E) (hG:Good P callK) (hY:cH P E (yk G)) (hl:LpOk P E lp G b) (hb:AllB E callK lp yk b false Q L L) (h:oB L (H,F,G)) (hf:dE b=true:=by kernel_rfl):cA P (.loop id b) F H Q:=by
 obtain ⟨n,h⟩:=Kq h;refine cA.intro (id:=id) hP hG hf hY hl (fun n F H=>runS L n (H,F,G)) (fun F H h=>?_) (fun n F H h=>?_) n F H h
 ·obtain ⟨s,hs,t,_,h⟩:=Eh h;rw [(hb.mem s hs).1 t] at h;exact h
 ·obtain ⟨s,hs,t,e,h⟩:=Eh h;rw [← (hb.mem s hs).2 n t,← e] at h;exact h
theorem cA.stG (hP:aK P E) (hG:Good P callK) (hY:cH P E (yk G)) (hl:LpOk P E lp G b) (hb:AllB E callK lp yk b true Q L L) (h:oB L (H,F,G)) (hf:dE b=true:=by kernel_rfl):cA P (.lG id b) F H Q:=by
 obtain ⟨n,h⟩:=Kq h;refine cA.introG (id:=id) hP hG hf hY hl (fun n F H=>runS L n (H,F,G)) (fun F H h=>?_) (fun n F H h=>?_) n F H h
 ·obtain ⟨s,hs,t,_,h⟩:=Eh h;rw [(hb.mem s hs).1 t] at h;exact h
 ·obtain ⟨s,hs,t,e,h⟩:=Eh h;rw [← (hb.mem s hs).2 n t,← e] at h;exact h
def AllJ (E:Env) (callK:CK) (lp:LP) (yk:aD→YK) (b:TC) (Q:Qx):List St→Prop
 | []=>True
 | s::r=>(∀ n t,WC E callK lp (s.p.of r0 t).2.2 (yk (s.p.of r0 t).2.2) b (s.p.of r0 t).2.1 (s.p.of r0 t).1 Q=s.p.app (s.g n) t)∧AllJ E callK lp yk b Q r
theorem AllJ.mem {E:Env} {callK:CK} {lp:LP} {yk:aD→YK} {b:TC} {Q:Qx}:∀ {l:List St},AllJ E callK lp yk b Q l→∀ s∈l,∀ n t,WC E callK lp (s.p.of r0 t).2.2 (yk (s.p.of r0 t).2.2) b (s.p.of r0 t).2.1 (s.p.of r0 t).1 Q=s.p.app (s.g n) t
 | [],_,s,h=>by cases h
 | x::r,h,s,hs=>by
  rcases qAo.1 hs with rfl|hs
  ·exact h.1
  ·exact AllJ.mem h.2 s hs
theorem cA.stJ (hP:aK P E) (hG:Good P callK) (hY:cH P E (yk G)) (hl:LpOk P E lp G b) (hb:AllJ E callK lp yk b Q L) (h:oB L (H,F,G)) (hf:dE b=true:=by kernel_rfl):cA P (.join id b) F H Q:=by obtain ⟨n,h⟩:=Kq h;obtain ⟨s,hs,t,e,h⟩:=Eh h;rw [← hb.mem s hs n t,← e] at h;exact cA.intoJ hP hG hY hl hf h
end
abbrev fY (S:SE) (d:Nat) (yk:aD→YK) (b:TC) (gc:Bool) (L:Qx→List St):Prop:=∀ Q,AllB S.E (pX S d) S.lp yk b gc Q (L Q) (L Q)
abbrev gT (S:SE) (d:Nat) (yk:aD→YK) (b:TC) (L:Qx→List St):Prop:=∀ Q,AllJ S.E (pX S d) S.lp yk b Q (L Q)
abbrev a:aD→YK:=fun _=>gS
abbrev dF (P:EP) (lp:LP) (G:aD) (id:Nat) (c:TC):Prop:=∀ F H Q,lp id G F H Q→cA P c F H Q
def gL:List (Nat×(Qx→List St))→LP
 | [],_,_,_,_,_=>False
 | p::r,id,G,F,H,Q=>bif Nat.beq id p.1 then oB (p.2 Q) (H,F,G) else gL r id G F H Q
structure Sg where
 p:jP
 R:Type
 k:(PV→Prop)→R
abbrev Sg.W (s:Sg):Type:=s.p.A (s.R→Prop)
def Sg.pw (s:Sg) (w:s.W) (az:List PV) (K:PV→Prop):Prop:=match s.p.get r0 az none with | some (t,b)=>GQ b (s.p.app w t (s.k K)) | none=>False
def sE (E:Env) (l:List (Nat×(List PV→(PV→Prop)→Prop))) (lp:LP):SE:=⟨E,yhr l,yhs [],lp,fun _=>none⟩
def bX:LP:=fun _ _ _ _ _=>False
def bN (S:SE) (d:Nat) (t:TFn) (s:Sg) (w:s.W):Prop:=∀ a K,WP S d t (s.p.of r0 a) K=s.p.app w a (s.k K)
theorem Sg.inv {s:Sg} {w:s.W} {az:List PV} {K:PV→Prop} (h:s.pw w az K):∃ a,az=s.p.of r0 a∧s.p.app w a (s.k K):=by
 unfold Sg.pw at h;split at h
 ·rename_i t b e;obtain ⟨hb,h⟩:=Eg.1 h;exact ⟨t,(s.p.inv e hb).2,h⟩
 ·exact h.elim
theorem ZG {P:EP} {S:SE} {d n:Nat} {t:TFn} {s:Sg} {w:s.W} (hq:bN S d t s w) (hS:SEOk P S) (hR:aY P S.E (pX S d) t.body) (hl:LpOk P S.E S.lp [] t.body) (hs:∀ az,S.E.sum n az=none) (he:∀ az H,S.E.eff n az H=none) (hf:S.E.fns n=some t.fn) (hu:S.E.qui n=true) (hn:S.E.nl n=false):∀ az K,s.pw w az K→∃ r,K r∧cX P n az r:=fun az K h=>by obtain ⟨a,e,k⟩:=Sg.inv h;subst e;rw [← hq a K] at k;exact ry hS hR hl hf hu hs he k hn
end Go.Pf
namespace Go.Pf
open Go Go.RowKit
abbrev vQ (T:TypeId) (k:Int):List PanicEntry:=[{ v:=.iface T (.int .i64 k),recovered:=false }]
def yBR (E:Env) (F:aD):List AO→Option Int
 | [⟨some _,.mv x,none⟩,⟨some _,.bad,none⟩,⟨none,.bad,none⟩]=>(match evV E F x with | some (.int .i64 k)=>some k | _=>none)
 | _=>none
def Bv (T:TypeId) (d:Nat) (b:Oper):Bool:=
 match b.op with
 | .makeInterface T' (.tmp t)=>Nat.beq T' T&&Nat.beq t d
 | _=>false
def Bw (d:Nat) (c:Oper):Bool:=
 match c.op with
 | .panic (.tmp t)=>Nat.beq t d
 | _=>false
def Bx (a:Oper):Bool:=
 match a.op with
 | .move _=>true
 | _=>false
def GU (T:TypeId) (a b c:Oper):Bool:=
 (a.guard.isNone&&(b.guard.isNone&&c.guard.isNone))&&(Bx a&&(match a.dst with | some d1=>Bv T d1 b | none=>false)&&(match b.dst with | some d2=>Bw d2 c | none=>false))
def OU:AOp→Bool
 | .bad=>true
 | _=>false
def tL (P:Program) (loc:List Nat) (T:TypeId) (ops:Array Oper) (draw:Bool):Bool:=
 (!draw||!(sY (iO ops.toList [])).isEmpty) &&
 (match ops.toList with
  | [a,b,c]=>GU T a b c||!(OU (jN P loc b)&&OU (jN P loc c))
  | _=>true)
def GV:Code→Code→Bool
 | .region _ _ false,.cond (.tmp _) .ret .skip=>true
 | _,_=>false
def iT (P:Program) (loc:List Nat) (T:TypeId):Code→Bool
 | .region _ ops draw=>tL P loc T ops draw
 | .seq a b=>!GV a b&&(iT P loc T a&&iT P loc T b)
 | .cond _ a b=>iT P loc T a&&iT P loc T b
 | .block _ b=>iT P loc T b
 | .loop b=>iT P loc T b
 | .scope b=>iT P loc T b
 | _=>true
def lL (P:Program) (E:Env) (T:TypeId):List Nat→Prop
 | []=>True
 | n::r=>(∃ fu loc fg fn,P.funcs[n]?=some fu∧E.fns n=some fn∧mM P loc fg fu=some fn∧(fu.body.map fun c=>iT P loc T c)=some true)∧lL P E T r
theorem lL.get {P:Program} {E:Env} {T:TypeId} {n:Nat}:∀ {rl:List Nat},lL P E T rl→memN rl n=true→∃ fu loc fg c fn,P.funcs[n]?=some fu∧E.fns n=some fn∧mM P loc fg fu=some fn∧fu.body=some c∧iT P loc T c=true
 | [],_,h=>by cases h
 | k::r,hl,h=>by
  simp only [memN] at h
  cases hb:Nat.beq k n with
  | true =>have e:=dK hb;subst e;obtain ⟨fu,loc,fg,fn,h1,h2,h3,h4⟩:=hl.1;obtain ⟨c,h5,h6⟩:=mI.1 h4;exact ⟨fu,loc,fg,c,fn,h1,h2,h3,h5,h6⟩
  | false=>rw [hb] at h;exact lL.get hl.2 h
section
variable {P:Program} {E:Env} {nt:Nat} {g g':Gh} {F F':aD} {H H':Hp} {a:Act} {tmps:Array Value} {w w':World} {o:Oper} {T:TypeId} {rl:List Nat}
def GW (P:Program) (E:Env) (T:TypeId) (rz:Nat→List PV→Hp→Option (Int×Hp)):Prop:=
 ∀ (f:Nat) (args:List PV) (H:Hp) (k:Int) (H':Hp),rz f args H=some (k,H') →
  ∀ (nt:Nat) (g:Gh) (F:aD) (tmps:Array Value) (w:World) (vs:List Value),Rel E nt g F H tmps w→Lps P E g H w→bH g H w args vs →
   (callFunc f vs.toArray).run P w=.ok (.enter f vs.toArray) w∧Calls P f vs.toArray w fun e w'=>e=.panicked (vQ T k)∧inK .i64 k∧∃ g',Nx g g' H H' w w'∧Rel E nt g' F H' tmps w'
theorem Rel.bare (h:Rel E nt g F H tmps w) {nt2:Nat} {tmps2:Array Value} (hs:nt2≤tmps2.size):Rel E nt2 g [] H tmps2 w:=
 { h with size:=hs,frame:=fun s fv e=>by simp [fget] at e }
end
end Go.Pf
