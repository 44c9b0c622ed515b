/- Part 7. -/
import Derived.Test.YtfljciocndelnaaGreatEfW6
import Derived.Shelf.GgSortFunc.RowK
open Go.IntKind (i64 u8 u64)
open List (length getD take drop replicate set map isEmpty)
noncomputable section
namespace Go.Pf
open Go Go.RowKit Go.Sort Go.Proofs
theorem vg:∀ (ks:List IntKind) (cs:List PV),gO ks cs=true→cs.length=ks.length
 | [],[],_=>rfl
 | [],_::_,h=>by simp [gO] at h
 | _::_,[],h=>by simp [gO] at h
 | k::ks,x::r,h=>by
  cases x<;>first | (simp [gO] at h;done) | skip
  rename_i q n;simp only [gO,bO] at h;rw [iE,iE,vg ks r h.2.2.2]
theorem vh {g:Gh} {H:Hp} {w:World}:∀ (ks:List IntKind) (cs:List PV),gO ks cs=true→bL g H w cs (cs.map Fb)∧(∀ I:Nat→Prop,yaY I w cs (cs.map Fb))∧∀ v∈cs.map Fb,v.oneCell'=true
 | [],[],_=>⟨by simp only [bL,List.map_nil],fun I=>by simp only [yaY,List.map_nil],fun v h=>by cases h⟩
 | [],_::_,h=>by simp [gO] at h
 | _::_,[],h=>by simp [gO] at h
 | k::ks,x::r,h=>by
  cases x<;>first | (simp [gO] at h;done) | skip
  rename_i q n;simp only [gO,bO,decide_eq_true_eq] at h;obtain ⟨rfl,h1,h2,h3⟩:=h;obtain ⟨i1,i2,i3⟩:=vh (g:=g) (H:=H) (w:=w) ks r h3;refine ⟨?_,fun I=>?_,?_⟩
  ·simp only [nM,bL,VR];exact ⟨_,_,rfl,rfl,⟨rfl,h1,h2⟩,i1⟩
  ·simp only [nM,yaY,RC];exact ⟨_,_,rfl,rfl,⟨rfl,h1,h2⟩,i2 I⟩
  ·intro v hv;rcases qAn.1 hv with rfl | hv
   ·rfl
   ·exact i3 v hv
theorem vi:∀ (ks:List IntKind) (cs:List PV),gO ks cs=true→∀ v∈cs.map Fb,v.oneCell'=true
 | [],[],_,v,h=>by cases h
 | [],_::_,h,_,_=>by simp [gO] at h
 | _::_,[],h,_,_=>by simp [gO] at h
 | k::ks,x::r,h,v,hv=>by
  cases x<;>first | (simp [gO] at h;done) | skip
  simp only [gO,bO,decide_eq_true_eq] at h;rcases qAn.1 hv with rfl | hv
  ·rfl
  ·exact vi ks r h.2.2.2 v hv
theorem OU {ks:List IntKind} {x:PV} (h:Fd ks x=true):∃ cs,x=.agg cs∧gO ks cs=true:=by
 cases x<;>first | (simp [Fd] at h;done) | exact ⟨_,rfl,h⟩
theorem Srt.enc_one {s:Srt} (x:s.El):∀ v∈s.enc x,v.oneCell'=true:=by have h:=x.2;simp only [Srt.gd,bO] at h;obtain ⟨cs,e,hc⟩:=OU h.1;intro v hv;unfold Srt.enc uR at hv;rw [e] at hv;exact vi _ _ hc v hv
theorem yOf {w w':World} (h:Bel w.heap.size w w'):∃ q os,w'=grow (w.drewN q) os:=by
 refine ⟨w'.drawn-w.drawn,w'.heap.extract w.heap.size w'.heap.size,?_⟩;obtain ⟨⟨h1,h2,h3,h4,h5⟩,h6⟩:=h;have hh:w'.heap=w.heap++w'.heap.extract w.heap.size w'.heap.size:=by
  apply Array.ext_getElem?;intro k;rw [Array.getElem?_append];split
  ·rename_i hk;exact h5 k hk
  ·rename_i hk;rw [Array.getElem?_extract]
   by_cases hk2:k<w'.heap.size
   ·rw [YQ (by omega)];congr 1;omega
   ·rw [YR (by omega),Array.getElem?_eq_none (by omega)]
 have hd:w.drawn+(w'.drawn-w.drawn)=w'.drawn:=by omega
 cases w'
 cases w
 simp only at h1 h2 h3 hh hd;simp only [grow,World.drewN,World.mk.injEq];exact ⟨hh,h2,hd.symm,h1,h3⟩
theorem yDo {w:World} {b off:Nat} {F cur:Array Value} {T:TypeId} (hc:w.heap[b]?=some (.cells cur T (0,0))):putRow id w b off F=w.setRow b (putCells id off F cur):=by
 unfold putRow mapBlock World.setRow;congr 1;apply Array.ext_getElem?;intro k;rw [Array.getElem?_modify,Array.getElem?_modify]
 by_cases hk:b=k
 ·subst hk;rw [YQ rfl,YQ rfl,hc];rfl
 ·rw [YR hk,YR hk]
theorem vk {α:Type} [Inhabited α] {enc:α→List Value} {k:Nat} {w:World} {b off m:Nat} {d:Array α} {os:Array Obj} {cur:Array Value} {T:TypeId} (hc:w.heap[b]?=some (.cells cur T (0,0))) :
  grow (putRowK enc k (Sort.ahead w m) b off d) os=grow (Sort.ahead (w.setRow b (putCells id off (flatK enc k d) cur)) m) os:=by
 unfold putRowK;rw [yDo (w:=Sort.ahead w m) hc];rfl
theorem yDp {w:World} {m:Nat} {os:Array Obj}:Bel w.heap.size w (grow (Sort.ahead w m) os):=
 ⟨⟨rfl,rfl,rfl,by simp [grow,Sort.ahead],fun k hk=>by
  show (w.heap++os)[k]?=_;rw [Array.getElem?_append,YQ hk]⟩,Nat.le_add_right _ _⟩
structure SortsAt (P:Program) (s:Srt) (cf:s.El→s.El→Int) (srt:Array s.El→Array s.El) [Inhabited s.El]:Prop where
 size:∀ d,(srt d).size=d.size
 pos:0<s.ks.length
 enters:∀ args w,(callFunc s.g args).run P w=.ok (.enter s.g args) w
 entersN:∀ args w,(callFunc s.n args).run P w=.ok (.enter s.n args) w
 law:∀ (blk off cap:Nat) (d:Array s.El) (w:World),
  (∀ (m:Nat) (os:Array Obj) (dk:Array s.El),dk.size=d.size→∀ x y:s.El,
   Calls P s.g (#[.agg (s.enc x).toArray,.agg (s.enc y).toArray]++#[]) (grow (putRowK s.enc s.ks.length (Sort.ahead w m) blk off dk) os) fun e w'=>e=.returned (.int .i64 (cf x y))∧∃ q os',w'=grow ((grow (putRowK s.enc s.ks.length (Sort.ahead w m) blk off dk) os).drewN q) os') →
  HoldsK s.enc s.ks.length w blk off d→blk<w.heap.size→d.size<4611686018427387904 →
  Calls P s.n #[.slice (some ⟨blk,off,none⟩) d.size cap,.func (.func s.g) #[] #[]] w fun e w'=>e=.returned (.tuple #[])∧∃ m os,w'=grow (putRowK s.enc s.ks.length (Sort.ahead w m) blk off (srt d)) os
theorem vl {g:Gh} {H:Hp} {w:World}:∀ (ks:List IntKind) (cs:List PV) (vs:List Value),gO ks cs=true→bL g H w cs vs→vs=cs.map Fb
 | [],[],vs,_,h=>by simp only [bL] at h;rw [h];rfl
 | [],_::_,_,h,_=>by simp [gO] at h
 | _::_,[],_,h,_=>by simp [gO] at h
 | k::ks,x::r,vs,h,hv=>by
  cases x<;>first | (simp [gO] at h;done) | skip
  rename_i q n;simp only [gO,bO] at h;simp only [bL,VR] at hv;obtain ⟨v,vr,rfl,_,⟨rfl,_⟩,h3⟩:=hv;rw [vl ks r vr h.2.2.2 h3];rfl
theorem Srt.enc_row {s:Srt} {g:Gh} {H:Hp} {w:World} (x:s.El) {vs:List Value} (h:aV g H w x.1 vs):vs=s.enc x:=by have hg:=x.2;simp only [Srt.gd,bO] at hg;obtain ⟨cs,e,hcs⟩:=OU hg.1;rw [e] at h;simp only [aV] at h;rw [vl _ _ _ hcs h];unfold Srt.enc uR;rw [e];rfl
theorem Srt.enc_len {s:Srt} (x:s.El):(s.enc x).length=s.ks.length:=by have hg:=x.2;simp only [Srt.gd,bO] at hg;obtain ⟨cs,e,hcs⟩:=OU hg.1;unfold Srt.enc uR;rw [e,dS];exact vg _ _ hcs
theorem Srt.enc_is {s:Srt} {g:Gh} {H:Hp} {w:World} (x:s.El):aV g H w x.1 (s.enc x)∧(∀ I:Nat→Prop,RC I w x.1 (s.enc x))∧(∀ I:Nat→Prop,fH I w x.1 (.agg (s.enc x).toArray)):=by
 have hg:=x.2;simp only [Srt.gd,bO] at hg;obtain ⟨cs,e,hcs⟩:=OU hg.1;obtain ⟨i1,i2,_⟩:=vh (g:=g) (H:=H) (w:=w) _ _ hcs;unfold Srt.enc uR;rw [e];refine ⟨?_,fun I=>?_,fun I=>?_⟩
 ·simp only [aV];exact i1
 ·simp only [RC];exact i2 I
 ·simp only [fH];exact ⟨_,rfl,i2 I⟩
theorem yJk {j n k:Nat} (h:j<n*k):0<k∧j/k<n∧j%k<k:=by
 have hk:0<k:=by
  rcases Nat.eq_zero_or_pos k with h0|h0
  ·subst h0;simp at h
  ·exact h0
 exact ⟨hk,(Nat.div_lt_iff_lt_mul hk).2 h,Nat.mod_lt _ hk⟩
section
variable {P:Program} {E:Env}
theorem yJl {s:Srt} [Inhabited s.El] {g:Gh} {H:Hp} {w:World} {b off:Nat} {cur:Array Value} {T:TypeId} (hc:w.heap[b]?=some (.cells cur T (0,0))) (d:List s.El)
  (hr:∀ i (x:s.El),d[i]?=some x→∃ vs,vs.length=s.ks.length∧aV g H w x.1 vs∧At w b (off+i*s.ks.length) vs):HoldsK s.enc s.ks.length w b off d.toArray:=by
 intro j hj;rw [size_flatK] at hj;have hj2:=hj;rw [Ce] at hj;obtain ⟨hk,h1,h2⟩:=yJk hj;obtain ⟨vs,h3,h4,h5⟩:=hr (j/s.ks.length) _ (bY h1);have e:=Srt.enc_row _ h4;subst e;have h6:=h5 (j%s.ks.length) _ (bY (by rw [Srt.enc_len];exact h2));refine ⟨?_,?_⟩
 ·rw [get_flatK _ _ _ _ hj2];have eo:off+j=off+j/s.ks.length*s.ks.length+j%s.ks.length:=by
   have:=Nat.div_add_mod j s.ks.length;rw [Nat.mul_comm] at this;omega
  rw [eo,h6];have e1:d.toArray[j/s.ks.length]! = d[j/s.ks.length]:=by simp [h1]
  rw [e1,getElem!_pos _ _ (by rw [Srt.enc_len];exact h2)];rfl
 ·simp [World.frozen?,hc]
theorem vm {cs:Array Value} {p:Nat} {vs:List Value} (h:∀ j u,vs[j]?=some u→cs[p+j]?=some u):(cs.toList.drop p).take vs.length=vs:=by
 apply sJ;intro j
 by_cases hj:j<vs.length
 ·rw [List.getElem?_take_of_lt hj,qG,Array.getElem?_toList,bY hj];exact h j _ (bY hj)
 ·rw [iN (by rw [lL];omega),iN (by omega)]
theorem yF0 {off:Nat} {F cur:Array Value} {q:Nat} (h:q<off∨off+F.size≤q):(putCells id off F cur)[q]?=cur[q]?:=by
 unfold putCells;rw [Array.getElem?_mapIdx]
 cases cur[q]? with
 | none=>rfl
 | some v =>rw [Option.map_some,YR (by omega)]
theorem yHN {off:Nat} {F cur:Array Value} {q:Nat} (h1:off≤q) (h2:q<off+F.size) (h3:off+F.size≤cur.size):(putCells id off F cur)[q]?=some F[q-off]! := by unfold putCells;rw [Array.getElem?_mapIdx,Array.getElem?_eq_getElem (by omega),Option.map_some,YQ ⟨h1,h2⟩];rfl
theorem yDq {off:Nat} {F cur:Array Value}:(putCells id off F cur).size=cur.size:=by unfold putCells;simp
theorem At.cur {w:World} {b p:Nat} {vs:List Value} {cur:Array Value} {T:TypeId} (hc:w.heap[b]?=some (.cells cur T (0,0))) (h:At w b p vs):∀ j u,vs[j]?=some u→cur[p+j]?=some u:=by intro j u hu;have:=h j u hu;simpa [World.cell?,hc] using this
theorem yF1 {s:Srt} [Inhabited s.El] {cur:Array Value} {off:Nat} {d':Array s.El} (hfit:off+d'.size*s.ks.length≤cur.size) {t:Nat} (ht:t<d'.size) :
  ∀ j u,(s.enc d'[t])[j]?=some u→(putCells id off (flatK s.enc s.ks.length d') cur)[off+t*s.ks.length+j]?=some u:=by
 intro j u hu;have hj:j<s.ks.length:=by
  rcases qA9 j (s.enc d'[t]).length with h|h
  ·rw [Srt.enc_len] at h;exact h
  ·rw [iN h] at hu;cases hu
 have hle:t*s.ks.length+s.ks.length≤d'.size*s.ks.length:=by
  have:=gK s.ks.length (show t+1≤d'.size from ht)
  rwa [dG,jL] at this
 rw [yHN (by omega) (by rw [size_flatK];omega) (by rw [size_flatK];exact hfit)];rw [show off+t*s.ks.length+j-off=t*s.ks.length+j by omega,get_flatK _ _ _ _ (by omega)];have e1:(t*s.ks.length+j)/s.ks.length=t:=(blk_iff s.ks.length t _ (by omega)).1 ⟨by omega,by omega⟩;have e2:(t*s.ks.length+j)%s.ks.length=j:=by rw [Nat.mod_eq_sub_div_mul,e1];omega
 rw [e1,e2];have e3:d'[t]! = d'[t]:=getElem!_pos d' t ht;rw [e3];have hj2:j<(s.enc d'[t]).length:=by rw [Srt.enc_len];exact hj
 rw [getElem!_pos (s.enc d'[t]) j hj2];rw [bY hj2] at hu;exact hu
theorem yLI (s:Srt) [Inhabited s.El] {cf:s.El→s.El→Int} {srt:Array s.El→Array s.El} (hs:SortsAt P s cf srt)
  (hcmp:∀ x y:s.El,qM P E.glob s.g [x.1,y.1] (.int .i64 (cf x y))) {call:Nat→List PV→Hp→Option (PV×Hp)} (hcall:ybr P E call) (hnil:∀ H,call s.n [.nils,.fn (.func s.g) [] []] H=some (.tup [],H)) (hemp:∀ H,call s.n [.emp,.fn (.func s.g) [] []] H=some (.tup [],H)) :
  ybr P E (fun n xs H=>uB (Iw s srt n xs H)):=by
 intro f args H r H' h nt g F tmps w vs hr hL hv;dsimp only at h;unfold uB at h;split at h
 case h_2=>cases h
 rename_i c t x y he;obtain rfl:=yMx he;unfold Iw at he;rw [Nat.beq_refl,cond_true] at he;split at he
 case h_4=>cases he
 case h_2=>
  rename_i gg
  cases hb:Nat.beq gg s.g with
  | false=>rw [hb] at he;cases he
  | true=>
   rw [hb,cond_true] at he;obtain rfl:=gA hb
   cases he
   cases h
   exact hcall _ _ _ _ _ (hnil _) nt g F tmps w vs hr hL hv
 case h_3=>
  rename_i gg
  cases hb:Nat.beq gg s.g with
  | false=>rw [hb] at he;cases he
  | true=>
   rw [hb,cond_true] at he;obtain rfl:=gA hb
   cases he
   cases h
   exact hcall _ _ _ _ _ (hemp _) nt g F tmps w vs hr hL hv
 rename_i id lo len ext cap gg
 cases hb:Nat.beq gg s.g with
 | false=>rw [hb] at he;cases he
 | true=>
  rw [hb,cond_true] at he;obtain rfl:=gA hb;split at he
  case h_2=>cases he
  rename_i hbk hid;simp only [Srt.cond,bZ,Prod.mk.injEq,bO,decide_eq_true_eq,nL] at he;obtain ⟨⟨e1,e2,e0,e3,e4,e5,e6⟩,rfl,rfl,rfl⟩:=he
  cases h
  obtain ⟨d,hd⟩:=wI.1 e6;have hsrt:s.sorted srt ((hbk.rows.drop lo).take len)=(srt d.toArray).toList.map (·.1):=by unfold Srt.sorted;rw [hd]
  rw [hsrt];simp only [bK,VR] at hv;obtain ⟨v0,_,rfl,⟨hb0,a,c,hid0,_,rfl,hlc,hcm,_,hown⟩,v1,_,rfl,⟨as1,bs1,rfl,rfl,rfl,_⟩,rfl⟩:=hv;rw [hid] at hid0
  cases hid0
  obtain ⟨b,o,hρ,hle,ha,hcap,cur,T,hc,hfit⟩:=hown e1;have hc0:c≠0:=by omega
  obtain rfl:=ha hc0;obtain ⟨bb,oo,hk2⟩:=hr.heap id hbk hid;have e7:bb=b∧oo=o:=by have:=hk2.at_;rw [hρ] at this;cases this;exact ⟨rfl,rfl⟩
  obtain ⟨rfl,rfl⟩:=e7;have hbI:¬g.I bb:=hk2.live e4;have hdv:=Srt.rows?_val hd;have hdl:d.length=len:=by
   have:=YS length hdv;rw [dS,lL,lM] at this;omega
  have hbs:bb<w.heap.size:=HJ hc;have hrow:∀ i (x:s.El),d[i]?=some x→hbk.rows[lo+i]?=some x.1:=by
   intro i x hx;have h1:(d.map (·.1))[i]?=some x.1:=by rw [lK,hx];rfl
   rw [hdv] at h1;have hi:i<len:=by
    rcases qA9 i d.length with h|h
    ·omega
    ·rw [iN h] at hx;cases hx
   rw [List.getElem?_take_of_lt hi,qG] at h1;exact h1
  have hH:HoldsK s.enc s.ks.length w bb (oo+lo*hbk.esz) d.toArray:=yJl hc d fun i x hx=>by
   obtain ⟨vs,k1,k2,k3⟩:=sO _ _ _ _ (lo+i) x.1 hk2.rows (hrow i x hx);refine ⟨vs,by rw [k1,e3],k2,?_⟩;rw [show oo+lo*hbk.esz+i*s.ks.length=oo+(lo+i)*hbk.esz by rw [e3,dG];omega];exact k3
  have hclo:∀ (m:Nat) (os:Array Obj) (dk:Array s.El),dk.size=d.toArray.size→∀ x y:s.El,
   Calls P s.g (#[.agg (s.enc x).toArray,.agg (s.enc y).toArray]++#[]) (grow (putRowK s.enc s.ks.length (Sort.ahead w m) bb (oo+lo*hbk.esz) dk) os) fun e w'=>e=.returned (.int .i64 (cf x y))∧∃ q os',w'=grow ((grow (putRowK s.enc s.ks.length (Sort.ahead w m) bb (oo+lo*hbk.esz) dk) os).drewN q) os':=by
   intro m os dk _ x y;rw [vk hc];generalize hW:grow (Sort.ahead (w.setRow bb (putCells _root_.id (oo+lo*hbk.esz) (flatK s.enc s.ks.length dk) cur)) m) os=W;have hkeep:yM g.I g.I w W:=by
    intro q hq;refine ⟨hq,?_⟩;have hq1:=hr.imm q hq;have hqb:bb≠q:=fun e=>hbI (e ▸ hq)
    subst hW;show ((w.setRow bb _).heap++os)[q]?=_;rw [Array.getElem?_append,YQ (by rw [AX];exact hq1)];show (w.heap.modify bb _)[q]?=_;rw [Array.getElem?_modify,YR hqb]
   have hsz:w.heap.size≤W.heap.size:=by subst hW;show _≤((w.setRow bb _).heap++os).size;rw [Array.size_append,AX];omega
   have hcall:=hcmp x y g.I W [.agg (s.enc x).toArray,.agg (s.enc y).toArray] (fun q hq=>qF (hr.imm q hq) hsz)
    (fun n x hx=>by
     obtain ⟨k1,vs,k2,k3,k4⟩:=hr.glob n x hx;refine ⟨k1,vs,k2,kD hkeep _ _ k3,fun j u hj=>?_⟩;have:=k4 j u hj;simp only [World.cell?] at this ⊢;rw [(hkeep n k1).2];exact this)
    (by
     simp only [gS];exact ⟨_,_,rfl,(Srt.enc_is (g:=g) (H:=H) (w:=W) x).2.2 _,_,_,rfl,(Srt.enc_is (g:=g) (H:=H) (w:=W) y).2.2 _,rfl⟩)
   unfold nG at hcall;rw [hs.enters] at hcall;refine Calls.mono hcall fun e w' he=>?_
   cases e with
   | returned v =>obtain ⟨h1,h2⟩:=he;simp only [VP,fH,RC,kW,and_true] at h2;exact ⟨by rw [h2.1],yOf h1⟩
   | panicked ch=>exact he.elim
   | outgrown=>exact he.elim
  have hlaw:=hs.law bb (oo+lo*hbk.esz) c d.toArray w hclo hH hbs (by rw [Ce];omega);unfold nG;rw [hs.entersN];rw [Ce,hdl] at hlaw;refine Calls.mono hlaw fun e w' ⟨he,m,os,hw⟩=>?_
  subst he;dsimp only;rw [vk hc] at hw;obtain ⟨cs,hcs⟩:∃ cs,cs=putCells _root_.id (oo+lo*hbk.esz) (flatK s.enc s.ks.length (srt d.toArray)) cur:=⟨_,rfl⟩;rw [← hcs] at hw;have hsd:(srt d.toArray).size=len:=by rw [hs.size,Ce,hdl]
  obtain ⟨cur0,T0,hc1,hc2⟩:=hk2.cells;rw [hc] at hc1;obtain ⟨rfl,rfl⟩:cur=cur0∧T=T0:=by cases hc1;exact ⟨rfl,rfl⟩
  have hmul:(lo+len)*hbk.esz≤hbk.rows.length*hbk.esz:=gK _ (by omega);have hadd:(lo+len)*hbk.esz=lo*hbk.esz+len*hbk.esz:=dG ..;have hfit2:oo+lo*hbk.esz+(srt d.toArray).size*s.ks.length≤cur.size:=by rw [hsd,← e3];omega
  have hcsz:cs.size=cur.size:=by rw [hcs,yDq]
  let rows':List PV:=hbk.rows.take lo++((srt d.toArray).toList.map (·.1)++hbk.rows.drop (lo+len));have hl1:(hbk.rows.take lo).length=lo:=by rw [lL];omega
  have hl2:((srt d.toArray).toList.map (·.1)).length=len:=by rw [dS,AQ,hsd]
  have hl3:rows'.length=hbk.rows.length:=by show (hbk.rows.take lo++((srt d.toArray).toList.map (·.1)++hbk.rows.drop (lo+len))).length=_;rw [kP,kP,hl1,hl2,lM];omega
  have hcase:∀ i x,rows'[i]?=some x→(hbk.rows[i]?=some x∧(i<lo∨lo+len≤i))∨(∃ t,∃ ht:t<(srt d.toArray).size,i=lo+t∧x=((srt d.toArray)[t]).1):=by
   intro i x hx;have hx':(hbk.rows.take lo++((srt d.toArray).toList.map (·.1)++hbk.rows.drop (lo+len)))[i]?=some x:=hx
   by_cases h1:i<lo
   ·rw [KK (by omega),List.getElem?_take_of_lt h1] at hx';exact .inl ⟨hx',.inl h1⟩
   ·rw [List.getElem?_append_right (by omega),hl1] at hx'
    by_cases h2:i-lo<len
    ·rw [KK (by omega),lK,Array.getElem?_toList,Array.getElem?_eq_getElem (by omega)] at hx';exact .inr ⟨i-lo,by omega,by omega,(AS hx').symm⟩
    ·rw [List.getElem?_append_right (by omega),hl2,qG,show lo+len+(i-lo-len)=i by omega] at hx';exact .inl ⟨hx',.inr (by omega)⟩
  have hold:∀ i (vs:List Value),vs.length=hbk.esz→(i<lo∨lo+len≤i)→At w bb (oo+i*hbk.esz) vs→(cs.toList.drop (oo+i*hbk.esz)).take vs.length=vs:=by
   intro i vs hv hi hat
   refine vm fun j u hu=>?_
   have hj:j<hbk.esz:=by
    rcases qA9 j vs.length with h|h
    ·omega
    ·rw [iN h] at hu;cases hu
   rw [hcs,yF0,hat.cur hc j u hu];rw [size_flatK,hsd,← e3];rcases hi with hi | hi
   ·left;have:=gK hbk.esz (show i+1≤lo from hi);rw [dG,jL] at this;omega
   ·right;have:=gK hbk.esz hi;omega
  have hnew:∀ t (ht:t<(srt d.toArray).size),(cs.toList.drop (oo+(lo+t)*hbk.esz)).take (s.enc (srt d.toArray)[t]).length=s.enc (srt d.toArray)[t]:=by
   intro t ht;refine vm fun j u hu=>?_
   rw [hcs,show oo+(lo+t)*hbk.esz+j=oo+lo*hbk.esz+t*s.ks.length+j by rw [dG,← e3];omega];exact yF1 hfit2 ht j u hu
  obtain ⟨r1,n1⟩:=hr.setBlk (rows':=rows') (cs:=cs) hid e4 hρ hc hcsz (by omega) (by rw [hl3,hcsz];exact hc2)
   (fun i x hx=>by
    rcases hcase i x hx with ⟨h1,h2⟩|⟨t,ht,rfl,rfl⟩
    ·obtain ⟨vs,k1,k2,k3⟩:=sO _ _ _ _ i x hk2.rows h1;exact ⟨vs,k1,k2,hold i vs k1 h2 k3⟩
    ·exact ⟨_,by rw [Srt.enc_len,e3],(Srt.enc_is (g:=g) (H:=H) (w:=w) _).1,hnew t ht⟩)
   (fun hp i x hx=>by
    rcases hcase i x hx with ⟨h1,h2⟩|⟨t,ht,rfl,rfl⟩
    ·obtain ⟨vs,k1,k2,k3⟩:=pE _ _ _ _ i x (hk2.pure hp) h1;exact ⟨vs,k1,k2,hold i vs k1 h2 k3⟩
    ·exact ⟨_,by rw [Srt.enc_len,e3],(Srt.enc_is (g:=g) (H:=H) (w:=w) _).2.1 _,hnew t ht⟩)
  obtain ⟨g2,r2,n2,_⟩:=r1.grew (yDp (m:=m) (os:=os));subst hw;refine ⟨g2,n1.trans n2,r2,?_⟩;simp only [VR,bK];exact ⟨_,rfl,rfl⟩
end
end Go.Pf
