/- The framework that the closed statement rests on, part 2. -/
import Derived.Test.YtlooeiaiafmikaaGreatDoorBnW1
namespace Go.Pf
open Go
def ydr {S O:Type} (run:O→S→Option S):List O→S→Option S
  | [],s=>some s
  | o::r,s=>match run o s with
    | some s'=>ydr run r s'
    | none=>none
section
variable {S L V O:Type} {look:S→L→V} {run:O→S→Option S} {ops:List O} {st:Nat→S} {R W:Nat→L→Prop}
theorem yeR (p:Nat→Prop):∀ k,(∀ i,i<k→¬p i)∨∃ i,i<k∧p i∧∀ j,j<k→p j→j≤i:=by
  intro k
  induction k with
  | zero=>exact .inl fun i h=>absurd h (Nat.not_lt_zero i)
  | succ k ih =>
    by_cases h:p k
    · exact .inr ⟨k,Nat.lt_succ_self k,h,fun j hj _=>Nat.le_of_lt_succ hj⟩
    · rcases ih with ih | ⟨i,h1,h2,h3⟩
      · refine .inl fun i hi=>?_
        rcases Nat.lt_or_ge i k with h4 | h4
        · exact ih i h4
        · have:i=k:=by omega
          subst this;exact h
      · refine .inr ⟨i,by omega,h2,fun j hj hp=>?_⟩
        rcases Nat.lt_or_ge j k with h4 | h4
        · exact h3 j h4 hp
        · have:j=k:=by omega
          subst this;exact absurd hp h
structure Local (look:S→L→V) (run:O→S→Option S) (ops:List O) (st:Nat→S) (R W:Nat→L→Prop):Prop where
  goes:∀ (i:Nat) (o:O),ops[i]?=some o→run o (st i)=some (st (i+1))
  loc:∀ (i:Nat) (o:O),ops[i]?=some o→∀ S',(∀ l,R i l→look S' l=look (st i) l)→∃ T',run o S'=some T'∧(∀ l,W i l→look T' l=look (st (i+1)) l)∧(∀ l,¬W i l→look T' l=look S' l)
theorem Local.keeps (h:Local look run ops st R W) {i:Nat} (hi:i<ops.length) {l:L} (hw:¬W i l):look (st (i+1)) l=look (st i) l:=by
  obtain ⟨T',h1,h2,h3⟩:=h.loc i _ (List.getElem?_eq_getElem hi) (st i) (fun _ _=>rfl)
  rw [h.goes i _ (List.getElem?_eq_getElem hi)] at h1
  cases h1
  exact h3 l hw
theorem Local.since (h:Local look run ops st R W) {l:L} {k:Nat}:∀ m,k+m≤ops.length→(∀ i,k≤i→i<k+m→¬W i l)→look (st (k+m)) l=look (st k) l:=by
  intro m
  induction m with
  | zero=>intro _ _;rfl
  | succ m ih =>
    intro hm hw
    have:=h.keeps (i:=k+m) (by omega) (hw _ (by omega) (by omega))
    rw [← Nat.add_assoc,this]
    exact ih (by omega) fun i h1 h2=>hw i h1 (by omega)
def Free (R W:Nat→L→Prop) (i j:Nat):Prop:=∀ l,¬(W i l∧(R j l∨W j l))∧¬(W j l∧R i l)
theorem Local.perm (h:Local look run ops st R W):∀ (σ done:List Nat) (T:S),(done++σ).Nodup→(∀ i,i<ops.length↔i∈done++σ) →
    (∀ i j,i<j→(i∈σ∧j∈done∨(∃ a b c,σ=a++j::(b++i::c)))→Free R W i j) →
    (∀ l,(∀ i∈done,¬W i l)→look T l=look (st 0) l) →
    (∀ l i,i∈done→W i l→(∀ j∈done,W j l→j≤i)→look T l=look (st (i+1)) l) →
    ∃ T',ydr run (σ.filterMap (ops[·]?)) T=some T'∧∀ l,look T' l=look (st ops.length) l
  | [],done,T,hnd,hall,_,ha,hb=>by
    refine ⟨T,rfl,fun l=>?_⟩
    rcases yeR (fun i=>W i l) ops.length with h1 | ⟨i,h1,h2,h3⟩
    · have:=h.since (l:=l) (k:=0) ops.length (by omega) (fun i _ hi=>h1 i (by omega))
      rw [Nat.zero_add] at this
      rw [this]
      exact ha l fun i hi=>h1 i ((hall i).2 (by simpa using hi))
    · have hi:i∈done:=by have:=(hall i).1 h1;simpa using this
      rw [hb l i hi h2 fun j hj hw=>h3 j ((hall j).2 (by simpa using hj)) hw]
      have:=h.since (l:=l) (k:=i+1) (ops.length-(i+1)) (by omega) (fun j h4 h5 hw=>by have:=h3 j (by omega) hw;omega)
      rw [show i+1+(ops.length-(i+1))=ops.length by omega] at this
      exact this.symm
  | j::σ,done,T,hnd,hall,hfree,ha,hb=>by
    have hj:j<ops.length:=(hall j).2 (by simp)
    have hjd:j∉done:=by
      intro hx
      rw [List.nodup_append] at hnd
      exact hnd.2.2 j hx j (by simp) rfl
    have later:∀ i,i<ops.length→i∉done→i≠j→i∈σ:=by
      intro i hi h1 h2
      have:=(hall i).1 hi
      simp only [List.mem_append,List.mem_cons] at this
      rcases this with h3 | h3 | h3
      · exact absurd h3 h1
      · exact absurd h3 h2
      · exact h3
    have freeLate:∀ i,i<j→i∈σ→Free R W i j:=by
      intro i hij hi
      obtain ⟨b,c,e⟩:=List.append_of_mem hi
      exact hfree i j hij (.inr ⟨[],b,c,by rw [e];rfl⟩)
    have freeDone:∀ i,j<i→i∈done→Free R W j i:=fun i hij hi=>hfree j i hij (.inl ⟨by simp,hi⟩)
    have agree:∀ l,R j l→look T l=look (st j) l:=by
      intro l hl
      have noBig:∀ i∈done,W i l→i<j:=by
        intro i hi hw
        rcases Nat.lt_or_ge i j with h1 | h1
        · exact h1
        · have hne:i≠j:=fun e=>hjd (e ▸ hi)
          exact absurd ⟨hw,hl⟩ (freeDone i (by omega) hi l).2
      rcases yeR (fun i=>W i l) j with h1 | ⟨i,h1,h2,h3⟩
      · have:=h.since (l:=l) (k:=0) j (by omega) (fun i _ hi=>h1 i (by omega))
        rw [Nat.zero_add] at this
        rw [this]
        exact ha l fun i hi hw=>h1 i (noBig i hi hw) hw
      · have hi:i∈done:=by
          by_cases hd:i∈done
          · exact hd
          · exact absurd ⟨h2,.inl hl⟩ (freeLate i h1 (later i (by omega) hd (by omega)) l).1
        rw [hb l i hi h2 fun k hk hw=>h3 k (noBig k hk hw) hw]
        have:=h.since (l:=l) (k:=i+1) (j-(i+1)) (by omega) (fun k h4 h5 hw=>by have:=h3 k (by omega) hw;omega)
        rw [show i+1+(j-(i+1))=j by omega] at this
        exact this.symm
    obtain ⟨T',h1,h2,h3⟩:=h.loc j _ (List.getElem?_eq_getElem hj) T agree
    have ih:=Local.perm h σ (done++[j]) T' (by simpa using hnd) (fun i=>by rw [hall i];simp) ?_ ?_ ?_
    · obtain ⟨T2,h4,h5⟩:=ih
      refine ⟨T2,?_,h5⟩
      rw [List.filterMap_cons,List.getElem?_eq_getElem hj]
      simp only [ydr,h1]
      exact h4
    · intro i k hik hcase
      rcases hcase with ⟨hi,hk⟩ | ⟨a,b,c,e⟩
      · simp only [List.mem_append,List.mem_singleton] at hk
        rcases hk with hk | rfl
        · exact hfree i k hik (.inl ⟨by simp [hi],hk⟩)
        · exact freeLate i hik hi
      · exact hfree i k hik (.inr ⟨j::a,b,c,by rw [e];rfl⟩)
    · intro l hl
      rw [h3 l (hl j (by simp))]
      exact ha l fun i hi=>hl i (by simp [hi])
    · intro l i hi hw hmax
      simp only [List.mem_append,List.mem_singleton] at hi
      by_cases hwj:W j l
      · have hle:=hmax j (by simp) hwj
        rcases hi with hi | rfl
        · have hne:i≠j:=fun e=>hjd (e ▸ hi)
          exact absurd ⟨hwj,.inr hw⟩ (freeDone i (by omega) hi l).1
        · exact h2 l hw
      · rcases hi with hi | rfl
        · rw [h3 l hwj]
          exact hb l i hi hw fun k hk hkw=>hmax k (by simp [hk]) hkw
        · exact absurd hw hwj
end
def ybN (o:Oper):List Nat:=o.after.toList.filterMap fun e=>if Region.binds .any e then some e.on else none
theorem yge {p q:Nat→Bool}:∀ (l:List Nat) (i:Nat),i∈l→p i=true→q i=false→(∀ j,q j=true→p j=true)→l.countP q<l.countP p
  | [],i,h,_,_,_=>by simp at h
  | x::l,i,h,hp,hq,himp=>by
    have hle:l.countP q≤l.countP p:=List.countP_mono_left fun j _=>himp j
    simp only [List.countP_cons]
    rcases List.mem_cons.1 h with rfl | h
    · rw [hp,hq];simp;omega
    · have:=yge l i h hp hq himp
      cases hqx:q x
      · simp;omega
      · rw [himp x hqx];simp;exact this
theorem ygN (ops:Array Oper) (hback:∀ (i:Nat) (o:Oper),ops[i]?=some o→∀ k∈ybN o,k<i) :
    ∀ (fuel t:Nat) (listed:Array Bool),listed.size=ops.size→(List.range ops.size).countP (fun i=>!listed.getD i true)≤fuel →
      (∀ i,(i<ops.size∧listed.getD i true=false)↔i∈Region.linearise.go .any ops fuel t listed [])∧(Region.linearise.go .any ops fuel t listed []).Nodup ∧
      ∀ a j b,Region.linearise.go .any ops fuel t listed []=a++j::b→∀ o,ops[j]?=some o→∀ k∈ybN o,listed.getD k false=true∨k∈a:=by
  intro fuel
  induction fuel with
  | zero =>
    intro t listed hsz hc
    simp only [Region.linearise.go,List.reverse_nil]
    refine ⟨fun i=>⟨fun ⟨h1,h2⟩=>?_,fun h=>by simp at h⟩,List.nodup_nil,fun a j b e=>by simp at e⟩
    have:=List.countP_eq_zero.1 (Nat.le_zero.1 hc) i (by simpa using h1)
    simp [h2] at this
  | succ fuel ih =>
    intro t listed hsz hc
    simp only [Region.linearise.go]
    change (∀ i,(i<ops.size∧listed.getD i true=false)↔i∈(match (Region.ready .any ops listed)[t % (Region.ready .any ops listed).length]? with
      | some i=>Region.linearise.go .any ops fuel (t / (Region.ready .any ops listed).length) (listed.setIfInBounds i true) [i]
      | none=>[].reverse))∧List.Nodup (match (Region.ready .any ops listed)[t % (Region.ready .any ops listed).length]? with
      | some i=>Region.linearise.go .any ops fuel (t / (Region.ready .any ops listed).length) (listed.setIfInBounds i true) [i]
      | none=>[].reverse)∧∀ a j b,(match (Region.ready .any ops listed)[t % (Region.ready .any ops listed).length]? with
      | some i=>Region.linearise.go .any ops fuel (t / (Region.ready .any ops listed).length) (listed.setIfInBounds i true) [i]
      | none=>[].reverse)=a++j::b→∀ o,ops[j]?=some o→∀ k∈ybN o,listed.getD k false=true∨k∈a
    have hready:∀ i,i∈Region.ready .any ops listed↔i<ops.size∧listed.getD i true=false∧∀ o,ops[i]?=some o→∀ k∈ybN o,listed.getD k false=true:=by
      intro i
      simp only [Region.ready,List.mem_filter,List.mem_range,Bool.and_eq_true,Bool.not_eq_true']
      refine and_congr_right fun hi=>and_congr_right fun hl=>?_
      have hoi:ops[i]?=some ops[i]:=by simp [hi]
      rw [hoi]
      simp only [Option.map_some,Option.getD_some,Array.all_eq_true',Bool.or_eq_true,Bool.not_eq_true',Option.some.injEq,forall_eq']
      constructor
      · intro h k hk
        simp only [ybN,List.mem_filterMap] at hk
        obtain ⟨e,he,hk⟩:=hk
        split at hk
        · rename_i hb
          cases hk
          rcases h e (by simpa using he) with h1 | h1
          · rw [hb] at h1;cases h1
          · exact h1
        · cases hk
      · intro h e he
        by_cases hb:Region.binds .any e=true
        · right
          refine h e.on ?_
          simp only [ybN,List.mem_filterMap]
          exact ⟨e,by simpa using he,by rw [if_pos hb]⟩
        · left;simpa using hb
    cases hi:(Region.ready .any ops listed)[t % (Region.ready .any ops listed).length]? with
    | none =>
      have hnil:Region.ready .any ops listed=[]:=by
        cases hr:Region.ready .any ops listed with
        | nil=>rfl
        | cons x xs =>
          rw [hr] at hi
          have hlt:t % (x::xs).length<(x::xs).length:=Nat.mod_lt _ (by simp)
          simp at hi
          simp at hlt
          omega
      simp only [List.reverse_nil]
      have none_left:∀ i,¬(i<ops.size∧listed.getD i true=false):=by
        intro i
        induction i using Nat.strongRecOn with
        | _ i ihi =>
          rintro ⟨h1,h2⟩
          have:i∈Region.ready .any ops listed:=(hready i).2 ⟨h1,h2,fun o ho k hk=>by
            have hki:=hback i o ho k hk
            have:=ihi k hki
            have hks:k<listed.size:=by omega
            have h3:listed.getD k true=true:=by
              cases h4:listed.getD k true
              · exact absurd ⟨by omega,h4⟩ this
              · rfl
            simpa [Array.getD,hks] using h3⟩
          rw [hnil] at this
          cases this
      exact ⟨fun i=>⟨fun h=>(none_left i h).elim,fun h=>by simp at h⟩,List.nodup_nil,fun a j b e=>by simp at e⟩
    | some i =>
      simp only []
      rw [linearise_go_acc,List.reverse_singleton,List.singleton_append]
      have him:=(hready i).1 (List.mem_of_getElem? hi)
      obtain ⟨hi1,hi2,hi3⟩:=him
      have hset:∀ k d,k≠i→(listed.setIfInBounds i true).getD k d=listed.getD k d:=by
        intro k d hk
        simp only [Array.getD_eq_getD_getElem?,Array.getElem?_setIfInBounds]
        rw [if_neg (fun e=>hk e.symm)]
      have hself:∀ d,(listed.setIfInBounds i true).getD i d=true:=by
        intro d
        simp [Array.getD_eq_getD_getElem?,hsz,hi1]
      have hcount:(List.range ops.size).countP (fun k=>!(listed.setIfInBounds i true).getD k true)≤fuel:=by
        have:=yge (p:=fun k=>!listed.getD k true) (q:=fun k=>!(listed.setIfInBounds i true).getD k true) (List.range ops.size) i (by simpa using hi1) (by simp [hi2]) (by simp [hself]) (fun j hj=>by
          by_cases e:j=i
          · subst e;simp [hself] at hj
          · rw [hset j true e] at hj;exact hj)
        omega
      obtain ⟨h1,h2,h3⟩:=ih (t / (Region.ready .any ops listed).length) (listed.setIfInBounds i true) (by simpa using hsz) hcount
      refine ⟨fun k=>?_,?_,?_⟩
      · rw [List.mem_cons,← h1 k]
        by_cases e:k=i
        · subst e;simp [hi1,hi2]
        · rw [hset k true e];simp [e]
      · rw [List.nodup_cons]
        refine ⟨fun hm=>?_,h2⟩
        have:=(h1 i).2 hm
        rw [hself] at this
        cases this.2
      · intro a j b e o ho k hk
        cases a with
        | nil =>
          simp only [List.nil_append,List.cons.injEq] at e
          obtain ⟨rfl,_⟩:=e
          exact .inl (hi3 o ho k hk)
        | cons x a =>
          simp only [List.cons_append,List.cons.injEq] at e
          obtain ⟨rfl,e⟩:=e
          rcases h3 a j b e o ho k hk with h4 | h4
          · by_cases hki:k=i
            · subst hki;right;simp
            · rw [hset k false hki] at h4;exact .inl h4
          · right;simp [h4]
end Go.Pf
namespace Go.Pf
open Go
def AgF (l:List Nat) (F F':Frm):Prop:=∀ s∈l,fget F' s=fget F s
theorem yci {a b:List Nat} {F F':Frm}:AgF (a++b) F F'↔AgF a F F'∧AgF b F F':=by
  simp only [AgF,List.mem_append]
  exact ⟨fun h=>⟨fun s hs=>h s (.inl hs),fun s hs=>h s (.inr hs)⟩,fun h s hs=>hs.elim (h.1 s) (h.2 s)⟩
section
variable {E:Env} {F F':Frm} {H H' H1:Hp} {call:Nat→List PV→Hp→Option (PV×Hp)}
theorem yfE {x:Opd} (h:AgF x.slots F F'):ev E F' x=ev E F x:=by
  cases x with
  | t s=>simp only [ev,h s (by simp [Opd.slots])]
  | _=>rfl
theorem yao {x:Opd} (h:AgF x.slots F F'):evV E F' x=evV E F x:=by
  simp only [evV,yfE h]
theorem ycj {x:Opd} (h:AgF x.slots F F'):ya5 E F' x=ya5 E F x:=by
  simp only [ya5,yao h]
theorem yhX {x:Option Opd} (h:AgF (ygt x) F F'):evO E F' x=evO E F x:=by
  cases x with
  | none=>rfl
  | some x=>simp only [evO,ycj (show AgF x.slots F F' from h)]
theorem yfF:∀ (l:List Opd),AgF (yc3 l) F F'→evs E F' l=evs E F l
  | [],_=>rfl
  | x::r,h=>by
    simp only [yc3,yci] at h
    simp only [evs,yao h.1,yfF r h.2]
theorem yhm:∀ (l:List (Nat×Nat×Opd)) (cs:List PV),AgF (ygu l) F F'→yck E F' cs l=yck E F cs l
  | [],_,_=>rfl
  | (o,z,x)::r,cs,h=>by
    simp only [ygu,yci] at h
    simp only [yck,yao h.1]
    split
    · split
      · exact yhm r _ h.2
      · rfl
    · rfl
theorem yd9 {pu:Bool} {esz:Nat}:∀ (l:List (Nat×Opd)) (rows:List PV) (H:Hp),AgF (yel l) F F'→ybs E F' pu esz rows H l=ybs E F pu esz rows H l
  | [],_,_,_=>rfl
  | (i,x)::r,rows,H,h=>by
    simp only [yel,yci] at h
    simp only [ybs,yao h.1]
    split
    · split
      · split
        · exact yd9 r _ _ h.2
        · rfl
      · rfl
    · rfl
theorem ylR {x:Opd} {s off:Nat} (h:AgF (ycX E F x) F F') (e:ev E F x=some (.bp s off)):fget F' s=fget F s:=by
  apply h
  simp [ycX,e]
theorem yhn {op:AOp} (h:AgF (fpOp E F H op).rd F F'):yab E call F' H op=yab E call F H op:=by
  cases op <;> simp only [fpOp,yci] at h <;> simp only [yab]
  case mv x=>simp only [yao h]
  case mvD x=>simp only [yao h]
  case pick c a b=>simp only [yao h.1,yao h.2.1,yao h.2.2]
  case boxL x=>simp only [yao h]
  case boxH x=>simp only [yao h]
  case build ps=>simp only [yhm _ _ h]
  case buildSl ps=>simp only [yd9 _ _ _ h]
  case buildN ps=>simp only [yd9 _ _ _ h]
  case buildD ps=>simp only [yd9 _ _ _ h]
  case load agg sz x =>
    rw [yfE h.1]
    split
    · rename_i s off e
      rw [ylR h.2 e]
    all_goals simp_all
  case store sz x y =>
    rw [yao h.2.1,yfE h.1]
    split
    · split
      · rename_i s off e
        rw [ylR h.2.2 e]
      all_goals simp_all
    · rfl
  case bin x y=>simp only [yao h.1,yao h.2]
  case eqB x y=>simp only [yao h.1,yao h.2]
  case eqA x y=>simp only [yao h.1,yao h.2]
  case eqN x=>simp only [yao h]
  case un x=>simp only [yao h]
  case conv x=>simp only [yao h]
  case mkFn a b=>simp only [yfF _ h.1,yfF _ h.2]
  case mkSl l c=>simp only [ycj h.1,ycj h.2]
  case slc x lo hi mx=>simp only [yao h.1,yhX h.2.1,yhX h.2.2.1,yhX h.2.2.2]
  case slcA x=>simp only [yfE h]
  case fad x=>simp only [yfE h.1]
  case fld x=>simp only [yao h]
  case iad x i=>simp only [yao h.1,ycj h.2]
  case iadA x i=>simp only [yfE h.1,ycj h.2.1]
  case idx x i=>simp only [yao h.1,ycj h.2]
  case ext x i=>simp only [yao h]
  case call f as=>simp only [yao h.1,yfF _ h.2]
  case len x=>simp only [yao h]
  case cap x=>simp only [yao h]
  case app s x=>simp only [yao h.1,yao h.2]
  case appZ s n=>simp only [yao h.1,ycj h.2]
  case clr x=>simp only [yao h]
  case minmax l=>simp only [yfF _ h]
  case nilchk x=>simp only [yfE h.1]
structure EffI (ids:List Nat) (H H1 H' H1':Hp):Prop where
  inn:∀ id∈ids,H1'[id]?=H1[id]?
  out:∀ id,id∉ids→H1[id]?=H[id]?∧H1'[id]?=H'[id]?
  len:H1.length=H.length∧H1'.length=H'.length
theorem EffI.refl {ids:List Nat} (h:∀ id∈ids,H'[id]?=H[id]?):EffI ids H H H' H':=⟨h,fun _ _=>⟨rfl,rfl⟩,rfl,rfl⟩
theorem EffI.trans {ids:List Nat} {H1' H2 H2':Hp} (h:EffI ids H H1 H' H1') (k:EffI ids H1 H2 H1' H2'):EffI ids H H2 H' H2' :=
  ⟨k.inn,fun id hi=>⟨(k.out id hi).1.trans (h.out id hi).1,(k.out id hi).2.trans (h.out id hi).2⟩,k.len.1.trans h.len.1,k.len.2.trans h.len.2⟩
theorem EffI.mono {ids ids':List Nat} {H1':Hp} (h:EffI ids H H1 H' H1') (hs:∀ id∈ids,id∈ids') (ha:∀ id∈ids',H'[id]?=H[id]?):EffI ids' H H1 H' H1':=by
  refine ⟨fun id hi=>?_,fun id hi=>h.out id (fun hx=>hi (hs id hx)),h.len⟩
  by_cases hx:id∈ids
  · exact h.inn id hx
  · rw [(h.out id hx).1,(h.out id hx).2];exact ha id hi
theorem EffI.set {ids:List Nat} {id:Nat} {b:HB} (ha:∀ i∈ids,H'[i]?=H[i]?) (hi:id∈ids):EffI ids H (H.set id b) H' (H'.set id b):=by
  refine ⟨fun k hk=>?_,fun k hk=>?_,by simp,by simp⟩
  · rw [List.getElem?_set,List.getElem?_set]
    have hlen:id<H'.length↔id<H.length:=by
      have:=ha id hi
      constructor <;> intro h1
      · rcases Nat.lt_or_ge id H.length with h2 | h2
        · exact h2
        · rw [List.getElem?_eq_none h2,List.getElem?_eq_getElem h1] at this;cases this
      · rcases Nat.lt_or_ge id H'.length with h2 | h2
        · exact h2
        · rw [List.getElem?_eq_none h2,List.getElem?_eq_getElem h1] at this;cases this
    split
    · simp only [hlen]
    · exact ha k hk
  · have hne:id≠k:=fun e=>hk (e ▸ hi)
    rw [List.getElem?_set_ne hne,List.getElem?_set_ne hne];exact ⟨rfl,rfl⟩
theorem ycU {p q:PV} (ha:∀ id∈ids1 p,H'[id]?=H[id]?) (h:ybn H p=some (q,H1)):∃ H1',ybn H' p=some (q,H1')∧EffI (ids1 p) H H1 H' H1':=by
  cases p <;> simp only [ybn] at h ⊢ <;> first
    | (simp only [Option.some.injEq,Prod.mk.injEq] at h;obtain ⟨rfl,rfl⟩:=h;exact ⟨_,rfl,EffI.refl ha⟩)
    | (cases h;done)
    | skip
  case own id lo len ext cap =>
    have hid:=ha id (by simp [ids1])
    rw [hid]
    split at h
    · rename_i b hb
      split at h
      · rename_i hc
        cases h
        exact ⟨_,if_pos hc,EffI.set ha (by simp [ids1])⟩
      · cases h
    · cases h
theorem yea:∀ (l ps:List PV) (H H' H1:Hp),(∀ id∈idsL l,H'[id]?=H[id]?)→yaL H l=some (ps,H1)→∃ H1',yaL H' l=some (ps,H1')∧EffI (idsL l) H H1 H' H1'
  | [],ps,H,H',H1,ha,h=>by
    simp only [yaL,Option.some.injEq,Prod.mk.injEq] at h
    obtain ⟨rfl,rfl⟩:=h
    exact ⟨_,rfl,EffI.refl ha⟩
  | x::r,ps,H,H',H1,ha,h=>by
    simp only [yaL] at h
    split at h
    · rename_i y H2 hy
      split at h
      · rename_i ys H3 hys
        cases h
        have ha1:∀ id∈ids1 x,H'[id]?=H[id]?:=fun id hi=>ha id (by simp [idsL,hi])
        obtain ⟨H2',e2,k2⟩:=ycU ha1 hy
        have k2':EffI (idsL (x::r)) H H2 H' H2':=k2.mono (fun id hi=>by simp [idsL,hi]) ha
        obtain ⟨H3',e3,k3⟩:=yea r ys H2 H2' _ (fun id hi=>k2'.inn id (by simp [idsL,hi])) hys
        refine ⟨H3',by simp only [yaL,e2,e3],k2'.trans (k3.mono (fun id hi=>by simp [idsL,hi]) k2'.inn)⟩
      · cases h
    · cases h
theorem ybx {p q:PV} (ha:∀ id∈idsV p,H'[id]?=H[id]?) (h:yav H p=some (q,H1)):∃ H1',yav H' p=some (q,H1')∧EffI (idsV p) H H1 H' H1':=by
  cases p with
  | agg cs =>
    simp only [yav,Option.map_eq_some_iff] at h ⊢
    obtain ⟨⟨ys,H2⟩,hys,e⟩:=h
    cases e
    obtain ⟨H1',e1,k⟩:=yea cs ys H H' _ ha hys
    exact ⟨H1',⟨⟨ys,H1'⟩,e1,rfl⟩,k⟩
  | _=>simp only [idsV] at ha ⊢;simp only [yav] at h ⊢;exact ycU ha h
theorem yc0:∀ (l ps:List PV) (H2:Hp),idsA l=[]→yaj [] l=some (ps,H2)→∀ H,yaj H l=some (ps,H)
  | [],ps,H2,_,h,H=>by
    simp only [yaj,Option.some.injEq,Prod.mk.injEq] at h
    obtain ⟨rfl,_⟩:=h
    rfl
  | x::r,ps,H2,hi,h,H=>by
    simp only [idsA,List.append_eq_nil_iff] at hi
    simp only [yaj] at h
    split at h
    · rename_i y H3 hy
      split at h
      · rename_i ys H4 hys
        cases h
        have hp:∀ H,yav H x=some (y,H):=by
          intro H
          obtain ⟨H5,e5,k5⟩:=ybx (H':=H) (fun id hx=>by rw [hi.1] at hx;cases hx) hy
          have:H5=H:=List.ext_getElem? fun k=>(k5.out k (by rw [hi.1];simp)).2
          rw [e5,this]
        have h3:H3=[]:=by have:=hp [];rw [hy] at this;cases this;rfl
        subst h3
        simp only [yaj,hp H,yc0 r ys _ hi.2 hys H]
      · cases h
    · cases h
structure Eff (p:FP) (H H1 H' H1':Hp):Prop where
  all:p.all=true→H1'=H1
  inn:p.all=false→∀ id∈p.hw,H1'[id]?=H1[id]?
  out:p.all=false→∀ id,id∉p.hw→H1[id]?=H[id]?∧H1'[id]?=H'[id]?
  push:p.push=true→H1'.length=H1.length
  len:p.push=false→p.all=false→H1.length=H.length∧H1'.length=H'.length
structure AgH (p:FP) (H H':Hp):Prop where
  ids:∀ id,id∈p.hr∨id∈p.hw→H'[id]?=H[id]?
  push:p.push=true→H'.length=H.length
  all:p.all=true→H'=H
theorem Eff.same {p:FP} (ha:AgH p H H'):Eff p H H H' H' :=
  ⟨fun h=>ha.all h,fun _ id hi=>ha.ids id (.inr hi),fun _ _ _=>⟨rfl,rfl⟩,fun h=>ha.push h,fun _ _=>⟨rfl,rfl⟩⟩
theorem Eff.ofI {p:FP} {H1':Hp} (hall:p.all=false) (ha:AgH p H H') (k:EffI p.hw H H1 H' H1'):Eff p H H1 H' H1' :=
  ⟨fun h=>(by rw [hall] at h;cases h),fun _=>k.inn,fun _=>k.out,fun h=>by rw [k.len.1,k.len.2];exact ha.push h,fun _ _=>k.len⟩
theorem Eff.pushI {p:FP} {H1':Hp} {b:HB} (hall:p.all=false) (hp:p.push=true) (hlen:H.length∈p.hw) (ha:AgH p H H') (k:EffI p.hw H H1 H' H1'):Eff p H (H1++[b]) H' (H1'++[b]):=by
  have hl:=ha.push hp
  obtain ⟨l1,l2⟩:=k.len
  refine ⟨fun h=>(by rw [hall] at h;cases h),fun _ id hi=>?_,fun _ id hi=>?_,fun _=>by simp [l1,l2,hl],fun h=>(by rw [hp] at h;cases h)⟩
  · rw [List.getElem?_append,List.getElem?_append,l1,l2,hl]
    split
    · exact k.inn id hi
    · rfl
  · have hne:id≠H.length:=fun e=>hi (e ▸ hlen)
    obtain ⟨h1,h2⟩:=k.out id hi
    rw [List.getElem?_append,List.getElem?_append,l1,l2,hl]
    by_cases hlt:id<H.length
    · rw [if_pos hlt,if_pos hlt];exact ⟨h1,h2⟩
    · rw [if_neg hlt,if_neg hlt]
      have e1:[b][id-H.length]?=none:=List.getElem?_eq_none (by simp;omega)
      rw [e1,List.getElem?_eq_none (l:=H) (by omega),List.getElem?_eq_none (l:=H') (by omega)]
      exact ⟨rfl,rfl⟩
theorem ycV {pu:Bool} {esz:Nat}:∀ (l:List (Nat×Opd)) (rows rows':List PV) (H H' H1:Hp),(∀ id∈yaC E F l,H'[id]?=H[id]?)→ybs E F pu esz rows H l=some (rows',H1) →
    ∃ H1',ybs E F pu esz rows H' l=some (rows',H1')∧EffI (yaC E F l) H H1 H' H1'
  | [],rows,rows',H,H',H1,ha,h=>by
    simp only [ybs,Option.some.injEq,Prod.mk.injEq] at h
    obtain ⟨rfl,rfl⟩:=h
    exact ⟨_,rfl,EffI.refl ha⟩
  | (i,x)::r,rows,rows',H,H',H1,ha,h=>by
    simp only [ybs] at h ⊢
    split at h
    · rename_i p hp
      have hids:yaM E F x=idsV p:=by
        unfold evV at hp
        split at hp
        · rename_i q hq;cases hp;simp [yaM,hq]
        · cases hp
      have key:∀ {q H2},(if pu then yav H p else some (p,H))=some (q,H2)→∃ H2',(if pu then yav H' p else some (p,H'))=some (q,H2')∧EffI (yaC E F ((i,x)::r)) H H2 H' H2':=by
        intro q H2 hq
        cases pu
        · simp only [Bool.false_eq_true,if_false,Option.some.injEq,Prod.mk.injEq] at hq ⊢
          obtain ⟨rfl,rfl⟩:=hq
          exact ⟨H',⟨rfl,rfl⟩,EffI.refl ha⟩
        · simp only [if_true] at hq ⊢
          obtain ⟨H2',e,k⟩:=ybx (H':=H') (fun id hi=>ha id (by simp [yaC,hids,hi])) hq
          exact ⟨H2',e,k.mono (fun id hi=>by simp [yaC,hids,hi]) ha⟩
      split at h
      · rename_i q H2 hq
        split at h
        · rename_i hc
          obtain ⟨H2',e2,k2⟩:=key hq
          obtain ⟨H3',e3,k3⟩:=ycV r _ rows' H2 H2' H1 (fun id hi=>k2.inn id (by simp [yaC,hi])) h
          refine ⟨H3',?_,k2.trans (k3.mono (fun id hi=>by simp [yaC,hi]) k2.inn)⟩
          rw [e2]
          simp only [hc]
          exact e3
        · cases h
      · cases h
    · cases h
theorem ybb {x:Opd} {p:PV} (h:evV E F x=some p):yaM E F x=idsV p:=by
  unfold evV at h
  split at h
  · rename_i q hq;cases h;simp [yaM,hq]
  · cases h
theorem yho {p:PV} (ha:∀ id∈idsV p,H'[id]?=H[id]?):yb6 H' p=yb6 H p:=by
  cases p <;> simp only [yb6]
  case own id lo len ext cap=>rw [ha id (by simp [idsV,ids1])]
theorem yhY {p:PV} {pu:Bool} (ha:∀ id∈idsV p,H'[id]?=H[id]?):yeG H' pu p=yeG H pu p:=by
  cases p <;> simp only [yeG]
  case own id lo len ext cap=>rw [ha id (by simp [idsV,ids1])]
theorem yhp {p:PV} {esz:Nat} {lo hi mx:Option Int} (ha:∀ id∈idsV p,H'[id]?=H[id]?):ybH H' esz lo hi mx p=ybH H esz lo hi mx p:=by
  cases p <;> simp only [ybH]
  case own id lo0 len ext cap=>rw [ha id (by simp [idsV,ids1])]
theorem ybO {p:FP} {pu:Bool} {esz bytes:Nat} {rows:List PV} {r:PV} (hall:p.all=false) (hp:p.push=true) (hlen:H.length∈p.hw) (ha:AgH p H H') (h:yaG H pu esz bytes rows=some (r,H1)) :
    ∃ H1',yaG H' pu esz bytes rows=some (r,H1')∧Eff p H H1 H' H1':=by
  unfold yaG at h ⊢
  split at h
  · rename_i hc
    cases h
    rw [if_pos hc,ha.push hp]
    exact ⟨_,rfl,Eff.pushI hall hp hlen ha (EffI.refl fun id hi=>ha.ids id (.inr hi))⟩
  · cases h
theorem yiR {p:FP} {pu:Bool} {esz bytes k:Nat} {z s r:PV} (hall:p.all=false) (hp:p.push=true) (hlen:H.length∈p.hw) (ha:AgH p H H') (h:appZ H pu esz bytes z s k=some (r,H1)) :
    ∃ H1',appZ H' pu esz bytes z s k=some (r,H1')∧Eff p H H1 H' H1':=by
  unfold appZ at h ⊢
  split at h
  · split at h
    · rename_i he;cases h;rw [if_pos he];exact ⟨_,rfl,Eff.same ha⟩
    · rename_i he;rw [if_neg he];exact ybO hall hp hlen ha h
  · cases h
theorem yiS {p:FP} {pu:Bool} {esz:Nat} {z s:PV} (hall:p.all=false) (hs:∀ id∈idsV s,id∈p.hw) (ha:AgH p H H') (h:clrV H pu esz z s=some H1) :
    ∃ H1',clrV H' pu esz z s=some H1'∧Eff p H H1 H' H1':=by
  unfold clrV at h ⊢
  split at h
  · cases h;exact ⟨_,rfl,Eff.same ha⟩
  · cases h;exact ⟨_,rfl,Eff.same ha⟩
  · cases h;exact ⟨_,rfl,Eff.same ha⟩
  · rename_i id lo len ext cap
    have hm:id∈p.hw:=hs id (by simp [idsV,ids1])
    split at h
    · cases h;exact ⟨_,rfl,Eff.same ha⟩
    · rw [ha.ids id (.inr hm)]
      split at h
      · rename_i b hb
        split at h
        · rename_i hc
          cases h
          rw [if_pos hc]
          exact ⟨_,rfl,Eff.ofI hall ha (EffI.set (fun k hk=>ha.ids k (.inr hk)) hm)⟩
        · cases h
      · cases h
  · cases h
theorem yiT {p:FP} {pu:Bool} {esz bytes:Nat} {s x r:PV} (hall:p.all=false) (hp:p.push=true) (hlen:H.length∈p.hw) (hs:∀ id∈idsV s,id∈p.hw) (hx:∀ id∈idsV x,id∈p.hw) (ha:AgH p H H') (h:appV H pu esz bytes s x=some (r,H1)) :
    ∃ H1',appV H' pu esz bytes s x=some (r,H1')∧Eff p H H1 H' H1':=by
  have has:∀ id∈idsV s,H'[id]?=H[id]?:=fun id hi=>ha.ids id (.inr (hs id hi))
  have hax:∀ id∈idsV x,H'[id]?=H[id]?:=fun id hi=>ha.ids id (.inr (hx id hi))
  unfold appV at h ⊢
  rw [yho hax,yhY hax]
  split at h
  · cases h
  · rename_i ys hys
    split at h
    · rename_i hc
      rw [if_pos hc]
      cases s with
      | nils =>
        simp only [] at h ⊢
        split at h
        · rename_i he;cases h;rw [if_pos he];exact ⟨_,rfl,Eff.same ha⟩
        · rename_i he;rw [if_neg he];exact ybO hall hp hlen ha h
      | emp =>
        simp only [] at h ⊢
        split at h
        · rename_i he;cases h;rw [if_pos he];exact ⟨_,rfl,Eff.same ha⟩
        · rename_i he;rw [if_neg he];exact ybO hall hp hlen ha h
      | own id lo len ext cap =>
        simp only [] at h ⊢
        rw [has id (by simp [idsV,ids1])]
        split at h
        · rename_i b hb
          split at h
          · rename_i hc2
            rw [if_pos hc2]
            split at h
            · rename_i he;cases h;rw [if_pos he];exact ⟨_,rfl,Eff.same ha⟩
            · rename_i he
              rw [if_neg he]
              have hset:∀ b',Eff p H (H.set id b') H' (H'.set id b'):=fun b'=>Eff.ofI hall ha (EffI.set (fun k hk=>ha.ids k (.inr hk)) (hs id (by simp [idsV,ids1])))
              unfold ybi at h ⊢
              split at h
              · split at h
                · rename_i h1
                  split at h
                  · rename_i h2;cases h;rw [if_pos h1,if_pos h2];exact ⟨_,rfl,hset _⟩
                  · cases h
                · rename_i h1
                  rw [if_neg h1]
                  exact ybO hall hp hlen ha h
              · split at h
                · cases h
                · rename_i h1
                  rw [if_neg h1]
                  split at h
                  · rename_i h2;cases h;rw [if_pos h2];exact ⟨_,rfl,hset _⟩
                  · rename_i h2
                    split at h
                    · rename_i h3;cases h;rw [if_neg h2,if_pos h3];exact ⟨_,rfl,hset _⟩
                    · cases h
          · cases h
        · cases h
      | _=>simp only [] at h;cases h
    · cases h
end
end Go.Pf
namespace Go.Pf
open Go
section
variable {E:Env} {F F':Frm} {H H' H1:Hp} {call:Nat→List PV→Hp→Option (PV×Hp)}
theorem yaV {p:PV} {out:Out} (h:outV p H=some out):out=⟨some (.v p),none,H⟩:=by
  simp only [outV,Option.some.injEq] at h;exact h.symm
theorem yhq {p:PV} {id:Nat} (h:id∈ids1 p):id∈idsV p:=by cases p <;> first | exact h | simp [ids1] at h
theorem ybR {p:FP} {x:PV} {out:Out} (ha:AgH p H H') (h:outV x H=some out):∃ H1',outV x H'=some ⟨out.x,out.bx,H1'⟩∧Eff p H out.h H' H1':=by
  rw [yaV h];exact ⟨H',rfl,Eff.same ha⟩
theorem yhr {v:PV} {p:Nat×PV} (hv:locY v=some p):∀ (l:List PV) (j:Nat),l[j]?=some v→idsA l≠[]
  | [],j,e=>by simp at e
  | x::r,0,e=>by
    simp at e;subst e
    cases x <;> simp [locY] at hv <;> simp [idsA,idsV,ids1]
  | x::r,j+1,e=>by
    simp at e
    simp only [idsA]
    intro h
    exact yhr hv r j e (List.append_eq_nil_iff.1 h).2
theorem yeS {n:Nat} {first captured av:List PV} (h:idsA (first++av++captured)=[]):ydw E (.fn (.func n) first captured) av=none:=by
  unfold ydw
  simp only
  cases E.lo n with
  | none=>rfl
  | some j =>
    simp only
    split
    · rename_i hj
      split
      · rename_i hy;exact absurd h (yhr hy _ _ hj)
      · rfl
    · rfl
theorem yhs {f:Opd} {as:List Opd} {fv:PV} {av:List PV} {r:PV} {H1:Hp} (hq:yaW E F f as=true) (hf:evV E F f=some fv) (hav:evs E F as=some av) (hc:ycl E call fv av H=some (r,H1)):H1=H∧∀ H',ycl E call fv av H'=some (r,H'):=by
  unfold yaW at hq
  rw [hf,hav] at hq
  split at hq
  · rename_i n first captured vs h1 h2
    cases h1;cases h2
    simp only [Bool.and_eq_true,List.isEmpty_iff,Bool.or_eq_true,Bool.not_eq_true'] at hq
    obtain ⟨hrb,hi,hs⟩:=hq
    have key:∃ ps H2,yaj [] (first++av++captured)=some (ps,H2)∧∃ r',ybz E call n ps=some r':=by
      rcases hs with hs | hs
      · simp only [ycl,yeS hi,ybT,hrb,Bool.false_eq_true,if_false] at hc
        split at hc
        · rename_i x hx
          split at hx
          · rename_i as' H3 hp
            split at hx
            · rename_i r' hr'
              have:∃ H2,yaj [] (first++av++captured)=some (as',H2):=by
                have hgo:∀ (l ps:List PV) (H H2:Hp),idsA l=[]→yaj H l=some (ps,H2)→∃ H3,yaj [] l=some (ps,H3):=by
                  intro l
                  induction l with
                  | nil=>intro ps H H2 _ e;simp only [yaj,Option.some.injEq,Prod.mk.injEq] at e;exact ⟨[],by simp [yaj,e.1]⟩
                  | cons x r ih =>
                    intro ps H H2 hi e
                    simp only [idsA,List.append_eq_nil_iff] at hi
                    simp only [yaj] at e
                    split at e
                    · rename_i y H4 hy
                      split at e
                      · rename_i ys H5 hys
                        cases e
                        obtain ⟨H6,e6,k6⟩:=ybx (H':=[]) (fun id hx=>by rw [hi.1] at hx;cases hx) hy
                        have h6:H6=[]:=List.eq_nil_of_length_eq_zero (by rw [k6.len.2];rfl)
                        subst h6
                        obtain ⟨H7,e7⟩:=ih ys _ _ hi.2 hys
                        exact ⟨H7,by simp only [yaj,e6,e7]⟩
                      · cases e
                    · cases e
                exact hgo _ _ _ _ hi hp
              obtain ⟨H2,h2⟩:=this
              exact ⟨as',H2,h2,r',hr'⟩
            · cases hx
          · cases hx
        · rw [if_pos hs] at hc;cases hc
      · split at hs
        · rename_i ps H2 hp
          obtain ⟨r',hr'⟩:=Option.isSome_iff_exists.1 hs
          exact ⟨ps,H2,hp,r',by simp only [ybz,hr']⟩
        · cases hs
    obtain ⟨ps,H2,hp,r',hr'⟩:=key
    have all:∀ H,ycl E call (.fn (.func n) first captured) av H=some (r',H):=by
      intro H
      have:=yc0 _ _ _ hi hp H
      simp only [ycl,yeS hi,ybT,hrb,Bool.false_eq_true,if_false,this,hr']
      cases r'.scalar <;> rfl
    rw [all H] at hc
    cases hc
    exact ⟨rfl,all⟩
  · cases hq
theorem yhZ {op:AOp} {out:Out} (ha:AgH (fpOp E F H op) H H') (h:yab E call F H op=some out):∃ H1',yab E call F H' op=some ⟨out.x,out.bx,H1'⟩∧Eff (fpOp E F H op) H out.h H' H1':=by
  have single:∀ {x bx},out=⟨x,bx,H⟩→(∃ H1',(some ⟨x,bx,H'⟩:Option Out)=some ⟨out.x,out.bx,H1'⟩∧Eff (fpOp E F H op) H out.h H' H1'):=by
    rintro x bx rfl;exact ⟨H',rfl,Eff.same ha⟩
  have shut:∀ {o:Out},some o=some out→o=out:=fun e=>by cases e;rfl
  cases op
  case allocH pu esz z =>
    simp only [yab,Option.some.injEq] at h ⊢
    subst h
    have hl:=ha.push rfl
    rw [hl]
    exact ⟨_,rfl,Eff.pushI rfl rfl (by simp [fpOp]) ha (EffI.refl fun id hi=>ha.ids id (.inr hi))⟩
  case boxH pu esz x =>
    simp only [yab] at h ⊢
    split at h
    · rename_i p hp
      have hids:=ybb hp
      have key:∀ {q H2},(if pu then yav H p else some (p,H))=some (q,H2)→∃ H2',(if pu then yav H' p else some (p,H'))=some (q,H2')∧EffI (fpOp E F H (.boxH pu esz x)).hw H H2 H' H2':=by
        intro q H2 hq
        cases pu
        · simp only [Bool.false_eq_true,if_false,Option.some.injEq,Prod.mk.injEq] at hq ⊢
          obtain ⟨rfl,rfl⟩:=hq
          exact ⟨H',⟨rfl,rfl⟩,EffI.refl fun id hi=>ha.ids id (.inr hi)⟩
        · simp only [if_true] at hq ⊢
          obtain ⟨H2',e,k⟩:=ybx (H':=H') (fun id hi=>ha.ids id (.inr (by simp [fpOp,hids,hi]))) hq
          exact ⟨H2',e,k.mono (fun id hi=>by simp [fpOp,hids,hi]) fun id hi=>ha.ids id (.inr hi)⟩
      split at h
      · rename_i q H2 hq
        split at h
        · rename_i hc
          cases h
          obtain ⟨H2',e2,k2⟩:=key hq
          have hl:=ha.push rfl
          rw [e2]
          simp only []
          rw [if_pos hc]
          have:H2'.length=H2.length:=by rw [k2.len.1,k2.len.2,hl]
          rw [this]
          exact ⟨_,rfl,Eff.pushI rfl rfl (by simp [fpOp]) ha k2⟩
        · cases h
      · cases h
    · cases h
  case buildSl pu esz z len ps =>
    simp only [yab] at h ⊢
    split at h
    · rename_i hz
      rw [if_pos hz]
      exact ybR ha h
    · rename_i hz
      rw [if_neg hz]
      have hw:(fpOp E F H (.buildSl pu esz z len ps)).hw=H.length::yaC E F ps:=by simp [fpOp,hz]
      have hpush:(fpOp E F H (.buildSl pu esz z len ps)).push=true:=by simp [fpOp,hz]
      split at h
      · rename_i rows H2 hf
        rw [yaV h]
        obtain ⟨H2',e2,k2⟩:=ycV _ _ _ _ H' _ (fun id hi=>ha.ids id (.inr (by rw [hw];simp [hi]))) hf
        have hl:=ha.push hpush
        rw [e2]
        have:H2'.length=H2.length:=by rw [k2.len.1,k2.len.2,hl]
        simp only [this]
        exact ⟨_,rfl,Eff.pushI rfl hpush (by rw [hw];simp) ha (k2.mono (fun id hi=>by rw [hw];simp [hi]) fun id hi=>ha.ids id (.inr hi))⟩
      · cases h
  case buildN pu esz z len ps =>
    simp only [yab] at h ⊢
    split at h
    · rename_i hz
      rw [if_pos hz]
      exact ybR ha h
    · rename_i hz
      rw [if_neg hz]
      have hw:(fpOp E F H (.buildN pu esz z len ps)).hw=H.length::yaC E F ps:=by simp [fpOp,hz]
      have hpush:(fpOp E F H (.buildN pu esz z len ps)).push=true:=by simp [fpOp,hz]
      split at h
      · rename_i rows H2 hf
        rw [yaV h]
        obtain ⟨H2',e2,k2⟩:=ycV _ _ _ _ H' _ (fun id hi=>ha.ids id (.inr (by rw [hw];simp [hi]))) hf
        have hl:=ha.push hpush
        rw [e2]
        have:H2'.length=H2.length:=by rw [k2.len.1,k2.len.2,hl]
        simp only [this]
        exact ⟨_,rfl,Eff.pushI rfl hpush (by rw [hw];simp) ha (k2.mono (fun id hi=>by rw [hw];simp [hi]) fun id hi=>ha.ids id (.inr hi))⟩
      · cases h
  case mvD x =>
    simp only [yab] at h ⊢
    split at h
    · rename_i p hp
      have hids:=ybb hp
      split at h
      · rename_i rows H2 hq
        rw [yaV h]
        obtain ⟨H2',e,k⟩:=ycU (H':=H') (fun id hi=>ha.ids id (.inr (by simpa [fpOp,hids] using yhq hi))) hq
        rw [e]
        exact ⟨_,rfl,Eff.ofI rfl ha (k.mono (fun id hi=>by simpa [fpOp,hids] using yhq hi) fun id hi=>ha.ids id (.inr hi))⟩
      · cases h
    · cases h
  case buildD esz z len ps =>
    simp only [yab] at h ⊢
    split at h
    · rename_i hz
      rw [if_pos hz]
      exact ybR ha h
    · rename_i hz
      rw [if_neg hz]
      split at h
      · rename_i rows H2 hf
        rw [yaV h]
        obtain ⟨H2',e2,k2⟩:=ycV _ _ _ _ H' _ (fun id hi=>ha.ids id (.inr (by simpa [fpOp] using hi))) hf
        rw [e2]
        exact ⟨_,rfl,Eff.ofI rfl ha (k2.mono (fun id hi=>by simpa [fpOp] using hi) fun id hi=>ha.ids id (.inr hi))⟩
      · cases h
  case mkSl pu esz bytes z l c =>
    simp only [yab] at h ⊢
    split at h
    · split at h
      · rename_i hc
        rw [if_pos hc,yaV h,ha.push rfl]
        exact ⟨_,rfl,Eff.pushI rfl rfl (by simp [fpOp]) ha (EffI.refl fun id hi=>ha.ids id (.inr hi))⟩
      · cases h
    · cases h
  case load agg sz x =>
    simp only [yab] at h ⊢
    split at h
    · split at h
      · split at h
        · exact ybR ha h
        · cases h
      · cases h
    · split at h
      · split at h
        · exact ybR ha h
        · cases h
      · cases h
    · rename_i id ext i off he
      have hid:H'[id]?=H[id]?:=ha.ids id (.inl (by simp [fpOp,yaM,he,idsV,ids1]))
      rw [hid]
      split at h
      · split at h
        · rename_i hc
          rw [if_pos hc]
          split at h
          · split at h
            · exact ybR ha h
            · cases h
          · cases h
        · cases h
      · cases h
    · cases h
  case store sz x y =>
    simp only [yab] at h ⊢
    split at h
    · rename_i p hp
      split at h
      · split at h
        · split at h
          · exact single (shut h).symm
          · cases h
        · cases h
      · rename_i id ext i off he
        have hidm:id∈(fpOp E F H (.store sz x y)).hw:=by simp [fpOp,yaM,he,idsV,ids1]
        have hid:H'[id]?=H[id]?:=ha.ids id (.inr hidm)
        rw [hid]
        split at h
        · rename_i b0 hb0
          have hids:=ybb hp
          have key:∀ {q H2},(if b0.pu then yav H p else some (p,H))=some (q,H2)→∃ H2',(if b0.pu then yav H' p else some (p,H'))=some (q,H2')∧EffI (fpOp E F H (.store sz x y)).hw H H2 H' H2':=by
            intro q H2 hq
            by_cases hpu:b0.pu=true
            case neg =>
              rw [if_neg hpu] at hq ⊢
              simp only [Option.some.injEq,Prod.mk.injEq] at hq ⊢
              obtain ⟨rfl,rfl⟩:=hq
              exact ⟨H',⟨rfl,rfl⟩,EffI.refl fun id hi=>ha.ids id (.inr hi)⟩
            case pos =>
              rw [if_pos hpu] at hq ⊢
              obtain ⟨H2',e,k⟩:=ybx (H':=H') (fun id hi=>ha.ids id (.inr (by simp [fpOp,hids,hi]))) hq
              exact ⟨H2',e,k.mono (fun id hi=>by simp [fpOp,hids,hi]) fun id hi=>ha.ids id (.inr hi)⟩
          split at h
          · rename_i q H2 hq
            obtain ⟨H2',e2,k2⟩:=key hq
            rw [e2]
            simp only []
            rw [k2.inn id hidm]
            split at h
            · rename_i b hb
              split at h
              · rename_i hc
                rw [if_pos hc]
                split at h
                · split at h
                  · cases h
                    exact ⟨_,rfl,Eff.ofI rfl ha (k2.trans (EffI.set k2.inn hidm))⟩
                  · cases h
                · cases h
              · cases h
            · cases h
          · cases h
        · cases h
      · cases h
    · cases h
  case slc esz x lo hi mx =>
    simp only [yab] at h ⊢
    split at h
    · rename_i p l hh m hp _ _ _
      split at h
      · cases h
      · rename_i hc
        rw [if_neg hc,yhp (fun id hi=>ha.ids id (.inl (by simp [fpOp,ybb hp,hi])))]
        split at h
        · exact ybR ha h
        · cases h
    · cases h
  case iad esz x i =>
    simp only [yab] at h ⊢
    split at h
    · split at h
      · rename_i hc
        rw [if_pos hc]
        split at h
        · split at h
          · rename_i hc2;rw [if_pos hc2];exact ybR ha h
          · cases h
        · cases h
      · cases h
    · rename_i id lo len ext cap n hp hn
      have hid:H'[id]?=H[id]?:=ha.ids id (.inl (by simp [fpOp,ybb hp,idsV,ids1]))
      split at h
      · rename_i hc
        rw [if_pos hc,hid]
        split at h
        · split at h
          · rename_i hc2;rw [if_pos hc2];exact ybR ha h
          · cases h
        · cases h
      · cases h
    · split at h
      · rename_i hc;rw [if_pos hc];exact ybR ha h
      · cases h
    · cases h
  case call f as =>
    by_cases hq:yaW E F f as=true
    · simp only [yab] at h ⊢
      split at h
      · rename_i fv av hf hav
        split at h
        · rename_i r H2 hc
          obtain ⟨rfl,hr⟩:=yhs hq hf hav hc
          rw [hr]
          exact ybR ha h
        · cases h
      · cases h
    · have hall:(fpOp E F H (.call f as)).all=true:=by simp [fpOp,hq]
      have:=ha.all hall
      subst this
      exact ⟨out.h,h,⟨fun _=>rfl,fun e=>(by rw [hall] at e;cases e),fun e=>(by rw [hall] at e;cases e),fun _=>rfl,fun _ e=>(by rw [hall] at e;cases e)⟩⟩
  case app pu esz bytes s x =>
    simp only [yab] at h ⊢
    split at h
    · rename_i sv xv hs hx
      split at h
      · rename_i r H2 hap
        obtain ⟨H2',e2,k2⟩:=yiT (H':=H') (p:=fpOp E F H (.app pu esz bytes s x)) rfl rfl (by simp [fpOp]) (fun id hi=>by simp [fpOp,ybb hs,hi]) (fun id hi=>by simp [fpOp,ybb hx,hi]) ha hap
        rw [e2,yaV h]
        exact ⟨_,rfl,k2⟩
      · cases h
    · cases h
  case appZ pu esz bytes z s n =>
    simp only [yab] at h ⊢
    split at h
    · rename_i sv k hs hn
      split at h
      · rename_i h0
        rw [if_pos h0]
        split at h
        · rename_i r H2 hap
          obtain ⟨H2',e2,k2⟩:=yiR (H':=H') (p:=fpOp E F H (.appZ pu esz bytes z s n)) rfl rfl (by simp [fpOp]) ha hap
          rw [e2,yaV h]
          exact ⟨_,rfl,k2⟩
        · cases h
      · cases h
    · cases h
  case clr pu esz z x =>
    simp only [yab] at h ⊢
    split at h
    · rename_i sv hs
      split at h
      · rename_i H2 hap
        obtain ⟨H2',e2,k2⟩:=yiS (H':=H') (p:=fpOp E F H (.clr pu esz z x)) rfl (fun id hi=>by simp [fpOp,ybb hs,hi]) ha hap
        rw [e2,yaV h]
        exact ⟨_,rfl,k2⟩
      · cases h
    · cases h
  case bad=>simp [yab] at h
  case eqB neg x y =>
    simp only [yab] at h ⊢
    split at h
    · exact ybR ha h
    · cases h
  case eqA neg sz idx x y =>
    simp only [yab] at h ⊢
    split at h
    · split at h
      · rename_i hc
        rw [if_pos hc]
        split at h
        · exact ybR ha h
        · cases h
      · cases h
    · cases h
  case idx agg n esz x i =>
    simp only [yab] at h ⊢
    split at h
    · split at h
      · rename_i hc
        rw [if_pos hc]
        split at h
        · exact ybR ha h
        · cases h
      · cases h
    · cases h
  case eqN neg x =>
    simp only [yab] at h ⊢
    split at h <;> first | exact ybR ha h | cases h
  all_goals
    simp only [yab] at h ⊢
    repeat' split at h
  all_goals first
    | (cases h;done)
    | exact ybR ha h
    | exact single (shut h).symm
    | (rename_i hc;rw [if_pos hc];first | exact ybR ha h | exact single (shut h).symm)
    | skip
theorem ykN (op:AOp) (H H':Hp):(fpOp E F H op).rd=(fpOp E F H' op).rd:=by cases op <;> rfl
theorem yht {op:AOp} {out:Out} {s:Nat} {row:PV} (h:yab E call F H op=some out) (hb:out.bx=some (s,row)):s∈(fpOp E F H op).wr∧∃ row0,fget F s=some (.box row0):=by
  have hv:∀ {p:PV} {H},outV p H=some out→False:=fun e=>by rw [yaV e] at hb;cases hb
  cases op <;> simp only [yab] at h
  case store sz x y =>
    split at h
    · split at h
      · rename_i s' off e
        split at h
        · rename_i row0 hrow
          split at h
          · cases h
            simp only [Option.some.injEq,Prod.mk.injEq] at hb
            obtain ⟨rfl,_⟩:=hb
            exact ⟨by simp [fpOp,ycX,e],row0,hrow⟩
          · cases h
        · cases h
      all_goals (repeat' split at h)
      all_goals first | (cases h;done) | (cases h;cases hb;done)
    · cases h
  all_goals (repeat' split at h)
  all_goals first | (cases h;done) | exact (hv h).elim | (cases h;cases hb;done)
theorem ypU (op:AOp) (s:Nat) (h:s∈(fpOp E F H op).wr):s∈(fpOp E F H op).rd:=by
  cases op <;> simp only [fpOp] at h ⊢ <;> first | (cases h;done) | skip
  simp [h]
theorem yjv {x:Opd} {s off:Nat} (h:ev E F x=some (.bp s off)):(∃ row,fget F s=some (.box row))∨noBp F s=false:=by
  cases x with
  | t k =>
    simp only [ev] at h
    split at h
    · rename_i row hrow
      cases h
      exact .inl ⟨row,hrow⟩
    · right
      have key:∀ F:Frm,fget F k=some (.bp s off)→noBp F s=false:=by
        intro F
        induction F with
        | nil=>intro e;simp [fget] at e
        | cons a r ih =>
          obtain ⟨j,x⟩:=a
          intro e
          simp only [fget] at e
          split at e
          · cases e;simp [noBp]
          · have:=ih e
            cases x <;> simp [noBp,this]
      exact key F h
  | c v=>simp [ev] at h
  | g n=>simp only [ev] at h;split at h <;> simp at h
  | f n=>simp [ev] at h
theorem yjw {op:AOp} {out:Out} {s off:Nat} (h:yab E call F H op=some out) (hb:out.x=some (.bp s off)):(∃ row,fget F s=some (.box row))∨noBp F s=false:=by
  have hv:∀ {p:PV} {H},outV p H=some out→False:=fun e=>by rw [yaV e] at hb;cases hb
  cases op <;> simp only [yab] at h
  case fad o x =>
    split at h
    · rename_i s' o' e
      cases h
      simp only [Option.some.injEq,FV.bp.injEq] at hb
      obtain ⟨rfl,_⟩:=hb
      exact yjv e
    all_goals first | exact (hv h).elim | cases h
  case iadA n esz x i =>
    split at h
    · rename_i s' o' j e _
      split at h
      · cases h
        simp only [Option.some.injEq,FV.bp.injEq] at hb
        obtain ⟨rfl,_⟩:=hb
        exact yjv e
      · cases h
    all_goals (repeat' split at h)
    all_goals first | exact (hv h).elim | cases h
  case nilchk x =>
    split at h
    · rename_i s' o' e
      cases h
      simp only [Option.some.injEq,FV.bp.injEq] at hb
      obtain ⟨rfl,_⟩:=hb
      exact yjv e
    all_goals first | exact (hv h).elim | cases h
  all_goals (repeat' split at h)
  all_goals first | (cases h;done) | exact (hv h).elim | (cases h;cases hb;done)
theorem yiU {o:AOper} {out:Out} {row:PV} (h:yab E call F H o.op=some out) (hb:out.x=some (.box row)):ydK o=o.dst∧out.bx=none:=by
  have hv:∀ {p:PV} {H},outV p H=some out→False:=fun e=>by rw [yaV e] at hb;cases hb
  unfold ydK
  cases hop:o.op <;> rw [hop] at h <;> simp only [yab] at h
  case allocL z=>cases h;exact ⟨rfl,rfl⟩
  case boxL x =>
    split at h
    · split at h
      · cases h;exact ⟨rfl,rfl⟩
      · cases h
    · cases h
  all_goals (repeat' split at h)
  all_goals first | (cases h;done) | exact (hv h).elim | (cases h;cases hb;done)
end
end Go.Pf
namespace Go.Pf
open Go Go.RowKit
section
variable {E:Env} {F F':Frm} {H H' H1:Hp} {call:Nat→List PV→Hp→Option (PV×Hp)}
theorem yiV {dst:Option Nat} {x:Option FV} {F1:Frm} (h:ybB F dst x=some F1) (hb:∀ row d,x=some (.box row)→dst=some d→noBp F d=true):yaY F dst x=some F1:=by
  cases dst with
  | none=>cases x with
    | none=>exact h
    | some fv=>cases fv <;> exact h
  | some d=>cases x with
    | none=>exact h
    | some fv =>
      cases fv with
      | box row=>simp only [yaY];rw [yhI _ _ (hb row d rfl rfl)];exact h
      | _=>exact h
inductive Loc where
  | sl (s:Nat)
  | bk (id:Nat)
  | len
inductive LV where
  | f (x:Option FV)
  | b (x:Option HB)
  | n (k:Nat)
def look (S:Frm×Hp):Loc→LV
  | .sl s=>.f (fget S.1 s)
  | .bk id=>.b S.2[id]?
  | .len=>.n S.2.length
def RdP (p:FP):Loc→Prop
  | .sl s=>s∈p.rd
  | .bk id=>id∈p.hr∨id∈p.hw∨p.all=true
  | .len=>p.push=true∨p.all=true
def WrP (p:FP):Loc→Prop
  | .sl s=>s∈p.wr
  | .bk id=>id∈p.hw∨p.all=true
  | .len=>p.push=true∨p.all=true
theorem yhu {gd:Option (Nat×Bool)} (h:AgF (yem gd) F F'):ya0 F' gd=ya0 F gd:=by
  cases gd with
  | none=>rfl
  | some x =>
    obtain ⟨s,want⟩:=x
    simp only [ya0,h s (by simp [yem])]
theorem ydR (F:Frm) (bx:Option (Nat×PV)) (k:Nat):fget (ybt F bx) k=match bx with | some (s,row)=>if k=s then some (.box row) else fget F k | none=>fget F k:=by
  cases bx with
  | none=>rfl
  | some x=>obtain ⟨s,row⟩:=x;simp only [ybt,yaw]
theorem ygf {o:AOper} {S1:Frm×Hp} (h:ybY E call o (F,H)=some S1) (S':Frm×Hp) (hag:∀ l,RdP (yaZ E F H o) l→look S' l=look (F,H) l) :
    ∃ T',ybY E call o S'=some T'∧(∀ l,WrP (yaZ E F H o) l→look T' l=look S1 l)∧(∀ l,¬WrP (yaZ E F H o) l→look T' l=look S' l):=by
  obtain ⟨F',H'⟩:=S'
  have hF:AgF (yaZ E F H o).rd F F':=fun s hs=>by
    have:=hag (.sl s) hs
    simpa [look] using this
  unfold ybY at h ⊢
  simp only [] at h ⊢
  unfold yaZ at hag hF ⊢
  split at h
  · cases h
  · -- the guard says no
    rename_i hg
    rw [hg] at hag hF ⊢
    simp only [] at hag hF ⊢
    rw [yhu hF,hg]
    simp only []
    cases hd:o.dst with
    | none =>
      rw [hd] at h
      cases h
      exact ⟨_,rfl,fun l hl=>by cases l <;> simp [WrP] at hl,fun _ _=>rfl⟩
    | some d =>
      rw [hd] at h
      cases h
      refine ⟨_,rfl,fun l hl=>?_,fun l hl=>?_⟩
      · cases l <;> simp [WrP] at hl
        subst hl
        simp [look,yaw]
      · cases l with
        | sl s =>
          simp [WrP] at hl
          simp [look,yaw,hl]
        | _=>rfl
  · rename_i hg
    rw [hg] at hag hF ⊢
    simp only [] at hag hF ⊢
    rw [yci] at hF
    rw [yhu hF.1,hg]
    simp only []
    split at h
    · cases h
    · rename_i out x bx H2 hout
      simp only [Option.map_eq_some_iff] at h
      obtain ⟨F1,hput,e⟩:=h
      subst e
      have hall:(fpOp E F H o.op).all=true→H'=H:=fun ha=>List.ext_getElem? fun k=>by
        have:=hag (.bk k) (.inr (.inr ha))
        simpa [look] using this
      have hH:AgH (fpOp E F H o.op) H H':=by
        refine ⟨fun id hid=>?_,fun hp=>?_,hall⟩
        · have:=hag (.bk id) (hid.elim .inl fun x=>.inr (.inl x))
          simpa [look] using this
        · have:=hag .len (.inl hp)
          simpa [look] using this
      obtain ⟨H2',h1,h2⟩:=yhZ hH hout
      have h3:yab E call F' H' o.op=some ⟨x,bx,H2'⟩:=by
        rw [yhn (F:=F) (H:=H') (by rw [ykN o.op H' H];exact hF.2)];exact h1
      rw [h3]
      simp only []
      have hput':∃ F1',ybB (ybt F' bx) o.dst x=some F1'∧(∀ s,s∈o.dst.toList++(fpOp E F H o.op).wr→fget F1' s=fget F1 s)∧(∀ s,s∉o.dst.toList++(fpOp E F H o.op).wr→fget F1' s=fget F' s):=by
        have hbx:∀ s row,bx=some (s,row)→s∈(fpOp E F H o.op).wr:=fun s row e=>(yht hout e).1
        have hin:∀ s,s∈(fpOp E F H o.op).wr→fget (ybt F' bx) s=fget (ybt F bx) s:=by
          intro s hs
          rw [ydR,ydR]
          have:=hF.2 s (ypU _ _ hs)
          cases bx with
          | none=>exact this
          | some y=>obtain ⟨s',row⟩:=y;simp only [this]
        have hnin:∀ s,s∉(fpOp E F H o.op).wr→fget (ybt F' bx) s=fget F' s:=by
          intro s hs
          rw [ydR]
          cases bx with
          | none=>rfl
          | some y =>
            obtain ⟨s',row⟩:=y
            simp only []
            have hne:¬s=s':=fun e=>hs (e ▸ hbx s' row rfl)
            rw [if_neg hne]
        cases hdst:o.dst with
        | none =>
          rw [hdst] at hput
          have hx:∀ G:Frm,ybB G none x=some G:=by
            cases x with
            | none=>intro G;rfl
            | some fv=>cases fv with
              | box row=>simp [ybB] at hput
              | _=>intro G;rfl
          rw [hx] at hput
          cases hput
          refine ⟨_,hx _,fun s hs=>hin s (by simpa using hs),fun s hs=>hnin s (by simpa using hs)⟩
        | some d =>
          rw [hdst] at hput
          have key:∀ (G:Frm),∃ G1,ybB G (some d) x=some G1∧fget G1 d=x∧∀ s,s≠d→fget G1 s=fget G s:=by
            intro G
            cases x with
            | none=>exact ⟨_,rfl,by simp [ybu],fun s hs=>by simp [ybu,hs]⟩
            | some fv=>exact ⟨_,rfl,by simp [yaw],fun s hs=>by simp [yaw,hs]⟩
          obtain ⟨G1,k1,k2,k3⟩:=key (ybt F bx)
          rw [k1] at hput
          cases hput
          obtain ⟨G2,k4,k5,k6⟩:=key (ybt F' bx)
          refine ⟨G2,k4,fun s hs=>?_,fun s hs=>?_⟩
          · by_cases e:s=d
            · subst e;rw [k2,k5]
            · rw [k6 s e,k3 s e]
              simp only [Option.toList_some,List.mem_append,List.mem_singleton,e,false_or] at hs
              exact hin s hs
          · simp only [Option.toList_some,List.mem_append,List.mem_singleton,not_or] at hs
            rw [k6 s hs.1]
            exact hnin s hs.2
      obtain ⟨F1',e1,e2,e3⟩:=hput'
      rw [e1]
      refine ⟨(F1',H2'),rfl,fun l hl=>?_,fun l hl=>?_⟩
      · cases l with
        | sl s=>simp only [WrP] at hl;simp only [look,e2 s hl]
        | bk id =>
          simp only [WrP] at hl
          simp only [look]
          rcases hl with hl | hl
          · cases ha:(fpOp E F H o.op).all
            · rw [h2.inn ha id hl]
            · rw [h2.all ha]
          · rw [h2.all hl]
        | len =>
          simp only [WrP] at hl
          simp only [look]
          rcases hl with hl | hl
          · rw [h2.push hl]
          · rw [h2.all hl]
      · cases l with
        | sl s=>simp only [WrP] at hl;simp only [look,e3 s hl]
        | bk id =>
          simp only [WrP,not_or] at hl
          simp only [look]
          rw [(h2.out (by simpa using hl.2) id hl.1).2]
        | len =>
          simp only [WrP,not_or] at hl
          simp only [look]
          rw [(h2.len (by simpa using hl.1) (by simpa using hl.2)).2]
theorem ykO {f g:Fn} (h:eqFn f g=true):f=g:=by
  unfold eqFn at h
  split at h
  · rw [eq_of_beq h]
  · rw [eq_of_beq h]
  · exact of_decide_eq_true h
theorem yiW (f:Fn):eqFn f f=true:=by
  cases f <;> simp [eqFn]
mutual
theorem yjx:∀ (x:PV),eqP x x=true
  | .bool _ | .int _ _ | .nilp | .nils | .emp | .nilf | .mt _ | .ptr _ _ _ _ | .own _ _ _ _ _ | .sub _ _ _ _ _ _=>by simp [eqP]
  | .eptr r _ _=>by simp [eqP,yby r]
  | .data r=>by simp [eqP,yby r]
  | .agg r=>by simp [eqP,yby r]
  | .tup r=>by simp [eqP,yby r]
  | .fn f a b=>by simp [eqP,yiW f,yby a,yby b]
theorem yby:∀ (x:List PV),eqPL x x=true
  | []=>rfl
  | x::r=>by simp [eqPL,yjx x,yby r]
end
theorem yiX (b:HB):eqHB b b=true:=by simp [eqHB,yby]
theorem yey:∀ (i:Nat) (H H1:Hp),H1.length=H.length→∀ id,H1[id]?=H[id]?→i+id∉chgH i H H1
  | i,[],[],_,id,_=>by simp [chgH,yc4]
  | i,a::r,b::s,hl,id,h=>by
    have hl':s.length=r.length:=by simpa using hl
    have hin:∀ (k:Nat) (H H1:Hp) (x:Nat),x∈chgH k H H1→k≤x:=by
      intro k H
      induction H generalizing k with
      | nil =>
        intro H1
        induction H1 generalizing k with
        | nil=>intro x hx;simp [chgH,yc4] at hx
        | cons _ s ih =>
          intro x hx
          simp only [chgH,yc4,List.mem_cons] at hx
          rcases hx with rfl | hx
          · exact Nat.le_refl _
          · have:=ih (k+1) x hx;omega
      | cons a r ih =>
        intro H1 x hx
        cases H1 with
        | nil =>
          simp only [chgH,List.mem_cons] at hx
          rcases hx with rfl | hx
          · exact Nat.le_refl _
          · have:=ih (k+1) [] x hx;omega
        | cons b s =>
          simp only [chgH] at hx
          split at hx
          · have:=ih (k+1) s x hx;omega
          · simp only [List.mem_cons] at hx
            rcases hx with rfl | hx
            · exact Nat.le_refl _
            · have:=ih (k+1) s x hx;omega
    cases id with
    | zero =>
      simp only [List.getElem?_cons_zero,Option.some.injEq] at h
      subst h
      simp only [chgH,yiX,if_true]
      intro hm
      have:=hin _ _ _ _ hm
      omega
    | succ id =>
      have h2:s[id]?=r[id]?:=by simpa using h
      have:=yey (i+1) r s hl' id h2
      rw [show i+1+id=i+(id+1) by omega] at this
      simp only [chgH]
      split
      · exact this
      · simp only [List.mem_cons,not_or]
        exact ⟨by omega,this⟩
  | i,[],_::_,hl,_,_=>by simp at hl
  | i,_::_,[],hl,_,_=>by simp at hl
mutual
theorem ynw:∀ (x y:PV),eqP x y=true→x=y
  | .bool a,y,h=>by cases y <;> simp [eqP] at h;rw [h]
  | .int k a,y,h=>by cases y <;> simp [eqP] at h;rw [h.1,h.2]
  | .nilp,y,h=>by cases y <;> simp [eqP] at h;rfl
  | .nils,y,h=>by cases y <;> simp [eqP] at h;rfl
  | .emp,y,h=>by cases y <;> simp [eqP] at h;rfl
  | .nilf,y,h=>by cases y <;> simp [eqP] at h;rfl
  | .mt a,y,h=>by cases y <;> simp [eqP] at h;rw [h]
  | .ptr ..,y,h=>by cases y <;> simp [eqP] at h;rw [h.1,h.2.1,h.2.2.1,h.2.2.2]
  | .own ..,y,h=>by cases y <;> simp [eqP] at h;rw [h.1,h.2.1,h.2.2.1,h.2.2.2.1,h.2.2.2.2]
  | .sub ..,y,h=>by cases y <;> simp [eqP] at h;rw [h.1,h.2.1,h.2.2.1,h.2.2.2.1,h.2.2.2.2.1,h.2.2.2.2.2]
  | .eptr r i o,y,h=>by cases y <;> simp [eqP] at h;rw [ycr _ _ h.1,h.2.1,h.2.2]
  | .data a,y,h=>by cases y <;> simp only [eqP,Bool.false_eq_true] at h;rw [ycr _ _ h]
  | .agg a,y,h=>by cases y <;> simp only [eqP,Bool.false_eq_true] at h;rw [ycr _ _ h]
  | .tup a,y,h=>by cases y <;> simp only [eqP,Bool.false_eq_true] at h;rw [ycr _ _ h]
  | .fn f a b,y,h=>by
    cases y with
    | fn f' a' b' =>
      simp only [eqP,Bool.and_eq_true] at h
      rw [ykO h.1,ycr _ _ h.2.1,ycr _ _ h.2.2]
    | _=>simp [eqP] at h
theorem ycr:∀ (x y:List PV),eqPL x y=true→x=y
  | [],y,h=>by cases y <;> simp [eqPL] at h;rfl
  | x::a,y,h=>by
    cases y with
    | nil=>simp [eqPL] at h
    | cons z b =>
      simp only [eqPL,Bool.and_eq_true] at h
      rw [ynw _ _ h.1,ycr _ _ h.2]
end
theorem ykP {a b:HB} (h:eqHB a b=true):a=b:=by
  obtain ⟨f1,p1,e1,r1⟩:=a
  obtain ⟨f2,p2,e2,r2⟩:=b
  simp only [eqHB,Bool.and_eq_true,beq_iff_eq] at h
  obtain ⟨h1,h2,h3,h4⟩:=h
  rw [h1,h2,h3,ycr _ _ h4]
theorem yeb:∀ (i:Nat) (H H1:Hp) (id:Nat),i+id∉chgH i H H1→H1[id]?=H[id]?
  | _,[],[],id,_=>rfl
  | i,a::r,b::s,id,h=>by
    simp only [chgH] at h
    cases id with
    | zero =>
      split at h
      · rename_i e;simp [ykP e]
      · simp at h
    | succ id =>
      have:i+1+id∉chgH (i+1) r s:=by
        rw [show i+1+id=i+(id+1) by omega]
        split at h
        · exact h
        · exact fun hm=>h (List.mem_cons_of_mem _ hm)
      simpa using yeb (i+1) r s id this
  | i,_::r,[],id,h=>by
    simp only [chgH] at h
    cases id with
    | zero=>simp at h
    | succ id =>
      have:i+1+id∉chgH (i+1) r []:=by
        rw [show i+1+id=i+(id+1) by omega]
        exact fun hm=>h (List.mem_cons_of_mem _ hm)
      simpa using yeb (i+1) r [] id this
  | i,[],_::s,id,h=>by
    simp only [chgH,yc4] at h
    cases id with
    | zero=>simp at h
    | succ id =>
      have:i+1+id∉chgH (i+1) [] s:=by
        rw [show i+1+id=i+(id+1) by omega]
        exact fun hm=>h (List.mem_cons_of_mem _ hm)
      simpa using yeb (i+1) [] s id this
theorem yhv {o:AOper} {S1:Frm×Hp} (h:ybY E call o (F,H)=some S1) (S':Frm×Hp) (hag:∀ l,RdP ((yaZ E F H o).tight H S1.2) l→look S' l=look (F,H) l) :
    ∃ T',ybY E call o S'=some T'∧(∀ l,WrP ((yaZ E F H o).tight H S1.2) l→look T' l=look S1 l)∧(∀ l,¬WrP ((yaZ E F H o).tight H S1.2) l→look T' l=look S' l):=by
  unfold FP.tight at hag ⊢
  cases ha:(yaZ E F H o).all with
  | false =>
    rw [ha] at hag
    simp only [Bool.false_eq_true,if_false] at hag ⊢
    exact ygf h S' hag
  | true =>
    rw [ha] at hag
    simp only [if_true] at hag ⊢
    have hlen:S'.2.length=H.length:=by
      have:=hag .len (.inl rfl)
      simpa [look] using this
    have hbk:∀ id:Nat,S'.2[id]?=H[id]?:=by
      intro id
      by_cases hid:id<H.length
      · have:=hag (.bk id) (.inl (List.mem_range.2 hid))
        simpa [look] using this
      · rw [List.getElem?_eq_none (by omega),List.getElem?_eq_none (by omega)]
    obtain ⟨T',h1,h2,h3⟩:=ygf h S' fun l hl=>by
      cases l with
      | sl s=>exact hag (.sl s) hl
      | bk id=>simp [look,hbk id]
      | len=>simp [look,hlen]
    refine ⟨T',h1,fun l hl=>?_,fun l hl=>?_⟩
    · cases l with
      | sl s=>exact h2 (.sl s) hl
      | bk id=>exact h2 (.bk id) (.inr ha)
      | len=>exact h2 .len (.inr ha)
    · cases l with
      | sl s=>exact h3 (.sl s) hl
      | bk id =>
        have e1:=h2 (.bk id) (.inr ha)
        have hn:id∉chgH 0 H S1.2:=fun hm=>hl (.inl hm)
        have e2:=yeb 0 H S1.2 id (by rw [Nat.zero_add];exact hn)
        rw [e1]
        simp only [look]
        rw [e2,hbk id]
      | len=>exact absurd (.inl rfl) hl
def stAt (E:Env) (call:Nat→List PV→Hp→Option (PV×Hp)):List AOper→Nat→Frm×Hp→Frm×Hp
  | [],_,S=>S
  | _::_,0,S=>S
  | o::r,i+1,S=>match ybY E call o S with
    | some S'=>stAt E call r i S'
    | none=>S
theorem ydE:∀ (l:List AOper) (F:Frm) (H:Hp) (F':Frm) (H':Hp) (ps:List FP),yc5 E call l F H=some (F',H',ps) →
    ps.length=l.length∧stAt E call l 0 (F,H)=(F,H)∧stAt E call l l.length (F,H)=(F',H') ∧
    ∀ (i:Nat) (o:AOper),l[i]?=some o→ybY E call o (stAt E call l i (F,H))=some (stAt E call l (i+1) (F,H))∧ps[i]?=some ((yaZ E (stAt E call l i (F,H)).1 (stAt E call l i (F,H)).2 o).tight (stAt E call l i (F,H)).2 (stAt E call l (i+1) (F,H)).2)
  | [],F,H,F',H',ps,h=>by
    simp only [yc5,Option.some.injEq,Prod.mk.injEq] at h
    obtain ⟨rfl,rfl,rfl⟩:=h
    exact ⟨rfl,rfl,rfl,fun i o e=>by simp at e⟩
  | o::r,F,H,F',H',ps,h=>by
    simp only [yc5] at h
    split at h
    · rename_i F1 H1 hs
      split at h
      · rename_i F2 H2 ps' hr
        cases h
        obtain ⟨h1,h2,h3,h4⟩:=ydE r F1 H1 F' H' ps' hr
        have hs':ybY E call o (F,H)=some (F1,H1):=hs
        refine ⟨by simp [h1],rfl,by simp only [List.length_cons,stAt,hs'];exact h3,fun i o' e=>?_⟩
        cases i with
        | zero =>
          simp only [List.getElem?_cons_zero,Option.some.injEq] at e
          subst e
          have e0:stAt E call (o::r) 0 (F,H)=(F,H):=rfl
          have e1:stAt E call (o::r) (0+1) (F,H)=(F1,H1):=by simp only [stAt,hs'];exact h2
          rw [e0,e1]
          exact ⟨hs',rfl⟩
        | succ i =>
          simp only [List.getElem?_cons_succ] at e
          obtain ⟨h5,h6⟩:=h4 i o' e
          have e1:∀ k,stAt E call (o::r) (k+1) (F,H)=stAt E call r k (F1,H1):=fun k=>by simp only [stAt,hs']
          rw [e1,e1]
          exact ⟨h5,by simpa using h6⟩
      · cases h
    · cases h
theorem yaS {a b:List Nat} (h:ya6 a b=false):∀ s∈a,s∉b:=by
  induction a with
  | nil=>intro s hs;simp at hs
  | cons x r ih =>
    simp only [ya6,Bool.or_eq_false_iff] at h
    intro s hs
    rcases List.mem_cons.1 hs with rfl | hs
    · intro hb
      have:=h.1
      simp [hb] at this
    · exact ih h.2 s hs
theorem yf3 {p q:FP} (h:ydx p q=false):∀ l,¬(WrP p l∧(RdP q l∨WrP q l))∧¬(WrP q l∧RdP p l):=by
  simp only [ydx,Bool.or_eq_false_iff] at h
  obtain ⟨⟨⟨⟨⟨⟨⟨⟨h1,h2⟩,h3⟩,h4⟩,h5⟩,h6⟩,h7⟩,h8⟩,h9⟩:=h
  have heapyP:p.heapy=false↔p.push=false∧p.all=false∧p.hr=[]∧p.hw=[]:=by
    simp [FP.heapy,and_assoc]
  have heapyQ:q.heapy=false↔q.push=false∧q.all=false∧q.hr=[]∧q.hw=[]:=by
    simp [FP.heapy,and_assoc]
  intro l
  cases l with
  | sl s =>
    refine ⟨fun ⟨a,b⟩=>?_,fun ⟨a,b⟩=>yaS h3 s a b⟩
    rcases b with b | b
    · exact yaS h1 s a b
    · exact yaS h2 s a b
  | bk id =>
    have pall:p.all=true→q.push=false∧q.all=false∧q.hr=[]∧q.hw=[]:=fun e=>by rw [e] at h4;exact heapyQ.1 (by simpa using h4)
    have qall:q.all=true→p.push=false∧p.all=false∧p.hr=[]∧p.hw=[]:=fun e=>by rw [e] at h5;exact heapyP.1 (by simpa using h5)
    constructor
    · rintro ⟨a,b⟩
      simp only [WrP,RdP] at a b
      rcases a with a | a
      · rcases b with (b | b | b) | (b | b)
        · exact yaS h7 id a b
        · exact yaS h8 id a b
        · have:=(qall b).2.2.2;rw [this] at a;cases a
        · exact yaS h8 id a b
        · have:=(qall b).2.2.2;rw [this] at a;cases a
      · obtain ⟨q1,q2,q3,q4⟩:=pall a
        rcases b with (b | b | b) | (b | b)
        · rw [q3] at b;cases b
        · rw [q4] at b;cases b
        · rw [q2] at b;cases b
        · rw [q4] at b;cases b
        · rw [q2] at b;cases b
    · rintro ⟨a,b⟩
      simp only [WrP,RdP] at a b
      rcases a with a | a
      · rcases b with b | b | b
        · exact yaS h9 id a b
        · exact yaS h8 id b a
        · have:=(pall b).2.2.2;rw [this] at a;cases a
      · obtain ⟨q1,q2,q3,q4⟩:=qall a
        rcases b with b | b | b
        · rw [q3] at b;cases b
        · rw [q4] at b;cases b
        · rw [q2] at b;cases b
  | len =>
    have pall:p.all=true→q.push=false∧q.all=false:=fun e=>by rw [e] at h4;have:=heapyQ.1 (by simpa using h4);exact ⟨this.1,this.2.1⟩
    have qall:q.all=true→p.push=false∧p.all=false:=fun e=>by rw [e] at h5;have:=heapyP.1 (by simpa using h5);exact ⟨this.1,this.2.1⟩
    have hpp:p.push=true→q.push=true→False:=fun a b=>by rw [a,b] at h6;cases h6
    have both:WrP p .len→WrP q .len→False:=by
      simp only [WrP]
      rintro (a | a) (b | b)
      · exact hpp a b
      · have:=(qall b).1;rw [a] at this;cases this
      · have:=(pall a).1;rw [b] at this;cases this
      · have:=(pall a).2;rw [b] at this;cases this
    exact ⟨fun ⟨a,b⟩=>both a (b.elim id id),fun ⟨a,b⟩=>both b a⟩
theorem ygg {ps:List FP}:∀ (pairs:List (Nat×Nat)),yb7 ps pairs=true→∀ i j,(i,j)∈pairs→∃ p q,ps[i]?=some p∧ps[j]?=some q∧ydx p q=false
  | [],_,i,j,h=>by simp at h
  | (a,b)::r,h,i,j,hm=>by
    simp only [yb7,Bool.and_eq_true] at h
    rcases List.mem_cons.1 hm with e | hm
    · cases e
      have h1:=h.1
      split at h1
      · rename_i p q hp hq;exact ⟨p,q,hp,hq,by simpa using h1⟩
      · cases h1
    · exact ygg r h.2 i j hm
theorem yds {d k:Nat} {x:FV}:∀ (F:Frm),noBp F d=true→(∀ off,x≠.bp d off)→noBp (fset F k x) d=true
  | [],_,hx=>by
    cases x with
    | bp s off=>simp only [fset,noBp,Bool.and_true,Bool.not_eq_true',beq_eq_false_iff_ne];exact fun e=>hx off (by rw [e])
    | _=>simp [fset,noBp]
  | (j,y)::r,h,hx=>by
    have hy:noBp r d=true∧∀ (z:FV),noBp ((j,z)::r) d=(match z with | .bp s _=>!(s == d)&&noBp r d | _=>noBp r d):=by
      refine ⟨?_,fun z=>by cases z <;> rfl⟩
      cases y <;> simp [noBp] at h <;> first | exact h | exact h.2
    have hput:∀ (j:Nat) (r:Frm),noBp r d=true→noBp ((j,x)::r) d=true:=by
      intro j r hr
      cases x with
      | bp s off =>
        simp only [noBp,hr,Bool.and_true,Bool.not_eq_true',beq_eq_false_iff_ne]
        exact fun e=>hx off (by rw [e])
      | _=>simpa [noBp] using hr
    simp only [fset]
    split
    · exact hput _ _ h
    · split
      · exact hput _ _ hy.1
      · have ih:=yds (k:=k) r hy.1 hx
        cases y <;> simp [noBp] at h ⊢ <;> first | exact ih | exact ⟨h.1,ih⟩
theorem yec {d:Nat}:∀ {l:List AOper} {o:AOper},o∈l→o.dst=some d→1≤ybC d l
  | x::r,o,h,hd=>by
    simp only [ybC]
    rcases List.mem_cons.1 h with rfl | h
    · simp [hd]
    · have:=yec h hd;omega
theorem yfG:∀ (l:List AOper) (F:Frm) (H:Hp) (T:Frm×Hp),ydr (ybY E call) l (F,H)=some T →
    (∀ o∈l,∀ d,ydK o=some d→noBp F d=true∧fget F d=none∧ybC d l=1)→ybA E call l F H=some T
  | [],F,H,T,h,_=>by simpa [ydr,ybA] using h
  | o::r,F,H,T,h,hf=>by
    simp only [ydr] at h
    split at h
    · rename_i S1 hs
      obtain ⟨F1,H1⟩:=S1
      have hboth:ycG E call F H o=some (F1,H1)∧∀ d,noBp F d=true→fget F d=none→o.dst≠some d→noBp F1 d=true∧fget F1 d=none:=by
        unfold ybY at hs
        simp only [] at hs
        unfold ycG
        split at hs
        · cases hs
        · rename_i hg
          refine ⟨hs,fun d h1 h2 h3=>?_⟩
          cases hdst:o.dst with
          | none=>rw [hdst] at hs;cases hs;exact ⟨h1,h2⟩
          | some d' =>
            rw [hdst] at hs;cases hs
            refine ⟨yds _ h1 (fun off e=>by cases e),?_⟩
            rw [yaw,if_neg (fun e=>h3 (by rw [hdst,e]))];exact h2
        · rename_i hg
          split at hs
          · cases hs
          · rename_i out x bx H2 hout
            simp only [Option.map_eq_some_iff] at hs ⊢
            obtain ⟨F2,hp,e⟩:=hs
            refine ⟨⟨F2,yiV hp fun row d hx hd=>?_,e⟩,fun d h1 h2 h3=>?_⟩
            · obtain ⟨hb1,hb2⟩:=yiU hout hx
              have hb2':bx=none:=hb2
              rw [hb2']
              exact (hf o (by simp) d (hb1.trans hd)).1
            · cases e
              have hbx:noBp (ybt F bx) d=true∧fget (ybt F bx) d=none:=by
                cases bx with
                | none=>exact ⟨h1,h2⟩
                | some y =>
                  obtain ⟨s,row⟩:=y
                  obtain ⟨_,row0,hrow0⟩:=yht hout rfl
                  have hne:d≠s:=fun e=>by rw [e,hrow0] at h2;cases h2
                  refine ⟨yds _ h1 (fun off e=>by cases e),?_⟩
                  simp only [ybt,yaw,if_neg hne]
                  exact h2
              have hxbp:∀ off,x≠some (.bp d off):=by
                intro off e
                rcases yjw hout e with ⟨row,hr⟩ | hr
                · rw [hr] at h2;cases h2
                · rw [hr] at h1;cases h1
              cases hdst:o.dst with
              | none =>
                rw [hdst] at hp
                cases x with
                | none=>simp only [ybB,Option.some.injEq] at hp;subst hp;exact hbx
                | some fv=>cases fv <;> simp only [ybB,Option.some.injEq] at hp <;> first | (subst hp;exact hbx) | cases hp
              | some d' =>
                have hne:d≠d':=fun e=>h3 (by rw [hdst,e])
                rw [hdst] at hp
                cases x with
                | none =>
                  simp only [ybB,Option.some.injEq] at hp;subst hp
                  exact ⟨ycx _ hbx.1,by rw [ybu,if_neg hne];exact hbx.2⟩
                | some fv =>
                  simp only [ybB,Option.some.injEq] at hp;subst hp
                  exact ⟨yds _ hbx.1 (fun off e=>hxbp off (by rw [e])),by rw [yaw,if_neg hne];exact hbx.2⟩
      obtain ⟨hstep,hkeep⟩:=hboth
      simp only [ybA,hstep]
      refine yfG r F1 H1 T h fun o' ho' d hd=>?_
      obtain ⟨h1,h2,h3⟩:=hf o' (by simp [ho']) d hd
      have hdst:o'.dst=some d:=by
        unfold ydK at hd
        split at hd <;> first | exact hd | cases hd
      have hpos:=yec ho' hdst
      simp only [ybC] at h3
      have hne:o.dst≠some d:=by
        intro e
        rw [if_pos e] at h3;omega
      rw [if_neg hne] at h3
      obtain ⟨h4,h5⟩:=hkeep d h1 h2 hne
      exact ⟨h4,h5,by omega⟩
    · cases h
theorem yeT {all:List AOper}:∀ (l:List AOper),ydh F all l=true→∀ o∈l,∀ d,ydK o=some d→noBp F d=true∧fget F d=none∧ybC d all=1
  | [],_,o,h,_,_=>by simp at h
  | x::r,h,o,ho,d,hd=>by
    simp only [ydh,Bool.and_eq_true] at h
    rcases List.mem_cons.1 ho with rfl | ho
    · have h1:=h.1
      rw [hd] at h1
      simp only [Bool.and_eq_true,Option.isNone_iff_eq_none,beq_iff_eq] at h1
      exact ⟨h1.1.1,h1.1.2,h1.2⟩
    · exact yeT r h.2 o ho d hd
theorem yeU (d:Nat) (l:List AOper):ybC d l=l.countP (fun o=>o.dst == some d):=by
  induction l with
  | nil=>rfl
  | cons o r ih =>
    simp only [ybC,List.countP_cons,ih]
    by_cases h:o.dst=some d
    · simp [h];omega
    · simp [h]
end
theorem ydF (o:Oper):yb1 o=ybN o:=by
  unfold yb1 ybN
  congr 1
  funext e
  unfold Region.binds
  cases e.ground <;> simp
def ygh (es acc:List Nat) (s:Nat):Nat:=es.foldl (fun s i=>s|||2 ^ i|||acc.getD i 0) s
theorem ygi (acc:List Nat) (b:Nat):∀ (es:List Nat) (s:Nat),(ygh es acc s).testBit b=true→s.testBit b=true∨∃ i∈es,b=i∨(acc.getD i 0).testBit b=true
  | [],s,h=>.inl h
  | i::r,s,h=>by
    have h':(ygh r acc (s|||2 ^ i|||acc.getD i 0)).testBit b=true:=h
    rcases ygi acc b r _ h' with h1 | ⟨j,h1,h2⟩
    · rw [Nat.testBit_or,Nat.testBit_or,Bool.or_eq_true,Bool.or_eq_true] at h1
      rcases h1 with (h1 | h1) | h1
      · exact .inl h1
      · right
        rw [Nat.testBit_two_pow] at h1
        exact ⟨i,by simp,.inl (by simpa using (of_decide_eq_true h1).symm)⟩
      · exact .inr ⟨i,by simp,.inr h1⟩
    · exact .inr ⟨j,by simp [h1],h2⟩
theorem ydS:∀ (l:List Oper) (acc:List Nat),(ybj l acc).length=acc.length+l.length
  | [],acc=>by simp [ybj]
  | o::r,acc=>by simp only [ybj];rw [ydS r];simp;omega
theorem ydT:∀ (l:List Oper) (acc:List Nat) (e:Nat),e<acc.length→(ybj l acc).getD e 0=acc.getD e 0
  | [],acc,e,_=>rfl
  | o::r,acc,e,h=>by
    simp only [ybj]
    rw [ydT r _ e (by simp;omega)]
    simp [List.getD_eq_getElem?_getD,List.getElem?_append,h]
theorem yfH:∀ (l:List Oper) (acc:List Nat) (k:Nat) (o:Oper),l[k]?=some o→∃ acc',(ybj l acc).getD (acc.length+k) 0=ygh (yb1 o) acc' 0∧∀ e,(acc'.getD e 0≠0→e<acc.length+k)∧(e<acc.length+k→acc'.getD e 0=(ybj l acc).getD e 0)
  | [],acc,k,o,h=>by simp at h
  | x::r,acc,k,o,h=>by
    cases k with
    | zero =>
      simp only [List.getElem?_cons_zero,Option.some.injEq] at h
      subst h
      refine ⟨acc,?_,fun e=>⟨fun hne=>?_,fun he=>(ydT _ acc e (by simpa using he)).symm⟩⟩
      · simp only [ybj,Nat.add_zero]
        rw [ydT r _ acc.length (by simp)]
        simp [List.getD_eq_getElem?_getD,ygh]
      · rcases Nat.lt_or_ge e acc.length with h1 | h1
        · simpa using h1
        · rw [List.getD_eq_getElem?_getD,List.getElem?_eq_none h1] at hne;simp at hne
    | succ k =>
      simp only [List.getElem?_cons_succ] at h
      obtain ⟨acc',h1,h2⟩:=yfH r (acc++[ygh (yb1 x) acc 0]) k o h
      have hl:(acc++[ygh (yb1 x) acc 0]).length+k=acc.length+(k+1):=by simp;omega
      rw [hl] at h1 h2
      exact ⟨acc',h1,h2⟩
theorem ydG {l:List Oper} (h:ycC l=true):∀ (i:Nat) (o:Oper),l[i]?=some o→∀ k∈yb1 o,k<i:=by
  intro i o ho k hk
  simp only [ycC,List.all_eq_true,List.mem_range] at h
  have hi:i<l.length:=by
    rcases Nat.lt_or_ge i l.length with h1 | h1
    · exact h1
    · rw [List.getElem?_eq_none h1] at ho;cases ho
  have:=h i hi
  rw [ho] at this
  simp only [List.all_eq_true,decide_eq_true_eq] at this
  exact this k hk
theorem yed {ops:Array Oper} {σ:List Nat} (hback:ycC ops.toList=true) (hσ:∀ a j b,σ=a++j::b→∀ o,ops[j]?=some o→∀ k∈ybN o,k∈a) :
    ∀ (j:Nat) (a b:List Nat) (i:Nat),σ=a++j::b→j<ops.size→((ybj ops.toList []).getD j 0).testBit i=true→i∈a:=by
  intro j
  induction j using Nat.strongRecOn with
  | _ j ih =>
    intro a b i e hj hbit
    have hoj:ops.toList[j]?=some ops[j]:=by simp [hj]
    obtain ⟨acc',h1,h2⟩:=yfH ops.toList [] j _ hoj
    simp only [List.length_nil,Nat.zero_add] at h1 h2
    rw [h1] at hbit
    rcases ygi acc' i (yb1 ops[j]) 0 hbit with h3 | ⟨k,hk,h3⟩
    · simp at h3
    · have hka:k∈a:=hσ a j b e ops[j] (by simp [hj]) k (by rw [← ydF];exact hk)
      rcases h3 with rfl | h3
      · exact hka
      · have hkj:k<j:=ydG hback j _ hoj k hk
        obtain ⟨a1,a2,ea⟩:=List.append_of_mem hka
        rw [(h2 k).2 hkj] at h3
        have:=ih k hkj a1 (a2++j::b) i (by rw [e,ea];simp) (by omega) h3
        rw [ea];simp [this]
theorem ydH {cl:List Nat} {i j:Nat} (hij:i<j) (hj:j<cl.length) (hb:(cl.getD j 0).testBit i=false):(i,j)∈ycB cl:=by
  simp only [ycB,List.mem_flatMap,List.mem_range,List.mem_filterMap]
  exact ⟨j,hj,i,hij,by rw [hb];rfl⟩
section
variable {P:Program} {E:Env}
theorem yh0 (hE:EnvOk P E) (hm:P.follows .mixedOrders=true):∀ call,yal P E call→yfz P E call:=by
  intro call hc ro nt base g F H a w loc ops l F' H' id hro hl hd hb h hr hL hdf
  obtain ⟨hlen,hget⟩:=ybQ _ _ hl
  have hsz:l.length=ops.size:=by simpa using hlen
  refine wpIn_region_draw fun t=>?_
  have hsched:Region.schedule (P.follows .mixedOrders) ops t=Region.linearise.go .any ops ops.size t (Array.replicate ops.size false) []:=by
    rw [hm];rfl
  rw [hsched]
  have hcount:(List.range ops.size).countP (fun i=>!(Array.replicate ops.size false).getD i true)≤ops.size:=by
    have:=List.countP_le_length (p:=fun i=>!(Array.replicate ops.size false).getD i true) (l:=List.range ops.size)
    simpa using this
  obtain ⟨hmem,hnd,hord⟩:=ygN ops (fun i o ho k hk=>ydG hb i o (by simpa using ho) k (by rw [ydF];exact hk)) ops.size t (Array.replicate ops.size false) (by simp) hcount
  revert hmem hnd hord
  generalize Region.linearise.go .any ops ops.size t (Array.replicate ops.size false) []=σ
  intro hmem hnd hord
  have hmem':∀ i,i∈σ↔i<ops.size:=by
    intro i
    rw [← hmem i]
    refine ⟨fun x=>x.1,fun x=>⟨x,?_⟩⟩
    simp [Array.getD_eq_getD_getElem?,x]
  have hord':∀ a j b,σ=a++j::b→∀ o,ops[j]?=some o→∀ k∈ybN o,k∈a:=by
    intro a j b e o ho k hk
    rcases hord a j b e o ho k hk with h1 | h1
    · simp only [Array.getD_eq_getD_getElem?,Array.getElem?_replicate] at h1
      split at h1 <;> simp at h1
    · exact h1
  have hperm:σ.Perm (List.range ops.size):=(List.perm_ext_iff_of_nodup hnd List.nodup_range).2 fun i=>by rw [hmem' i,List.mem_range]
  have hlperm:(σ.filterMap (l[·]?)).Perm l:=by
    have:=hperm.filterMap (l[·]?)
    rw [← hsz,ybW] at this
    exact this
  have hrd:Rel E nt g F H a.tmps { w with drawn:=w.drawn+1 }:=hr.drew
  have hclean:∀ (l:List AOper) (F:Frm) s x,fget (ycH F l) s=some x→fget F s=some x:=by
    intro l
    induction l with
    | nil=>intro F s x e;exact e
    | cons o r ih =>
      intro F s x e
      simp only [ycH] at e
      split at e
      · rename_i d _
        have:=ih _ s x e
        rw [ybu] at this
        split at this
        · cases this
        · exact ydL F d s x this
      · exact ih _ s x e
  have hrun:∃ F0 F2 H2,(∀ s x,fget F0 s=some x→fget F s=some x)∧ybA E call (σ.filterMap (l[·]?)) F0 H=some (F2,H2)∧H2=H'∧∀ s,fget F2 s=fget F' s:=by
    unfold ycI at h
    cases hp:ycB (ybj ops.toList []) with
    | nil =>
      rw [hp] at h
      have hsort:σ=List.range ops.size:=by
        have key:∀ (τ:List Nat) (k:Nat),(∀ a j b,τ=a++j::b→∀ i,k≤i→i<j→i∈a)→τ.Nodup→(∀ i,i∈τ↔k≤i∧i<ops.size)→k≤ops.size→τ=List.range' k (ops.size-k):=by
          intro τ
          induction τ with
          | nil =>
            intro k _ _ h3 hk
            have:¬(k<ops.size):=fun hlt=>by have:=(h3 k).2 ⟨Nat.le_refl k,hlt⟩;cases this
            have:ops.size-k=0:=by omega
            rw [this];rfl
          | cons x τ ih =>
            intro k h1 h2 h3 hk
            have hx:=(h3 x).1 (by simp)
            have hxk:x=k:=by
              rcases Nat.lt_or_ge k x with hlt | hge
              · have:=h1 [] x τ rfl k (Nat.le_refl k) hlt;cases this
              · omega
            subst hxk
            have:ops.size-x=(ops.size-(x+1))+1:=by omega
            rw [this,List.range'_succ]
            congr 1
            rw [List.nodup_cons] at h2
            refine ih (x+1) (fun a j b e i hi hij=>?_) h2.2 (fun i=>?_) (by omega)
            · have:=h1 (x::a) j b (by rw [e];rfl) i (by omega) hij
              rcases List.mem_cons.1 this with e2 | e2
              · omega
              · exact e2
            · have h4:=h3 i
              rw [List.mem_cons] at h4
              constructor
              · intro hi
                have h5:=h4.1 (.inr hi)
                have:i≠x:=fun e=>h2.1 (e ▸ hi)
                omega
              · intro hi
                rcases h4.2 ⟨by omega,hi.2⟩ with e | e
                · omega
                · exact e
        have:=key σ 0 (fun a j b e i _ hij=>?_) hnd (fun i=>by rw [hmem' i];simp) (Nat.zero_le _)
        · rw [this,Nat.sub_zero,List.range_eq_range']
        · have hj:j<ops.size:=(hmem' j).1 (by rw [e];simp)
          refine yed hb hord' j a b i e hj ?_
          cases hbit:((ybj ops.toList []).getD j 0).testBit i
          · have:=ydH hij (by rw [ydS];simpa using hj) hbit
            rw [hp] at this;cases this
          · rfl
      rw [hsort,← hsz,ybW]
      exact ⟨F,F',H',fun _ _ e=>e,h,rfl,fun _=>rfl⟩
    | cons pr prs =>
      rw [hp] at h
      simp only [] at h
      split at h
      · rename_i F1 H1 ps hps
        split at h
        · rename_i hok
          cases h
          rw [← hp] at hok
          have hcl:=hclean l F
          obtain ⟨F0,hF0⟩:∃ F0,F0=ycH F l:=⟨_,rfl⟩
          rw [← hF0] at hps hok hcl
          obtain ⟨s1,s2,s3,s4⟩:=ydE _ _ _ _ _ _ hps
          let st:Nat→Frm×Hp:=fun i=>stAt E call l i (F0,H)
          let R:Nat→Loc→Prop:=fun i x=>∃ p,ps[i]?=some p∧RdP p x
          let W:Nat→Loc→Prop:=fun i x=>∃ p,ps[i]?=some p∧WrP p x
          have hlocal:Local look (ybY E call) l st R W:=by
            refine ⟨fun i o ho=>?_,fun i o ho S' hag=>?_⟩
            · exact (s4 i o ho).1
            · obtain ⟨h1,h2⟩:=s4 i o ho
              obtain ⟨T',k1,k2,k3⟩:=yhv h1 S' (fun x hx=>hag x ⟨_,h2,hx⟩)
              refine ⟨T',k1,fun x ⟨p,e,hx⟩=>?_,fun x hx=>k3 x fun hw=>hx ⟨_,h2,hw⟩⟩
              rw [h2] at e;cases e
              exact k2 x hx
          have hfree:∀ i j,i<j→(i∈σ∧j∈([]:List Nat)∨(∃ a b c,σ=a++j::(b++i::c)))→Free R W i j:=by
            intro i j hij hcase
            rcases hcase with ⟨_,hx⟩ | ⟨a,b,c,e⟩
            · cases hx
            · have hj:j<ops.size:=(hmem' j).1 (by rw [e];simp)
              have hbit:((ybj ops.toList []).getD j 0).testBit i=false:=by
                cases hbit:((ybj ops.toList []).getD j 0).testBit i
                · rfl
                · have hia:=yed hb hord' j a _ i e hj hbit
                  rw [e,List.nodup_append] at hnd
                  exact absurd rfl (hnd.2.2 i hia i (by simp))
              obtain ⟨p,q,hp1,hq1,hcl⟩:=ygg _ hok.1 i j (ydH hij (by rw [ydS];simpa using hj) hbit)
              intro x
              obtain ⟨f1,f2⟩:=yf3 hcl x
              refine ⟨fun ⟨⟨p',e1,w1⟩,r1⟩=>f1 ?_,fun ⟨⟨q',e1,w1⟩,⟨p',e2,r1⟩⟩=>f2 ?_⟩
              · rw [hp1] at e1;cases e1
                refine ⟨w1,r1.imp (fun ⟨q',e2,r2⟩=>?_) (fun ⟨q',e2,r2⟩=>?_)⟩
                · rw [hq1] at e2;cases e2;exact r2
                · rw [hq1] at e2;cases e2;exact r2
              · rw [hq1] at e1;cases e1
                rw [hp1] at e2;cases e2
                exact ⟨w1,r1⟩
          obtain ⟨T',k1,k2⟩:=hlocal.perm σ [] (F0,H) (by simpa using hnd) (fun i=>by rw [hsz,List.nil_append,hmem' i]) hfree (fun x _=>by show look (F0,H) x=look (st 0) x;rw [show st 0=(F0,H) from s2]) (fun x i hi=>by cases hi)
          have hfin:st l.length=(F',H'):=s3
          rw [hfin] at k2
          have hfresh:=yfG _ F0 H T' k1 fun o ho d hdo=>by
            obtain ⟨b1,b2,b3⟩:=yeT l hok.2 o (hlperm.mem_iff.1 ho) d hdo
            refine ⟨b1,b2,?_⟩
            rw [yeU,hlperm.countP_eq,← yeU];exact b3
          refine ⟨F0,T'.1,T'.2,hcl,hfresh,List.ext_getElem? fun k=>?_,fun s=>?_⟩
          · have:=k2 (.bk k);simpa [look] using this
          · have:=k2 (.sl s);simpa [look] using this
        · cases h
      · cases h
  obtain ⟨F0,F2,H2,h0,h1,rfl,h3⟩:=hrun
  refine yfA (F':=F2) (H':=H2) hE hc hl hd hro σ g F0 H a _ (fun i hi=>(hmem' i).1 hi) (hrd.less h0) (hL.nx (Nx.drew g H w)) h1 ?_
  intro a' w' g' d1 n1 r1
  exact ⟨trivial,g',(Nx.drew g H w).trans n1,r1.less fun s x hs=>by rw [h3 s];exact hs,(hdf.nx ((Nx.drew g H w).trans n1)).go d1⟩
theorem yiY (hE:EnvOk P E) (hm:P.follows .mixedOrders=true) (n:Nat):yal P E (yas E n) :=
  (yhW (fun _ hE=>yh0 hE hm) n E hE).2.2.2
end
end Go.Pf
namespace Go.Pf
open Go Go.RowKit
def topV (E:Env) (n f:Nat) (args:List PV):Option PV :=
  match yas E n f args [] with
  | some (r,H)=>purN (E.nl f) H r
  | none=>none
section
variable {P:Program} {E:Env}
theorem yip (hE:EnvOk P E) (hm:P.follows .mixedOrders=true) {n f:Nat} {args:List PV} {q:PV} (h:topV E n f args=some q):ydC P E.glob f args q:=by
  intro I w vs himm hgl hv
  unfold topV at h
  split at h
  · rename_i r H hin
    exact run_pure (yiY hE hm n) himm hgl hv hin h
  · cases h
end
end Go.Pf
namespace Go.Pf
open Go Go.RowKit
mutual
def beqV:PV→PV→Bool
  | .bool a,.bool b=>a == b
  | .int k a,.int l b=>decide (k=l)&&decide (a=b)
  | .nilp,.nilp=>true
  | .nils,.nils=>true
  | .emp,.emp=>true
  | .nilf,.nilf=>true
  | .data a,.data b=>beqL a b
  | .agg a,.agg b=>beqL a b
  | .tup a,.tup b=>beqL a b
  | _,_=>false
def beqL:List PV→List PV→Bool
  | [],[]=>true
  | x::a,y::b=>beqV x y&&beqL a b
  | _,_=>false
end
mutual
theorem yiq:∀ (x y:PV),beqV x y=true→x=y
  | .bool a,y,h=>by cases y <;> simp [beqV] at h;rw [h]
  | .int k a,y,h=>by cases y <;> simp [beqV] at h;rw [h.1,h.2]
  | .nilp,y,h=>by cases y <;> simp [beqV] at h;rfl
  | .nils,y,h=>by cases y <;> simp [beqV] at h;rfl
  | .emp,y,h=>by cases y <;> simp [beqV] at h;rfl
  | .nilf,y,h=>by cases y <;> simp [beqV] at h;rfl
  | .data a,y,h=>by cases y <;> simp only [beqV,Bool.false_eq_true] at h;rw [yee _ _ h]
  | .agg a,y,h=>by cases y <;> simp only [beqV,Bool.false_eq_true] at h;rw [yee _ _ h]
  | .tup a,y,h=>by cases y <;> simp only [beqV,Bool.false_eq_true] at h;rw [yee _ _ h]
  | .ptr ..,y,h=>by cases y <;> simp [beqV] at h
  | .eptr ..,y,h=>by cases y <;> simp [beqV] at h
  | .own ..,y,h=>by cases y <;> simp [beqV] at h
  | .sub ..,y,h=>by cases y <;> simp [beqV] at h
  | .fn ..,y,h=>by cases y <;> simp [beqV] at h
theorem yee:∀ (x y:List PV),beqL x y=true→x=y
  | [],y,h=>by cases y <;> simp [beqL] at h;rfl
  | x::a,y,h=>by
    cases y with
    | nil=>simp [beqL] at h
    | cons z b =>
      simp only [beqL,Bool.and_eq_true] at h
      rw [yiq _ _ h.1,yee _ _ h.2]
end
abbrev Tab:=List (Nat×List PV×PV)
def yhw:Tab→Nat→List PV→Option PV
  | [],_,_=>none
  | (k,as,r)::t,n,bs=>bif Nat.beq k n&&beqL as bs then some r else yhw t n bs
theorem ygj:∀ (t:Tab) (n:Nat) (as:List PV) (r:PV),yhw t n as=some r→(n,as,r)∈t
  | [],_,_,_,h=>by simp [yhw] at h
  | (k,bs,q)::t,n,as,r,h=>by
    simp only [yhw] at h
    cases hc:(Nat.beq k n&&beqL bs as) with
    | true =>
      rw [hc] at h
      simp only [cond_true,Option.some.injEq] at h
      simp only [Bool.and_eq_true] at hc
      have h1:=Nat.eq_of_beq_eq_true hc.1
      have h2:=yee _ _ hc.2
      subst h1;subst h2;subst h;simp
    | false =>
      rw [hc] at h
      simp only [cond_false] at h
      exact List.mem_cons_of_mem _ (ygj t n as r h)
def Env.plus (E:Env) (t:Tab):Env :=
  { E with sum:=fun n as=>match yhw t n as with | some r=>some r | none=>E.sum n as }
def yad (E:Env) (fuel:Nat):Tab→Bool
  | []=>true
  | (n,as,r)::t=>(match topV E fuel n as with | some q=>beqV q r | none=>false)&&yad E fuel t
section
variable {P:Program} {E:Env}
theorem yfI (hE:EnvOk P E) (hm:P.follows .mixedOrders=true) {fuel:Nat} :
    ∀ (t:Tab),yad E fuel t=true→∀ n as r,(n,as,r)∈t→ydC P E.glob n as r
  | [],_,_,_,_,h=>by simp at h
  | (k,bs,q)::t,hc,n,as,r,h=>by
    simp only [yad,Bool.and_eq_true] at hc
    rcases List.mem_cons.1 h with h | h
    · cases h
      obtain ⟨h1,_⟩:=hc
      split at h1
      · rename_i x hx
        rw [yiq _ _ h1] at hx
        exact yip hE hm hx
      · cases h1
    · exact yfI hE hm t hc.2 n as r h
theorem yae (hE:EnvOk P E) (hm:P.follows .mixedOrders=true) {fuel:Nat} {t:Tab} (h:yad E fuel t=true):EnvOk P (E.plus t) where
  sum:=by
    intro n as r e
    simp only [Env.plus] at e
    split at e
    · rename_i q hq
      cases e
      exact yfI hE hm t h n as _ (ygj t n as _ hq)
    · exact hE.sum n as r e
  fns:=hE.fns
  eff:=EnvOk.eff' (E:=E) (E':=E.plus t) rfl rfl rfl hE.eff
  dn:=hE.dn
  top:=hE.top
  yl:=EnvOk.yl' (E':=E.plus t) hE rfl rfl rfl rfl
def yhx:List (Nat×AFn)→Nat→Option AFn
  | [],_=>none
  | (k,a)::r,n=>bif Nat.beq k n then some a else yhx r n
def yc1 (P:Program):List (Nat×AFn)→Prop
  | []=>True
  | (n,a)::r=>(∃ f loc fg,P.funcs[n]?=some f∧yaa P loc fg f=some a)∧yc1 P r
theorem yhy:∀ (l:List (Nat×AFn)),yc1 P l→∀ n a,yhx l n=some a→∃ f loc fg,P.funcs[n]?=some f∧yaa P loc fg f=some a
  | [],_,_,_,h=>by simp [yhx] at h
  | (k,b)::r,hl,n,a,h=>by
    simp only [yc1] at hl
    simp only [yhx] at h
    cases hc:Nat.beq k n with
    | true =>
      rw [hc] at h
      simp only [cond_true,Option.some.injEq] at h
      have:=Nat.eq_of_beq_eq_true hc
      subst this;subst h
      exact hl.1
    | false =>
      rw [hc] at h
      exact yhy r hl.2 n a (by simpa using h)
theorem yez (l m:List (Nat×AFn)) (hl:yc1 P l) (hm:yc1 P m):yc1 P (l++m):=by
  induction l with
  | nil=>exact hm
  | cons x r ih =>
    obtain ⟨n,a⟩:=x
    simp only [yc1,List.cons_append] at hl ⊢
    exact ⟨hl.1,ih hl.2⟩
def memN:List Nat→Nat→Bool
  | [],_=>false
  | k::r,n=>bif Nat.beq k n then true else memN r n
def u64 (n:Nat):PV:=.int .u64 (n:Int)
def sumC (add sub:Nat) (n:Nat) (as:List PV):Option PV :=
  match as with
  | [.int .u64 a,.int .u64 b,.int .u64 c] =>
    bif Nat.beq n add&&Nat.ble c.toNat 1 then some (.tup [u64 ((a.toNat+b.toNat+c.toNat) % 18446744073709551616),u64 ((a.toNat+b.toNat+c.toNat) / 18446744073709551616)])
    else bif Nat.beq n sub&&Nat.ble c.toNat 1 then some (.tup [u64 ((a.toNat+18446744073709551616-b.toNat-c.toNat) % 18446744073709551616),u64 (bif Nat.ble (b.toNat+c.toNat) a.toNat then 0 else 1)])
    else none
  | _=>none
def yh1:Array Value→Sem Value:=fun args=>do
  let (x, y, b) ← Extern.MathBitsCarry.three "Sub64" args
  pure (Extern.MathBitsCarry.pair ((x+Extern.MathBitsCarry.m64-y-b) % Extern.MathBitsCarry.m64) (if x<y+b then 1 else 0))
theorem yh2 (x y:Int) (b:Nat) (hb:b≤1) (w:World) :
    (yh1 #[.int .u64 x,.int .u64 y,.int .u64 b]).run P w =
      .ok (.tuple #[.int .u64 (((x.toNat+18446744073709551616-y.toNat-b) % 18446744073709551616:Nat):Int),.int .u64 ((if x.toNat<y.toNat+b then 1 else 0:Nat):Int)]) w:=by
  have:b=0∨b=1:=by omega
  rcases this with rfl | rfl <;> rfl
theorem yh3 (x y:Int) (b:Nat) (hb:b≤1) (w:World) :
    (add64Entry #[.int .u64 x,.int .u64 y,.int .u64 b]).run P w =
      .ok (.tuple #[.int .u64 (((x.toNat+y.toNat+b) % 18446744073709551616:Nat):Int),.int .u64 (((x.toNat+y.toNat+b) / 18446744073709551616:Nat):Int)]) w:=by
  have:b=0∨b=1:=by omega
  rcases this with rfl | rfl <;> rfl
theorem yfJ {I:Nat→Prop} {w:World} {a b c:Int} {vs:List Value} (h:VPs I w [.int .u64 a,.int .u64 b,.int .u64 c] vs):vs=[.int .u64 a,.int .u64 b,.int .u64 c]:=by
  simp only [VPs,VP1,RC,List.cons.injEq,and_true] at h
  obtain ⟨v,r,rfl,⟨rfl,_⟩,v2,r2,rfl,⟨rfl,_⟩,v3,r3,rfl,⟨rfl,_⟩,rfl⟩:=h
  rfl
structure IsExtern (P:Program) (f:FuncId) (e:Array Value→Sem Value):Prop where
  h : ∃ fn, P.funcs[f]? = some fn ∧ (fn.name == "runtime.NumGoroutine") = false ∧ fn.body.isNone = true ∧ Extern.findNext fn = none ∧ Extern.find fn = some e
theorem IsExtern.run {f:FuncId} {e:Array Value→Sem Value} (h:IsExtern P f e) (args:Array Value) (w:World):(callFunc f args).run P w=((e args).run P w).andThen fun v w'=>.ok (.value v) w':=by
  obtain ⟨fn,h1,h2,h3,h4,h5⟩:=h.h
  exact run_callFunc_extern h1 h2 h3 h4 h5 args w
theorem yir (n:Nat) (h:n<18446744073709551616):inK .u64 (n:Int):=by
  have h0:IntKind.u64.min=0:=by decide
  have h1:IntKind.u64.max=18446744073709551615:=by decide
  exact ⟨by rw [h0];omega,by rw [h1];omega⟩
theorem yfK {G:Nat→Option PV} {f:FuncId} {as:List PV} {a b:Nat} (ha:a<18446744073709551616) (hb:b<18446744073709551616)
    (h:∀ (I:Nat→Prop) (w:World) (vs:List Value),VPs I w as vs→(callFunc f vs.toArray).run P w=.ok (.value (.tuple #[.int .u64 (a:Int),.int .u64 (b:Int)])) w):ydC P G f as (.tup [u64 a,u64 b]):=by
  intro I w vs _ _ hv
  unfold ycq
  rw [h I w vs hv]
  refine ⟨Bel.refl _ _,?_⟩
  simp only [VP,VPs,VP1,RC,u64]
  exact ⟨_,rfl,_,_,rfl,⟨rfl,yir a ha⟩,_,_,rfl,⟨rfl,yir b hb⟩,rfl⟩
theorem ykQ {G:Nat→Option PV} {add sub:Nat} (ha:IsExtern P add add64Entry) (hs:IsExtern P sub yh1):∀ n as r,sumC add sub n as=some r→ydC P G n as r:=by
  intro n as r h
  unfold sumC at h
  split at h
  · rename_i a b c
    have key:∀ (x y:Int) (I:Nat→Prop) (w:World) (vs:List Value),VPs I w [.int .u64 a,.int .u64 b,.int .u64 c] vs→a.toNat<18446744073709551616∧b.toNat<18446744073709551616∧0≤c:=by
      intro x y I w vs hv
      simp only [VPs,VP1,RC,inK] at hv
      obtain ⟨v,r,-,⟨-,h1⟩,v2,r2,-,⟨-,h2⟩,v3,r3,-,⟨-,h3⟩,-⟩:=hv
      have e1:IntKind.u64.max=18446744073709551615:=by decide
      have e0:IntKind.u64.min=0:=by decide
      rw [e1] at h1 h2;rw [e0] at h3
      exact ⟨by omega,by omega,h3.1⟩
    cases h1:(Nat.beq n add&&Nat.ble c.toNat 1) with
    | true =>
      rw [h1] at h
      simp only [cond_true,Option.some.injEq] at h
      simp only [Bool.and_eq_true] at h1
      have e:=Nat.eq_of_beq_eq_true h1.1
      have hc:=Nat.le_of_ble_eq_true h1.2
      subst e;subst h
      intro I w vs hI hgl hv
      obtain ⟨la,lb,-⟩:=key 0 0 I w vs hv
      refine yfK (Nat.mod_lt _ (by omega)) (by omega) (fun I w vs hv=>?_) I w vs hI hgl hv
      have h0:=(key 0 0 I w vs hv).2.2
      have ec:c=(c.toNat:Int):=by omega
      rw [yfJ hv,ha.run,ec]
      exact congrArg (fun r=>Result.andThen r fun v w'=>Result.ok (Next.value v) w') (yh3 a b c.toNat hc w)
    | false =>
      rw [h1] at h
      simp only [cond_false] at h
      cases h2:(Nat.beq n sub&&Nat.ble c.toNat 1) with
      | true =>
        rw [h2] at h
        simp only [cond_true,Option.some.injEq] at h
        simp only [Bool.and_eq_true] at h2
        have e:=Nat.eq_of_beq_eq_true h2.1
        have hc:=Nat.le_of_ble_eq_true h2.2
        subst e;subst h
        refine yfK (Nat.mod_lt _ (by omega)) (by cases Nat.ble (b.toNat+c.toNat) a.toNat <;> simp) (fun I w vs hv=>?_)
        have:(if a.toNat<b.toNat+c.toNat then 1 else 0:Nat)=(bif Nat.ble (b.toNat+c.toNat) a.toNat then 0 else 1):=by
          cases hh:Nat.ble (b.toNat+c.toNat) a.toNat with
          | true=>have:=Nat.le_of_ble_eq_true hh;simp;omega
          | false =>
            have:¬(b.toNat+c.toNat≤a.toNat):=fun hle=>by rw [Nat.ble_eq_true_of_le hle] at hh;cases hh
            simp;omega
        have h0:=(key 0 0 I w vs hv).2.2
        have ec:c=(c.toNat:Int):=by omega
        rw [← this,yfJ hv,hs.run,ec]
        exact congrArg (fun r=>Result.andThen r fun v w'=>Result.ok (Next.value v) w') (yh2 a b c.toNat hc w)
      | false=>rw [h2] at h;cases h
  · cases h
def ypV (add sub:Nat) (tab:List (Nat×AFn)) (qui:List Nat):Env:={ glob:=fun _=>none,sum:=sumC add sub,fns:=yhx tab,frz:=fun _=>false,qui:=memN qui }
end
theorem ygO {P:Program} {f:FuncId} {fn:Func} {o0 o1 o2 o3:Oper} {i0 i1:Nat} {A:Code} {d0 d1 d2 t:Tmp} {c:Call} {ty ty2:TypeId}
    (hf : P.funcs[f]? = some fn) (hname : fn.name ≠ "runtime.NumGoroutine") (hb : fn.body = some (.seq (.region i0 #[o0, o1] false) (.seq (.region i1 #[o2, o3] false) (.cond (.tmp t) A .skip)))) (hr : fn.results = #[])
    (a0:o0.guard=none) (a1:o0.dst=some d0) (a2:o0.op=.call c) (a3:c.callee=.builtin .recover)
    (b0:o1.guard=none) (b1:o1.dst=some d1) (b2:o1.op=.assign (.tmp d0))
    (c0:o2.guard=none) (c1:o2.dst=some d2) (c2:o2.op=.move (.tmp d1))
    (e0:o3.guard=none) (e1:o3.dst=some t) (e2:o3.op=.binOp .neq ty (.tmp d2) (.const .nilIface) ty2)
    (l0:d0<fn.ntmps) (l1:d1<fn.ntmps) (l2:d2<fn.ntmps) (l3:t<fn.ntmps) (hty:∀ w,(Op.equal ty .nilIface .nilIface).run P w=.ok true w) (args:Array Value) (w:World) :
    (callFunc f args).run P w=.ok (.enter f args) w∧CallsDIn (Fc none) 0 P f args .returning w fun e u w'=>u=.returning∧w'=w∧∃ v,e=.returned v:=by
  refine ⟨by simp [callFunc,hf,hname,hb],callsDIn_of_wpSIn hf hb trivial fun c₀ cs hu=>?_⟩
  have ab:∀ (o:Oper) (w:World) (ρ:Operand→Value),∀ g,o.about P w ρ=some g→(Fc none).fn g:=fun _ _ _ _ _=>trivial
  have hrec:recoverD (c₀::cs)=none:=by simp [recoverD,hu]
  have hsz:fn.ntmps≤(args++Array.replicate (fn.ntmps-args.size) undef).size:=by simp;omega
  generalize args++Array.replicate (fn.ntmps-args.size) undef=tm at hsz
  have ev:∀ (a:Act) (d:Tmp) (v:Value),d<a.tmps.size→(a.put (some d) v).eval (.tmp d)=v:=fun a d v h=>by
    show (a.tmps.setIfInBounds d v).getD d undef=v
    exact ybk _ _ _ h
  have sz:∀ (a:Act) (d:Tmp) (v:Value),(a.put (some d) v).tmps.size=a.tmps.size:=fun a d v=>by
    show (a.tmps.setIfInBounds d v).size=_
    simp
  refine wpSIn_seq (wpSIn_region ?_)
  show wpOpsSIn _ _ _ _ _ [0,1] _ _ _
  rw [wpOpsSIn]
  simp only [show (#[o0,o1]:Array Oper)[0]?=some o0 from rfl]
  refine ⟨ab o0 w _,?_⟩
  rw [if_pos (by simp [Region.wanted,a0])]
  have r0:∀ (ρ:Operand→Value),(execOp ρ o0).run P w=.ok .recover w:=fun ρ=>by
    simp [execOp,a2,resolve,a3,invoke,builtin]
  rw [r0]
  simp only [hrec,a1]
  rw [wpOpsSIn]
  simp only [show (#[o0,o1]:Array Oper)[1]?=some o1 from rfl]
  refine ⟨ab o1 w _,?_⟩
  rw [if_pos (by simp [Region.wanted,b0])]
  have r1:∀ (ρ:Operand→Value),(execOp ρ o1).run P w=.ok (.value (ρ (.tmp d0))) w:=fun ρ=>by
    simp [execOp,b2]
  rw [r1]
  simp only [b1]
  rw [wpOpsSIn,ev _ _ _ (by exact Nat.lt_of_lt_of_le l0 hsz)]
  simp only [Exit.thenS]
  refine wpSIn_seq (wpSIn_region ?_)
  show wpOpsSIn _ _ _ _ _ [0,1] _ _ _
  rw [wpOpsSIn]
  simp only [show (#[o2,o3]:Array Oper)[0]?=some o2 from rfl]
  refine ⟨ab o2 w _,?_⟩
  rw [if_pos (by simp [Region.wanted,c0])]
  have r2:∀ (ρ:Operand→Value),(execOp ρ o2).run P w=.ok (.value (ρ (.tmp d1))) w:=fun ρ=>by
    simp [execOp,c2]
  rw [r2]
  simp only [c1]
  rw [ev _ _ _ (by rw [sz];exact Nat.lt_of_lt_of_le l1 hsz)]
  rw [wpOpsSIn]
  simp only [show (#[o2,o3]:Array Oper)[1]?=some o3 from rfl]
  refine ⟨ab o3 w _,?_⟩
  rw [if_pos (by simp [Region.wanted,e0])]
  have r3:∀ (ρ:Operand→Value),ρ (.tmp d2)=.nilIface→ρ (.const .nilIface)=.nilIface→(execOp ρ o3).run P w=.ok (.value (.bool false)) w:=fun ρ h1 h2=>by
    simp [execOp,e2,h1,h2,eqGuard,binOp,hty w]
  rw [r3 _ (ev _ _ _ (by rw [sz,sz];exact Nat.lt_of_lt_of_le l2 hsz)) rfl]
  simp only [e1]
  rw [wpOpsSIn]
  simp only [Exit.thenS]
  refine wpSIn_cond (t:=false) (ev _ _ _ (by rw [sz,sz,sz];exact Nat.lt_of_lt_of_le l3 hsz)) ?_
  have hres:∀ tm:Array Value,(results fn tm).run P w=.ok (.tuple #[]) w:=fun tm=>by
    rw [yfs]
    simp [hr]
  refine wpSIn_of_wpIn rfl (wpIn_skip ⟨rfl,.returning,?_,_,hres _,rfl,rfl,_,rfl⟩)
  have:({ c₀ with mode:=.returning }:Frame)=c₀:=by rw [← hu]
  rw [this]
end Go.Pf
namespace Go.Pf
open Go
def cbr (b:Bool) (x y:Prop):Prop:=match b with | true=>x | false=>y
def asr (b:Bool) (x:Prop):Prop:=match b with | true=>x | false=>False
theorem ybf {b:Bool} {x y:Prop}:cbr b x y↔(b=true→x)∧(b=false→y):=by cases b <;> simp [cbr]
theorem yac {b:Bool} {x:Prop}:asr b x↔b=true∧x:=by cases b <;> simp [asr]
inductive Cs where
  | i (k:IntKind)
  | b
  | d
  deriving DecidableEq,Inhabited
inductive Sh where
  | raw
  | one (c:Cs)
  | agg (l:List Cs)
  deriving Inhabited
def yeA:PV→Int
  | .int _ n=>n
  | _=>0
def yis:PV→Bool
  | .bool b=>b
  | _=>false
def yjy:PV→List PV
  | .data l=>l
  | _=>[]
def yh4 (r:PV) (j:Nat):PV:=r.cells.getD j .nils
def ygk:Cs→PV→PV
  | .i k,x=>.int k (yeA x)
  | .b,x=>.bool (yis x)
  | .d,x=>.data (yjy x)
def yhz:List Cs→PV→Nat→List PV
  | [],_,_=>[]
  | c::t,r,j=>ygk c (yh4 r j)::yhz t r (j+1)
def expl:Sh→PV→PV
  | .raw,r=>r
  | .one c,r=>ygk c r
  | .agg l,r=>.agg (yhz l r 0)
def ygl:Cs→PV→Bool
  | .i k,.int l _=>decide (k=l)
  | .b,.bool _=>true
  | .d,.data _=>true
  | _,_=>false
def ygm:List Cs→List PV→Bool
  | [],[]=>true
  | c::t,x::r=>ygl c x&&ygm t r
  | _,_=>false
def conf:Sh→PV→Bool
  | .raw,_=>true
  | .one c,x=>ygl c x
  | .agg l,.agg cs=>ygm l cs
  | .agg _,_=>false
theorem yfL:∀ (c:Cs) (x:PV),ygl c x=true→ygk c x=x
  | .i k,x,h=>by cases x <;> simp [ygl] at h;simp [ygk,yeA,h]
  | .b,x,h=>by cases x <;> simp [ygl] at h;simp [ygk,yis]
  | .d,x,h=>by cases x <;> simp [ygl] at h;simp [ygk,yjy]
theorem yfM:∀ (l:List Cs) (pre cs:List PV),ygm l cs=true→yhz l (.agg (pre++cs)) pre.length=cs
  | [],pre,cs,h=>by cases cs <;> simp [ygm] at h;simp [yhz]
  | c::t,pre,cs,h=>by
    cases cs with
    | nil=>simp [ygm] at h
    | cons x r =>
      simp only [ygm,Bool.and_eq_true] at h
      have h1:yh4 (.agg (pre++x::r)) pre.length=x:=by simp [yh4,PV.cells]
      have h2:=yfM t (pre++[x]) r h.2
      simp only [List.append_assoc,List.singleton_append,List.length_append,List.length_singleton] at h2
      simp only [yhz,h1,yfL c x h.1,h2]
theorem ygn:∀ (s:Sh) (r:PV),conf s r=true→expl s r=r
  | .raw,_,_=>rfl
  | .one c,x,h=>yfL c x h
  | .agg l,x,h=>by
    cases x with
    | agg cs=>have:=yfM l [] cs h;simpa [expl] using this
    | _=>simp [conf] at h
structure An where
  at_:Nat
  sh:Sh
  md:Nat
  deriving Inhabited
inductive TCode where
  | skip
  | ops (l:List AOper) (an:List An) (pairs:List (Nat×Nat)) (forget:List Nat)
  | seq (a b:TCode)
  | cond (c:Opd) (a b:TCode)
  | block (id:Nat) (b:TCode)
  | loop (id:Nat) (b:TCode)
  | loopG (id:Nat) (b:TCode)
  | exit (id:Nat)
  | ret
  | bad
  | rangeF (g:Opd) (f np:Nat) (ib:TCode) (ps:List Nat) (as bd:TCode)
  | yret (c:ACode) (pre:List AOper) (d:Nat) (y:Opd) (args:List Opd) (e:Nat) (fgt:List Nat)
  | cut (c:ACode)
  | join (id:Nat) (b:TCode)
  deriving Inhabited
def yak:TCode→ACode
  | .skip=>.skip
  | .ops l _ ps fg=>.ops l ps fg
  | .seq a b=>.seq (yak a) (yak b)
  | .cond c a b=>.cond c (yak a) (yak b)
  | .block id b=>.block id (yak b)
  | .loop _ b=>.loop (yak b)
  | .loopG _ b=>.loopG (yak b)
  | .exit id=>.exit id
  | .ret=>.ret
  | .bad=>.bad
  | .rangeF g _ _ _ ps as bd=>.rangeF g ps (yak as) (yak bd)
  | .yret c pre d y args e fgt=>.yret c pre d y args e fgt
  | .cut c=>c
  | .join _ b=>yak b
structure TFn where
  nparams:Nat
  results:List ARes
  body:TCode
  deriving Inhabited
def TFn.fn (t:TFn):AFn:=⟨t.nparams,t.results,yak t.body⟩
def anOf:List An→Nat→An
  | [],_=>⟨0,.raw,0⟩
  | a::r,i=>bif Nat.beq a.at_ i then a else anOf r i
def yfN:Nat→List PV→Hp→Option (PV×Hp):=fun _ _ _=>none
abbrev OK:=Option FV→Option (Nat×PV)→Hp→Prop
abbrev CK:=PV→List PV→Hp→(PV→Hp→Prop)→Prop
def wv (H:Hp) (K:OK) (p:PV):Prop:=K (some (.v p)) none H
def yhA (H:Hp) (x:PV) (K:PV→Hp→Prop):Prop :=
  match x with
  | .bool b=>K (.bool b) H
  | .int k n=>K (.int k n) H
  | .nils | .emp=>K (.data []) H
  | .data rows=>K (.data rows) H
  | .own id lo len ext _ =>
    (match H[id]? with
     | some b=>asr (decide (b.rows.length=ext)) (asr (decide (lo+len≤ext)) (asr b.pu (K (.data ((b.rows.drop lo).take len)) (H.set id { b with fz:=true }))))
     | none=>False)
  | _=>False
def yit:Hp→List PV→(List PV→Hp→Prop)→Prop
  | H,[],K=>K [] H
  | H,x::r,K=>yhA H x fun y H'=>yit H' r fun ys H''=>K (y::ys) H''
def yeV (H:Hp) (x:PV) (K:PV→Hp→Prop):Prop :=
  match x with
  | .agg cs=>yit H cs fun ys H'=>K (.agg ys) H'
  | x=>yhA H x K
def yhB:Hp→List PV→(List PV→Hp→Prop)→Prop
  | H,[],K=>K [] H
  | H,x::r,K=>yeV H x fun y H'=>yhB H' r fun ys H''=>K (y::ys) H''
def yiu (H:Hp) (x:PV) (K:PV→Prop):Prop :=
  match x with
  | .ptr id ext i off=>(match H[id]? with
    | some b=>asr (decide (b.rows.length=ext)) (match b.rows[i]? with
        | some row=>yeV H row fun q _=>K (.eptr [q] 0 off)
        | none=>False)
    | none=>False)
  | .eptr rows i off=>K (.eptr rows i off)
  | x=>yeV H x fun q _=>K q
def ygP (H:Hp):List PV→(List PV→Prop)→Prop
  | [],K=>K []
  | x::r,K=>yiu H x fun y=>ygP H r fun ys=>K (y::ys)
def yfO (pu:Bool) (H:Hp) (x:PV) (K:PV→Hp→Prop):Prop:=match pu with | true=>yeV H x K | false=>K x H
def ygo (E:Env) (F:Frm) (pu:Bool) (esz:Nat):List PV→Hp→List (Nat×Opd)→(List PV→Hp→Prop)→Prop
  | rows,H,[],K=>K rows H
  | rows,H,(i,x)::r,K =>
    match evV E F x with
    | some p=>yfO pu H p fun q H'=>asr (Nat.beq q.cells.length esz&&Nat.blt i rows.length&&yaE q.cells) (ygo E F pu esz (rows.set i q) H' r K)
    | none=>False
def WBin (op:BinOp) (k k':IntKind) (a b:Int) (K:PV→Prop):Prop :=
  match op with
  | .quo=>asr (decide (k=k')) (asr (!decide (b=0)) (K (.int k (k.wrap (a.tdiv b)))))
  | .rem=>asr (decide (k=k')) (asr (!decide (b=0)) (K (.int k (a.tmod b))))
  | .shl=>asr (!decide (b<0)) (K (.int k (k.wrap (a*2 ^ (min b.toNat k.bits)))))
  | .shr=>asr (!decide (b<0)) (K (.int k (a.fdiv (2 ^ (min b.toNat k.bits)))))
  | op=>asr (decide (k=k')) (match binI op k a b with | some r=>K r | none=>False)
def ydf (n:Nat) (j:Int) (K:Nat→Prop):Nat→Prop
  | 0=>False
  | m+1=>cbr (decide (j=((n-(m+1):Nat):Int))) (K (n-(m+1))) (ydf n j K m)
def yhC:List PV→Bool
  | []=>true
  | .int .u8 _::r=>yhC r
  | _=>false
def WTab (agg:Bool) (n esz:Nat) (cs:List PV) (j:Int) (K:PV→Prop):Prop :=
  asr (!agg&&(Nat.beq esz 1&&(Nat.beq n cs.length&&yhC cs))) (asr (decide (0≤j)) (asr (decide (j<(n:Int))) (K (.int .u8 (yeA (cs.getD j.toNat .nils))))))
def yjz (H:Hp) (x:PV) (K:List PV→Prop):Prop :=
  match x with
  | .nils | .emp=>K []
  | .data rows=>K rows
  | .own id lo len ext _ =>
    (match H[id]? with
     | some b=>asr (decide (b.rows.length=ext)) (asr (decide (lo+len≤ext)) (K ((b.rows.drop lo).take len)))
     | none=>False)
  | _=>False
def yeB (H:Hp) (pu:Bool) (esz bytes:Nat) (rows:List PV) (K:PV→Hp→Prop):Prop :=
  asr (decide ((rows.length+64)*(bytes+1)≤room)) (K (.own H.length 0 rows.length rows.length none) (H++[⟨false,pu,esz,rows⟩]))
def WApp (md:Nat) (H:Hp) (pu:Bool) (esz bytes:Nat) (s:PV) (ys:List PV) (K:PV→Hp→Prop):Prop :=
  match s with
  | .nils=>cbr ys.isEmpty (K .nils H) (yeB H pu esz bytes ys K)
  | .emp=>cbr ys.isEmpty (K .emp H) (yeB H pu esz bytes ys K)
  | .own id lo len ext cap =>
    (match H[id]? with
     | some b =>
       asr (decide (b.rows.length=ext)) (asr (decide (b.pu=pu)&&decide (b.esz=esz)) (asr (decide (lo+len≤ext))
         (cbr ys.isEmpty (K (.own id lo len ext cap) H)
           (match cap with
            | some c =>
              let W1:=asr (!b.fz) (K (.own id lo (len+ys.length) ext cap) (H.set id { b with rows:=b.rows.take (lo+len)++(ys++b.rows.drop (lo+len+ys.length)) }))
              let W2:=yeB H pu esz bytes ((b.rows.drop lo).take len++ys) K
              (match md with
               | 9=>cbr (decide (len+ys.length≤c)) W1 W2
               | 8=>cbr (decide (len+ys.length≤c)) W1 W2
               | 2=>asr (!decide (len+ys.length≤c)) W2
               | _=>asr (decide (len+ys.length≤c)) W1)
            | none =>
              let W1:=K (.own id lo (len+ys.length) ext none) (H.set id { b with rows:=b.rows.take (lo+len)++(ys++b.rows.drop (lo+len+ys.length)) })
              let W3:=asr (decide (lo=0)) (asr (decide (len=ext)) (asr (decide ((ext+ys.length+64)*(bytes+1)≤room))
                (K (.own id 0 (b.rows++ys).length (b.rows++ys).length none) (H.set id { b with rows:=b.rows++ys }))))
              let W4:=asr (decide (lo=0)) (asr (decide (len≤ext)) (asr (decide ((len+ys.length+64)*(bytes+1)≤room))
                (K (.own id 0 (len+ys.length) (len+ys.length) none) (H.set id { b with rows:=b.rows.take len++ys }))))
              asr (!b.fz) (match md with
               | 9=>cbr (decide (lo+len+ys.length≤ext)) W1 W3
               | 8=>cbr (decide (lo+len+ys.length≤ext)) W1 W4
               | 1=>asr (decide (lo+len+ys.length≤ext)) W1
               | _=>asr (!decide (lo+len+ys.length≤ext)) W3)))))
     | none=>False)
  | _=>False
def yh5 (H:Hp) (esz:Nat) (lo hi mx:Option Int) (x:PV) (K:PV→Prop):Prop :=
  match x with
  | .nils=>asr (decide (lo.getD 0=0)&&(decide (hi.getD 0=0)&&decide (mx.getD 0=0))) (K .nils)
  | .emp=>asr (decide (lo.getD 0=0)&&(decide (hi.getD 0=0)&&decide (mx.getD 0=0))) (K .emp)
  | .data rows =>
    let h:=hi.getD rows.length
    let l:=lo.getD 0
    (match mx with
     | none=>asr (decide (0≤l)) (asr (decide (l≤h)) (asr (decide (h≤rows.length)) (asr (decide (l=0)||ybS esz rows) (K (.data ((rows.take h.toNat).drop l.toNat))))))
     | some m=>asr (decide (0≤l)) (asr (decide (l≤h)) (asr (decide (h≤m)) (asr (decide (m≤rows.length)) (asr (decide (l=0)||ybS esz rows)
         (cbr (decide (l=m)) (K .emp) (K (.data ((rows.take h.toNat).drop l.toNat)))))))))
  | .own id lo0 len ext cap =>
    let h:=hi.getD len
    let l:=lo.getD 0
    (match H[id]? with
     | some b=>asr (b.esz == esz)
       (match mx with
        | none=>asr (decide (0≤l)) (asr (decide (l≤h)) (asr (decide (h≤len)||decide (h≤ye9 len cap)) (K (.own id (lo0+l.toNat) (h-l).toNat ext (cap.map fun c=>c-l.toNat)))))
        | some m=>asr (decide (0≤l)) (asr (decide (l≤h)) (asr (decide (h≤m)) (asr (decide (m≤len)||decide (m≤ye9 len cap)) (K (.own id (lo0+l.toNat) (h-l).toNat ext (some (m-l).toNat)))))))
     | none=>False)
  | _=>False
def WRow (sh:Sh) (rows:List PV) (i:Nat) (K:PV→Prop):Prop :=
  match sh with
  | .raw=>(match rows[i]? with | some r=>K r | none=>False)
  | sh=>asr (decide (i<rows.length)) (asr (conf sh (rows.getD i .nils)) (K (expl sh (rows.getD i .nils))))
def yjA:List Cs→Bool
  | []=>true
  | .i _::r=>yjA r
  | _=>false
def shL (sh:Sh) (esz sz:Nat):Sh :=
  match sh with
  | .agg l=>bif !(Nat.beq esz sz)&&(Nat.beq l.length sz&&yjA l) then .raw else .agg l
  | x=>x
def yjB:List Cs→Bool
  | []=>false
  | .d::_=>true
  | _::r=>yjB r
def shW (sh:Sh) (pu:Bool):Sh :=
  match sh with
  | .agg l=>bif !pu&&yjB l then .raw else .agg l
  | x=>x
def WOp (E:Env) (callK:CK) (a:An) (F:Frm) (H:Hp) (o:AOp) (K:OK):Prop :=
  match o with
  | .pick c x y =>
    (match evV E F c with
     | some (.bool t)=>cbr t (match evV E F x with | some p=>wv H K p | none=>False) (match evV E F y with | some p=>wv H K p | none=>False)
     | _=>False)
  | .bin op x y =>
    (match evV E F x,evV E F y with
     | some (.int k p),some (.int k' q)=>WBin op k k' p q (wv H K)
     | _,_=>False)
  | .load agg sz x =>
    (match ev E F x with
     | some (.v (.ptr id ext i off)) =>
       (match H[id]? with
        | some b=>asr (decide (b.rows.length=ext)) (WRow (shW (shL a.sh b.esz sz) b.pu) b.rows i fun row=>match ybh agg sz row off with | some p=>wv H K p | none=>False)
        | none=>False)
     | _=>(match yab E yfN F H (.load agg sz x) with | some ⟨x,bx,H'⟩=>K x bx H' | none=>False))
  | .store sz x y =>
    (match ev E F x with
     | some (.v (.ptr id ext i off)) =>
       (match evV E F y with
        | some p =>
          (match H[id]? with
           | some b0 =>
             yfO b0.pu H p fun q H' =>
                (match H'[id]? with
                 | some b=>asr (decide (b.rows.length=ext)) (asr (!b.fz) (WRow (shW a.sh b.pu) b.rows i fun row=>match ybZ row off sz q with
                     | some row'=>K none none (H'.set id { b with rows:=b.rows.set i row' })
                     | none=>False))
                 | none=>False)
           | none=>False)
        | none=>False)
     | _=>(match yab E yfN F H (.store sz x y) with | some ⟨x,bx,H'⟩=>K x bx H' | none=>False))
  | .iad esz x i =>
    (match evV E F x,ya5 E F i with
     | some (.data rows),some n =>
       asr (decide (0≤n)) (asr (decide (n<rows.length)) (asr (conf a.sh (rows.getD n.toNat .nils)) (asr (decide ((expl a.sh (rows.getD n.toNat .nils)).cells.length=esz)) (wv H K (.eptr [expl a.sh (rows.getD n.toNat .nils)] 0 0)))))
     | some (.own id lo len ext _),some n =>
       (match H[id]? with
        | some b=>asr (decide (0≤n)) (asr (decide (n<len)) (asr (decide (b.esz=esz)) (wv H K (.ptr id ext (lo+n.toNat) 0))))
        | none=>False)
     | some (.sub id ext r off m e),some j=>asr (Nat.beq e esz) (ydf m j (fun k=>wv H K (.ptr id ext r (off+k*esz))) m)
     | _,_=>False)
  | .iadA n esz x i =>
    (match ev E F x,ya5 E F i with
     | some (.bp s o),some j=>ydf n j (fun k=>K (some (.bp s (o+k*esz))) none H) n
     | some (.v (.ptr id e r o)),some j=>ydf n j (fun k=>wv H K (.ptr id e r (o+k*esz))) n
     | some (.v (.eptr rows r o)),some j=>ydf n j (fun k=>wv H K (.eptr rows r (o+k*esz))) n
     | _,_=>False)
  | .idx agg n esz x i =>
    (match evV E F x,ya5 E F i with
     | some (.agg cs),some j=>(match x with
       | .c _=>WTab agg n esz cs j (wv H K)
       | _=>ydf n j (fun k=>match ybh agg esz (.agg cs) (k*esz) with | some p=>wv H K p | none=>False) n)
     | _,_=>False)
  | .slc esz x lo hi mx =>
    (match evV E F x,evO E F lo,evO E F hi,evO E F mx with
     | some p,some l,some h,some m=>(match (m.isSome&&h.isNone) with | true=>False | false=>yh5 H esz l h m p (wv H K))
     | _,_,_,_=>False)
  | .mkSl pu esz bytes z l c =>
    (match ya5 E F l,ya5 E F c with
     | some l,some c=>asr (decide (0≤l)) (asr (decide (l≤c)) (asr (decide ((c.toNat+64)*(bytes+1)≤room))
         (K (some (.v (.own H.length 0 l.toNat c.toNat (some c.toNat)))) none (H++[⟨false,pu,esz,List.replicate c.toNat z⟩]))))
     | _,_=>False)
  | .app pu esz bytes s x =>
    (match evV E F s,evV E F x with
     | some s,some x=>yjz H x fun ys=>asr (ybS esz ys) (asr (yeG H pu x) (WApp a.md H pu esz bytes s ys fun r H'=>K (some (.v r)) none H'))
     | _,_=>False)
  | .appZ pu esz bytes z s n =>
    (match evV E F s,ya5 E F n with
     | some .nils,some k=>asr (decide (0≤k)) (cbr (decide (k.toNat=0)) (wv H K .nils) (yeB H pu esz bytes (List.replicate k.toNat z) fun r H'=>K (some (.v r)) none H'))
     | _,_=>False)
  | .eqN neg x =>
    (match evV E F x with
     | some .nils=>wv H K (.bool (bif neg then false else true))
     | some (.mt b)=>wv H K (.bool (bif neg then !b else b))
     | some (.data rows)=>asr (!rows.isEmpty) (wv H K (.bool neg))
     | some (.own _ _ _ _ _)=>wv H K (.bool neg)
     | _=>False)
  | .clr pu esz z x =>
    (match evV E F x with
     | some .nils=>wv H K (.tup [])
     | some .emp=>wv H K (.tup [])
     | some (.mt _)=>wv H K (.tup [])
     | some (.own id lo len ext _)=>(match H[id]? with
       | some b=>cbr (decide (len=0)) (wv H K (.tup [])) (asr (decide (b.rows.length=ext)) (asr (decide (lo+len≤ext)) (asr (!b.fz) (asr (b.pu == pu) (asr (Nat.beq b.esz esz) (K (some (.v (.tup []))) none (H.set id { b with rows:=b.rows.take lo++(List.replicate len z++b.rows.drop (lo+len)) })))))))
       | none=>False)
     | _=>False)
  | .boxH pu esz x =>
    (match evV E F x with
     | some p=>yfO pu H p fun q H'=>asr (Nat.beq q.cells.length esz&&yaE q.cells) (K (some (.v (.ptr H'.length 1 0 0))) none (H'++[⟨false,pu,esz,[q]⟩]))
     | none=>False)
  | .buildSl pu esz z len parts =>
    (match len with
     | 0=>wv H K .emp
     | len+1=>ygo E F pu esz (List.replicate (len+1) z) H parts fun rows H'=>K (some (.v (.own H'.length 0 (len+1) (len+1) (some (len+1))))) none (H'++[⟨false,pu,esz,rows⟩]))
  | .buildN pu esz z len parts =>
    (match len with
     | 0=>wv H K .emp
     | len+1=>ygo E F pu esz (List.replicate (len+1) z) H parts fun rows H'=>K (some (.v (.own H'.length 0 (len+1) (len+1) none))) none (H'++[⟨false,pu,esz,rows⟩]))
  | .buildD esz z len parts =>
    (match len with
     | 0=>wv H K .emp
     | len+1=>ygo E F true esz (List.replicate (len+1) z) H parts fun rows H'=>K (some (.v (.data rows))) none H')
  | .mvD x =>
    (match evV E F x with
     | some p=>yhA H p fun q H'=>(match q with | .data rows=>K (some (.v (.data rows))) none H' | _=>False)
     | none=>False)
  | .call f args =>
    (match evV E F f,evs E F args with
     | some g,some vs=>callK g vs H fun r H'=>K (some (.v r)) none H'
     | _,_=>False)
  | o=>(match yab E yfN F H o with | some ⟨x,bx,H'⟩=>K x bx H' | none=>False)
def frep:Frm→Nat→FV→Frm
  | [],_,_=>[]
  | (k,y)::r,s,x=>bif Nat.beq k s then (k,x)::r else (k,y)::frep r s x
def ygQ (F:Frm) (g:Option (Nat×Bool)) (yes no:Frm→Prop):Prop :=
  match g with
  | none=>yes F
  | some (s,want)=>(match fget F s with
    | some (.v (.bool b))=>(match want with
      | true=>cbr b (yes (frep F s (.v (.bool true)))) (no (frep F s (.v (.bool false))))
      | false=>cbr b (no (frep F s (.v (.bool true)))) (yes (frep F s (.v (.bool false)))))
    | some (.v (.tup []))=>no F
    | _=>False)
def fref (F:Frm) (c:Opd) (b:Bool):Frm :=
  match c with
  | .t s=>frep F s (.v (.bool b))
  | _=>F
def ydt (F:Frm):Option Nat→Frm
  | some d=>fset F d (.v (.tup []))
  | none=>F
def frcP (p:PV) (K:PV→Prop):Prop :=
  match p with
  | .bool b=>K (.bool b)
  | .int k n=>K (.int k n)
  | .agg cs=>K (.agg cs)
  | .data r=>K (.data r)
  | .own a b c d e=>K (.own a b c d e)
  | .ptr a b c d=>K (.ptr a b c d)
  | .sub a b c d e f=>K (.sub a b c d e f)
  | p=>K p
def frcL:List PV→(List PV→Prop)→Prop
  | [],K=>K []
  | x::r,K=>frcP x fun x=>frcL r fun r=>K (x::r)
def frcA (p:PV) (K:PV→Prop):Prop :=
  match p with
  | .agg cs=>frcL cs fun cs=>K (.agg cs)
  | .tup cs=>frcL cs fun cs=>K (.tup cs)
  | p=>frcP p K
def frcV (x:FV) (K:FV→Prop):Prop :=
  match x with
  | .v p=>frcA p fun p=>K (.v p)
  | .box p=>frcA p fun p=>K (.box p)
  | .bp s o=>K (.bp s o)
def frcF:Frm→(Frm→Prop)→Prop
  | [],K=>K []
  | (k,x)::r,K=>frcV x fun x=>frcF r fun r=>K ((k,x)::r)
def frcB (b:Bool) (K:Bool→Prop):Prop:=match b with | true=>K true | false=>K false
def frcH:Hp→(Hp→Prop)→Prop
  | [],K=>K []
  | ⟨fz,pu,esz,rows⟩::r,K=>frcB fz fun fz=>frcB pu fun pu=>frcH r fun r=>K (⟨fz,pu,esz,rows⟩::r)
theorem yiv (p:PV) (K:PV→Prop):frcP p K=K p:=by cases p <;> rfl
theorem yiw:∀ (l:List PV) (K:List PV→Prop),frcL l K=K l
  | [],_=>rfl
  | x::r,K=>by simp only [frcL,yiv,yiw r]
theorem ykR (p:PV) (K:PV→Prop):frcA p K=K p:=by cases p <;> simp only [frcA,yiw,yiv]
theorem ykS (x:FV) (K:FV→Prop):frcV x K=K x:=by cases x <;> simp only [frcV,ykR]
theorem yix:∀ (F:Frm) (K:Frm→Prop),frcF F K=K F
  | [],_=>rfl
  | (k,x)::r,K=>by simp only [frcF,ykS,yix r]
theorem ykT (b:Bool) (K:Bool→Prop):frcB b K=K b:=by cases b <;> rfl
theorem yiy:∀ (H:Hp) (K:Hp→Prop),frcH H K=K H
  | [],_=>rfl
  | ⟨fz,pu,esz,rows⟩::r,K=>by simp only [frcH,ykT,yiy r]
def frc (F:Frm) (H:Hp) (K:Frm→Hp→Prop):Prop:=frcF F fun F=>frcH H fun H=>K F H
theorem yfP (F:Frm) (H:Hp) (K:Frm→Hp→Prop):frc F H K=K F H:=by simp only [frc,yix,yiy]
def WOps (E:Env) (callK:CK) (an:List An):List AOper→Nat→Frm→Hp→(Frm→Hp→Prop)→Prop
  | [],_,F,H,K=>K F H
  | o::r,i,F,H,K =>
    ygQ F o.guard
      (fun F=>WOp E callK (anOf an i) F H o.op fun x bx H'=>match yaY (ybt F bx) o.dst x with
        | none=>False
        | some F'=>frc F' H' fun F' H'=>WOps E callK an r (i+1) F' H' K)
      (fun F=>WOps E callK an r (i+1) (ydt F o.dst) H K)
def yjC (E:Env) (F:Frm) (f:Opd) (as:List Opd):Option (List Nat) :=
  match evV E F f,evs E F as with
  | some g,some vs=>(match ydw E g vs with
    | some x=>some (x.id::idsA (x.all.set x.j (.int .i64 0)))
    | none=>(match g with
      | .fn (.func n) first captured=>bif E.qui n then some (idsA (first++vs++captured)) else none
      | _=>none))
  | _,_=>none
def yeW (E:Env) (F:Frm) (H:Hp) (o:AOp):FP :=
  match o with
  | .call f as=>bif yaW E F f as then fpOp E F H (.call f as) else (match yjC E F f as with | some l=>⟨f.slots++yc3 as,[],List.range H.length,l,true,false⟩ | none=>fpOp E F H (.call f as))
  | o=>fpOp E F H o
def yiz (E:Env) (F:Frm) (H:Hp) (o:AOper):FP :=
  let p:=yeW E F H o.op;⟨yem o.guard++p.rd,o.dst.toList++p.wr,p.hr,p.hw,p.push,p.all⟩
def fpNo (o:AOper):FP:=⟨yem o.guard,o.dst.toList,[],[],false,false⟩
def WFps (E:Env) (callK:CK) (an:List An) (F0:Frm) (l0:List AOper) (pairs:List (Nat×Nat)):List AOper→Nat→Frm→Hp→List FP→(Frm→Hp→Prop)→Prop
  | [],_,F,H,ps,K=>asr (yb7 ps.reverse pairs&&ydh F0 l0 l0) (K F H)
  | o::r,i,F,H,ps,K =>
    ygQ F o.guard
      (fun F=>WOp E callK (anOf an i) F H o.op fun x bx H'=>match ybB (ybt F bx) o.dst x with
        | none=>False
        | some F'=>frc F' H' fun F' H'=>WFps E callK an F0 l0 pairs r (i+1) F' H' (yiz E F H o::ps) K)
      (fun F=>WFps E callK an F0 l0 pairs r (i+1) (ydt F o.dst) H (fpNo o::ps) K)
abbrev LP:=Nat→Frm→Frm→Hp→(Ex→Frm→Hp→Prop)→Prop
abbrev YK:=List PV→Hp→(Option Nat→Hp→Prop)→Prop
def noYK:YK:=fun _ _ _=>False
def WClr (K:Nat) (H:Hp) (Q:Hp→Prop):Prop:=asr (noYH (noY K) (fun _=>true) H) (Q H)
def WC (E:Env) (callK:CK) (lp:LP):Frm→YK→TCode→Frm→Hp→(Ex→Frm→Hp→Prop)→Prop
  | _,_,.skip,F,H,Q=>Q .norm F H
  | _,_,.ops l an [] fg,F,H,Q=>WOps E callK an l 0 F H fun F' H'=>frc (fdels F' fg) H' fun F' H'=>Q .norm F' H'
  | _,_,.ops l an (p::ps) fg,F,H,Q=>WFps E callK an (ycH F l) l (p::ps) l 0 (ycH F l) H [] fun F' H'=>frc (fdels F' fg) H' fun F' H'=>Q .norm F' H'
  | G,yk,.seq a b,F,H,Q=>WC E callK lp G yk a F H fun x F' H'=>match x with
    | .norm=>WC E callK lp G yk b F' H' Q
    | .exit i=>Q (.exit i) F' H'
    | .ret=>Q .ret F' H'
    | .brk k i=>Q (.brk k i) F' H'
  | G,yk,.cond c a b,F,H,Q=>(match evV E F c with
    | some (.bool t)=>cbr t (WC E callK lp G yk a (fref F c true) H Q) (WC E callK lp G yk b (fref F c false) H Q)
    | _=>False)
  | G,yk,.block id b,F,H,Q=>WC E callK lp G yk b F H fun x F' H'=>match x with
    | .norm=>Q .norm F' H'
    | .exit i=>(bif Nat.beq i id then Q .norm F' H' else Q (.exit i) F' H')
    | .ret=>Q .ret F' H'
    | .brk k i=>Q (.brk k i) F' H'
  | G,_,.loop id _,F,H,Q=>lp id G F H Q
  | G,_,.loopG id _,F,H,Q=>lp id G F H Q
  | G,_,.join id _,F,H,Q=>lp id G F H Q
  | _,_,.exit id,F,H,Q=>Q (.exit id) F H
  | _,_,.ret,F,H,Q=>Q .ret F H
  | _,_,.bad,_,_,_=>False
  | _,_,.cut _,_,_,_=>False
  | _,_,.rangeF g f np ib ps as bd,F,H,Q=>(match evV E F g with
    | some (.fn (.func n) first cap)=>asr (Nat.beq n f&&decide ((first++[PV.fn (.yield E.yn) [] []]++cap).length=np))
        (WC E callK lp (ya1 F) (fun vs H K=>match ycY (ya1 F) ps vs with
            | some F1=>WC E callK lp [] noYK as F1 H fun x F2 H2=>match x with
              | .norm=>WC E callK lp [] noYK bd F2 H2 fun x _ H3=>match x with
                | .norm=>K none H3
                | .exit i=>K (some i) H3
                | .ret | .brk _ _=>False
              | .exit _ | .ret | .brk _ _=>False
            | none=>False) ib (ybq 0 (first++[PV.fn (.yield E.yn) [] []]++cap)) H fun x _ H'=>match x with
          | .norm | .ret=>WClr E.yn H' fun H'=>Q .norm F H'
          | .brk k i=>asr (Nat.beq k E.yn) (WClr E.yn H' fun H'=>Q (.exit i) F H')
          | .exit _=>False)
    | _=>False)
  | _,yk,.yret _ pre d y args e fgt,F,H,Q=>WOps E callK [] pre 0 F H fun F1 H1=>(match evV E F1 y,evs E F1 args with
    | some (.fn (.yield k) [] []),some vs=>asr (Nat.beq k E.yn) (yk vs H1 fun r H2=>match r with
        | none=>frc (fdels (fset (fset F1 d (.v (.bool true))) e (.v (.bool false))) fgt) H2 fun F' H'=>Q .norm F' H'
        | some i=>Q (.brk k i) (fset (fset F1 d (.v (.bool false))) e (.v (.bool true))) H2)
    | _,_=>False)
def WFn (E:Env) (callK:CK) (lp:LP) (fn:TFn) (args:List PV) (H:Hp) (K:PV→Hp→Prop):Prop :=
  asr (decide (args.length=fn.nparams)) (WC E callK lp [] noYK fn.body (ybq 0 args) H fun x F' H'=>match x with
    | .exit _ | .brk _ _=>False
    | .norm | .ret=>(match ycJ F' H' fn.results with | some ps=>K (ycK ps) H' | none=>False))
structure SE where
  E:Env
  sumK:Nat→Option (List PV→(PV→Prop)→Prop)
  inl:Nat→Option TFn
  lp:LP
  sumL:Nat→Option (List PV→HB→(PV→List PV→Prop)→Prop)
def WLoc (wp:List PV→HB→(PV→List PV→Prop)→Prop) (x:LocC) (H:Hp) (K:PV→Hp→Prop):Prop :=
  yhB H (x.all.set x.j (.int .i64 0)) fun as H'=>match H'[x.id]? with
    | some b=>asr (!b.fz&&b.pu) (wp (as.set x.j x.y) b fun q rows=>K q (H'.set x.id { b with rows:=rows }))
    | none=>False
def yiA (S:SE):Nat→CK
  | 0,_,_,_,_=>False
  | d+1,f,args,H,K =>
    match f with
    | .fn (.func n) first captured =>
      (match ydw S.E f args with
      | some x=>(match S.sumL x.n with | some wp=>WLoc wp x H K | none=>False)
      | none =>
      match S.sumK n with
       | some wp=>(bif S.E.rb n then ygP (iceH H) (first++args++captured) fun as=>wp as fun r=>asr r.scalar (K r H)
         else yhB H (first++args++captured) fun as H'=>wp as fun r=>K r (bif r.scalar then H else H'))
       | none=>(match S.inl n with
         | some fn=>(bif S.E.rb n then False else WFn S.E (yiA S d) S.lp fn (first++args++captured) H K)
         | none=>(match S.E.eff n (first++args++captured) H with
           | some (c,t,x,y)=>asr c (cbr t (K x.1 x.2) (K y.1 y.2))
           | none=>False)))
    | _=>False
end Go.Pf
namespace Go.Pf
open Go
abbrev EP:=Nat→Env→Prop
def Like (E e:Env):Prop:=e={ E with yn:=e.yn,ctx:=e.ctx,yl:=e.yl }
def Uni (E:Env):EP:=fun _ e=>Like E e
def Solo (E:Env):EP:=fun _ e=>e=E
def Ats (E:Env):EP:=fun _ e=>e=E.ats (E.yn+1)
def Sub (P:EP) (E:Env):Prop:=∀ n e,P n e→Like E e
theorem Like.refl (E:Env):Like E E:=rfl
theorem Sub.ats (E:Env):Sub (Ats E) E:=fun _ e h=>by cases h;rfl
def hnd (E:Env) (G:Frm) (ps:List Nat) (as bd:ACode) (n:Nat):Nat→List PV→Hp→Option (Option Nat×Hp):=fun y vs H=>(match ycY G ps vs with
                | some F1=>(match exec (E.ats y) n as F1 H with
                  | some (.norm,F2,H2)=>(match exec (E.ats y) n bd F2 H2 with
                    | some (.norm,_,H3)=>some (none,H3)
                    | some (.exit i,_,H3)=>some (some i,H3)
                    | _=>none)
                  | _=>none)
                | none=>none)
def Rng (E:Env) (G:Frm) (ps:List Nat) (as bd:ACode):EP:=fun n e=>e=E.push ⟨G,ps,as,bd⟩ (hnd E G ps as bd n)
theorem Sub.rng (E:Env) (G:Frm) (ps:List Nat) (as bd:ACode):Sub (Rng E G ps as bd) E:=fun _ e h=>by cases h;rfl
def Good (P:EP) (callK:CK):Prop :=
  ∀ f args H K,callK f args H K→∃ r H',K r H'∧∃ m0,∀ n e m,m0≤n→P n e→m0≤m→ycl e (yas e m) f args H=some (r,H')
theorem Good.sub {E:Env} {P:EP} {callK:CK} (h:Good (Uni E) callK) (hP:Sub P E):Good P callK:=fun f args H K hk=>by
  obtain ⟨r,H',k,m0,hm⟩:=h f args H K hk
  exact ⟨r,H',k,m0,fun n e m h1 h2 h3=>hm n e m h1 (hP n e h2) h3⟩
section
variable {E:Env} {y:Nat} {cx:Nat→Option LCtx} {yl:Nat→Nat→List PV→Hp→Option (Option Nat×Hp)}
theorem ye7 (F:Frm) (x:Opd):ev { E with yn:=y,ctx:=cx,yl:=yl } F x=ev E F x:=by cases x <;> rfl
theorem ybm (F:Frm) (x:Opd):evV { E with yn:=y,ctx:=cx,yl:=yl } F x=evV E F x:=by simp only [evV,ye7]
theorem ycF (F:Frm):∀ l:List Opd,evs { E with yn:=y,ctx:=cx,yl:=yl } F l=evs E F l
  | []=>rfl
  | x::r=>by simp only [evs,ybm,ycF F r]
theorem yfQ (F:Frm) (x:Opd):ya5 { E with yn:=y,ctx:=cx,yl:=yl } F x=ya5 E F x:=by simp only [ya5,ybm]
theorem yjD (F:Frm) (x:Option Opd):evO { E with yn:=y,ctx:=cx,yl:=yl } F x=evO E F x:=by cases x <;> simp only [evO,yfQ]
theorem yfR (F:Frm):∀ (l:List (Nat×Nat×Opd)) (cs:List PV),yck { E with yn:=y,ctx:=cx,yl:=yl } F cs l=yck E F cs l
  | [],_=>rfl
  | (_,_,x)::r,cs=>by simp only [yck,ybm,yfR F r]
theorem yfS (F:Frm) (pu:Bool) (esz:Nat):∀ (l:List (Nat×Opd)) (rows:List PV) (H:Hp),ybs { E with yn:=y,ctx:=cx,yl:=yl } F pu esz rows H l=ybs E F pu esz rows H l
  | [],_,_=>rfl
  | (_,x)::r,rows,H=>by simp only [ybs,ybm,yfS F pu esz r]
theorem yeX (F:Frm) (x:Opd):yaM { E with yn:=y,ctx:=cx,yl:=yl } F x=yaM E F x:=by simp only [yaM,ye7]
theorem yh6 (F:Frm) (x:Opd):ycX { E with yn:=y,ctx:=cx,yl:=yl } F x=ycX E F x:=by simp only [ycX,ye7]
theorem ydI (F:Frm):∀ l:List (Nat×Opd),yaC { E with yn:=y,ctx:=cx,yl:=yl } F l=yaC E F l
  | []=>rfl
  | (_,x)::r=>by simp only [yaC,yeX,ydI F r]
theorem yfT (F:Frm) (f:Opd) (as:List Opd):yaW { E with yn:=y,ctx:=cx,yl:=yl } F f as=yaW E F f as:=by simp only [yaW,ybm,ycF]
theorem yiZ (F:Frm) (H:Hp) (o:AOp):fpOp { E with yn:=y,ctx:=cx,yl:=yl } F H o=fpOp E F H o:=by
  cases o <;> simp only [fpOp,yeX,yh6,ydI,yfT]
theorem yh7 {F:Frm} {H:Hp} {o:AOp} (h:ybF o=false) (c1 c2:Nat→List PV→Hp→Option (PV×Hp)):yab { E with yn:=y,ctx:=cx,yl:=yl } c1 F H o=yab E c2 F H o:=by
  cases o <;> first | (simp [ybF] at h;done) | simp only [yab,ye7,ybm,ycF,yfQ,yjD,yfR,yfS]
end
def ygR (E:Env) (F:Frm) (H:Hp) (o:AOp) (K:OK):Prop :=
  ∃ out:Out,K out.x out.bx out.h∧∃ m0,∀ m,m0≤m→yab E (yas E m) F H o=some out
def ynx (P:EP) (F:Frm) (H:Hp) (o:AOp) (K:OK):Prop :=
  ∃ out:Out,K out.x out.bx out.h∧∃ m0,∀ n e m,m0≤n→P n e→m0≤m→yab e (yas e m) F H o=some out
section
variable {E:Env} {callK:CK} {F:Frm} {H:Hp} {K:OK}
theorem yhD {o:AOp} (h:ybF o=false) (c1 c2:Nat→List PV→Hp→Option (PV×Hp)):yab E c1 F H o=yab E c2 F H o:=by
  cases o <;> first | rfl | simp [ybF] at h
theorem ygR.of {o:AOp} (_hc:ybF o=false) {out:Out} (hk:K out.x out.bx out.h) (h:∀ call,yab E call F H o=some out):ygR E F H o K:=⟨out,hk,0,fun _ _=>h _⟩
theorem yfU {o:AOp} (hc:ybF o=false) (h:match yab E yfN F H o with | some ⟨x,bx,H'⟩=>K x bx H' | none=>False):ygR E F H o K:=by
  split at h
  · rename_i x bx H' he
    exact ⟨⟨x,bx,H'⟩,h,0,fun m _=>by rw [yhD hc (yas E m) yfN,he]⟩
  · exact h.elim
theorem yfV {H:Hp} {x:PV} {K:PV→Hp→Prop} (h:yhA H x K):∃ y H',K y H'∧ybn H x=some (y,H'):=by
  unfold yhA at h
  split at h
  · exact ⟨_,_,h,rfl⟩
  · exact ⟨_,_,h,rfl⟩
  · exact ⟨_,_,h,rfl⟩
  · exact ⟨_,_,h,rfl⟩
  · exact ⟨_,_,h,rfl⟩
  · split at h
    · rename_i b hb
      obtain ⟨h1,h⟩:=yac.1 h
      obtain ⟨h2,h⟩:=yac.1 h
      obtain ⟨h3,h⟩:=yac.1 h
      exact ⟨_,_,h,by simp only [ybn,hb];rw [if_pos ⟨by simpa using h1,by simpa using h2,h3⟩]⟩
    · exact h.elim
  · exact h.elim
theorem yhE:∀ (l:List PV) (H:Hp) (K:List PV→Hp→Prop),yit H l K→∃ ys H',K ys H'∧yaL H l=some (ys,H')
  | [],H,K,h=>⟨_,_,h,rfl⟩
  | x::r,H,K,h=>by
    simp only [yit] at h
    obtain ⟨y,H1,h,e1⟩:=yfV h
    obtain ⟨ys,H2,h,e2⟩:=yhE r H1 _ h
    exact ⟨_,_,h,by simp only [yaL,e1,e2]⟩
theorem yef {H:Hp} {x:PV} {K:PV→Hp→Prop} (h:yeV H x K):∃ y H',K y H'∧yav H x=some (y,H'):=by
  cases x with
  | agg cs =>
    simp only [yeV] at h
    obtain ⟨ys,H',h,e⟩:=yhE cs H _ h
    exact ⟨_,_,h,by simp only [yav,e,Option.map]⟩
  | _ =>
    simp only [yeV] at h
    obtain ⟨y,H',h,e⟩:=yfV h
    exact ⟨_,_,h,by simp only [yav,e]⟩
theorem yfW:∀ (l:List PV) (H:Hp) (K:List PV→Hp→Prop),yhB H l K→∃ ys H',K ys H'∧yaj H l=some (ys,H')
  | [],H,K,h=>⟨_,_,h,rfl⟩
  | x::r,H,K,h=>by
    simp only [yhB] at h
    obtain ⟨y,H1,h,e1⟩:=yef h
    obtain ⟨ys,H2,h,e2⟩:=yfW r H1 _ h
    exact ⟨_,_,h,by simp only [yaj,e1,e2]⟩
theorem yjE {H:Hp} {x:PV} {K:PV→Prop} (h:yiu H x K):∃ y,K y∧purP H x=some y:=by
  have base:∀ {x:PV},yeV H x (fun q _=>K q)→∃ y,K y∧(match yav H x with | some (q,_)=>some q | none=>none)=some y:=fun h=>by
    obtain ⟨y,H',h,e⟩:=yef h
    exact ⟨y,h,by simp only [e]⟩
  cases x with
  | ptr id ext i off =>
    simp only [yiu] at h
    split at h
    · rename_i b hb
      obtain ⟨h1,h⟩:=yac.1 h
      split at h
      · rename_i row hrow
        obtain ⟨y,H',h,e⟩:=yef h
        exact ⟨_,h,by simp only [purP,hb,hrow,e];rw [if_pos (by simpa using h1)]⟩
      · exact h.elim
    · exact h.elim
  | eptr rows i off=>exact ⟨_,h,rfl⟩
  | _=>simp only [yiu] at h;exact base h
theorem ygp {H:Hp}:∀ (l:List PV) (K:List PV→Prop),ygP H l K→∃ ys,K ys∧yfa H l=some ys
  | [],K,h=>⟨_,h,rfl⟩
  | x::r,K,h=>by
    simp only [ygP] at h
    obtain ⟨y,h,e1⟩:=yjE h
    obtain ⟨ys,h,e2⟩:=ygp r _ h
    exact ⟨_,h,by simp only [yfa,e1,e2]⟩
theorem yeC {pu:Bool} {H:Hp} {x:PV} {K:PV→Hp→Prop} (h:yfO pu H x K):∃ y H',K y H'∧(if pu then yav H x else some (x,H))=some (y,H'):=by
  cases pu with
  | true=>simp only [yfO] at h;obtain ⟨y,H',h,e⟩:=yef h;exact ⟨y,H',h,by simpa using e⟩
  | false=>exact ⟨_,_,h,by simp⟩
theorem yeg {pu:Bool} {esz:Nat}:∀ (l:List (Nat×Opd)) (rows:List PV) (H:Hp) (K:List PV→Hp→Prop),ygo E F pu esz rows H l K →
    ∃ rows' H',K rows' H'∧ybs E F pu esz rows H l=some (rows',H')
  | [],rows,H,K,h=>⟨_,_,h,rfl⟩
  | (i,x)::r,rows,H,K,h=>by
    simp only [ygo] at h
    split at h
    · rename_i p hp
      obtain ⟨q,H',h,e⟩:=yeC h
      obtain ⟨h1,h⟩:=yac.1 h
      simp only [Bool.and_eq_true] at h1
      obtain ⟨rows',H2,h,e2⟩:=yeg r _ H' K h
      refine ⟨rows',H2,h,?_⟩
      simp only [ybs,hp,e]
      rw [if_pos ⟨Nat.eq_of_beq_eq_true h1.1.1,(show i+1≤rows.length from Nat.le_of_ble_eq_true h1.1.2),h1.2⟩]
      exact e2
    · exact h.elim
theorem ykU {op:BinOp} {k k':IntKind} {a b:Int} {K:PV→Prop} (h:WBin op k k' a b K):∃ r,K r∧binV op (.int k a) (.int k' b)=some r:=by
  cases op <;> simp only [WBin] at h
  case quo =>
    obtain ⟨h1,h2⟩:=yac.1 h
    obtain ⟨h3,h4⟩:=yac.1 h2
    have e1:k=k':=by simpa using h1
    have e2:¬b=0:=by simpa using h3
    exact ⟨_,h4,by simp [binV,e1,binI,e2]⟩
  case rem =>
    obtain ⟨h1,h2⟩:=yac.1 h
    obtain ⟨h3,h4⟩:=yac.1 h2
    have e1:k=k':=by simpa using h1
    have e2:¬b=0:=by simpa using h3
    exact ⟨_,h4,by simp [binV,e1,binI,e2]⟩
  case shl =>
    obtain ⟨h1,h2⟩:=yac.1 h
    have e1:¬b<0:=by simpa using h1
    exact ⟨_,h2,by simp only [binV,yej,e1,if_false]⟩
  case shr =>
    obtain ⟨h1,h2⟩:=yac.1 h
    have e1:¬b<0:=by simpa using h1
    exact ⟨_,h2,by simp only [binV,yej,e1,if_false]⟩
  all_goals
    obtain ⟨h1,h2⟩:=yac.1 h
    have e1:k=k':=by simpa using h1
    split at h2
    · rename_i r hr
      exact ⟨r,h2,by simp only [binV,e1,if_true];rw [← e1];exact hr⟩
    · exact h2.elim
theorem yb5 {n:Nat} {j:Int} {K:Nat→Prop}:∀ m,m≤n→ydf n j K m→∃ k:Nat,K k∧j=(k:Int)∧k<n
  | 0,_,h=>h.elim
  | m+1,hm,h=>by
    simp only [ydf] at h
    obtain ⟨h1,h2⟩:=ybf.1 h
    by_cases hj:j=((n-(m+1):Nat):Int)
    · exact ⟨_,h1 (by simpa using hj),hj,by omega⟩
    · exact yb5 m (by omega) (h2 (by simpa using hj))
theorem ygq:∀ (cs:List PV) (i:Nat),yhC cs=true→i<cs.length→cs[i]?=some (.int .u8 (yeA (cs.getD i .nils)))
  | [],i,_,h=>by simp at h
  | x::r,i,hu,hi=>by
    cases x with
    | int k n =>
      cases k <;> simp only [yhC,Bool.false_eq_true] at hu
      cases i with
      | zero=>simp [yeA]
      | succ i=>have:=ygq r i hu (by simpa using hi);simpa using this
    | _=>simp [yhC] at hu
theorem yjF {x:PV} {K:List PV→Prop} (h:yjz H x K):∃ ys,K ys∧yb6 H x=some ys:=by
  unfold yjz at h
  split at h
  · exact ⟨_,h,rfl⟩
  · exact ⟨_,h,rfl⟩
  · exact ⟨_,h,rfl⟩
  · split at h
    · rename_i b hb
      obtain ⟨h1,h2⟩:=yac.1 h
      obtain ⟨h3,h4⟩:=yac.1 h2
      exact ⟨_,h4,by simp only [yb6,hb];rw [if_pos ⟨by simpa using h1,by simpa using h3⟩]⟩
    · exact h.elim
  · exact h.elim
theorem ydu {pu:Bool} {esz bytes:Nat} {rows:List PV} {K:PV→Hp→Prop} (h:yeB H pu esz bytes rows K):∃ r H',K r H'∧yaG H pu esz bytes rows=some (r,H'):=by
  obtain ⟨h1,h2⟩:=yac.1 h
  exact ⟨_,_,h2,by simp only [yaG];rw [if_pos (by simpa using h1)]⟩
def appS (H:Hp) (pu:Bool) (esz bytes:Nat) (ys:List PV):PV→Option (PV×Hp)
  | .nils=>if ys.isEmpty then some (.nils,H) else yaG H pu esz bytes ys
  | .emp=>if ys.isEmpty then some (.emp,H) else yaG H pu esz bytes ys
  | .own id lo len ext cap =>
    (match H[id]? with
     | some b=>if b.rows.length=ext∧b.pu=pu∧b.esz=esz∧lo+len≤ext then
         (if ys.isEmpty then some (.own id lo len ext cap,H) else ybi H pu esz bytes ys id lo len ext cap b) else none
     | none=>none)
  | _=>none
theorem ykV {md:Nat} {pu:Bool} {esz bytes:Nat} {s x:PV} {ys:List PV} {K:PV→Hp→Prop} (hy:yb6 H x=some ys) (hh:ybS esz ys=true) (hs:yeG H pu x=true) (h:WApp md H pu esz bytes s ys K) :
    ∃ r H',K r H'∧appV H pu esz bytes s x=some (r,H'):=by
  have e0:appV H pu esz bytes s x=appS H pu esz bytes ys s:=by
    simp only [appV,hy];rw [if_pos ⟨hh,hs⟩];cases s <;> rfl
  rw [e0]
  clear e0 hy hs
  unfold WApp at h
  split at h
  · obtain ⟨h1,h2⟩:=ybf.1 h
    cases hE:ys.isEmpty with
    | true=>exact ⟨_,_,h1 hE,by simp [appS,hE]⟩
    | false =>
      obtain ⟨r,H',hk,hf⟩:=ydu (h2 hE)
      exact ⟨r,H',hk,by simp [appS,hE,hf]⟩
  · obtain ⟨h1,h2⟩:=ybf.1 h
    cases hE:ys.isEmpty with
    | true=>exact ⟨_,_,h1 hE,by simp [appS,hE]⟩
    | false =>
      obtain ⟨r,H',hk,hf⟩:=ydu (h2 hE)
      exact ⟨r,H',hk,by simp [appS,hE,hf]⟩
  · rename_i id lo len ext cap
    split at h
    · rename_i b hb
      obtain ⟨h1,h⟩:=yac.1 h
      obtain ⟨h2,h⟩:=yac.1 h
      obtain ⟨h3,h⟩:=yac.1 h
      simp only [Bool.and_eq_true,decide_eq_true_eq] at h1 h2 h3
      obtain ⟨k1,k2⟩:=ybf.1 h
      have hc:b.rows.length=ext∧b.pu=pu∧b.esz=esz∧lo+len≤ext:=⟨h1,h2.1,h2.2,h3⟩
      cases hE:ys.isEmpty with
      | true=>exact ⟨_,_,k1 hE,by simp only [appS,hb];rw [if_pos hc];simp [hE]⟩
      | false =>
        have h:=k2 hE
        suffices ∃ r H',K r H'∧ybi H pu esz bytes ys id lo len ext cap b=some (r,H') by
          obtain ⟨r,H',hk,hf⟩:=this
          exact ⟨r,H',hk,by simp only [appS,hb];rw [if_pos hc];simp [hE,hf]⟩
        cases cap with
        | some c =>
          simp only at h
          have key1:decide (len+ys.length≤c)=true→asr (!b.fz) (K (.own id lo (len+ys.length) ext (some c)) (H.set id { b with rows:=b.rows.take (lo+len)++(ys++b.rows.drop (lo+len+ys.length)) })) →
              ∃ r H',K r H'∧ybi H pu esz bytes ys id lo len ext (some c) b=some (r,H'):=by
            intro e1 e2
            obtain ⟨e3,e4⟩:=yac.1 e2
            refine ⟨_,_,e4,?_⟩
            simp only [ybi]
            rw [if_pos (by simpa using e1),if_pos (by simpa using e3)]
          have key2:decide (len+ys.length≤c)=false→yeB H pu esz bytes ((b.rows.drop lo).take len++ys) K →
              ∃ r H',K r H'∧ybi H pu esz bytes ys id lo len ext (some c) b=some (r,H'):=by
            intro e1 e2
            obtain ⟨r,H',hk,hf⟩:=ydu e2
            refine ⟨r,H',hk,?_⟩
            simp only [ybi]
            rw [if_neg (by simpa using e1)]
            exact hf
          split at h
          · obtain ⟨a1,a2⟩:=ybf.1 h
            cases hd:decide (len+ys.length≤c) with
            | true=>exact key1 hd (a1 hd)
            | false=>exact key2 hd (a2 hd)
          · obtain ⟨a1,a2⟩:=ybf.1 h
            cases hd:decide (len+ys.length≤c) with
            | true=>exact key1 hd (a1 hd)
            | false=>exact key2 hd (a2 hd)
          · obtain ⟨a1,a2⟩:=yac.1 h;exact key2 (by simpa using a1) a2
          · obtain ⟨a1,a2⟩:=yac.1 h;exact key1 a1 a2
        | none =>
          simp only at h
          obtain ⟨hfz,h⟩:=yac.1 h
          have hfz':¬b.fz=true:=by simpa using hfz
          have key1:decide (lo+len+ys.length≤ext)=true→K (.own id lo (len+ys.length) ext none) (H.set id { b with rows:=b.rows.take (lo+len)++(ys++b.rows.drop (lo+len+ys.length)) }) →
              ∃ r H',K r H'∧ybi H pu esz bytes ys id lo len ext none b=some (r,H'):=by
            intro e1 e2
            refine ⟨_,_,e2,?_⟩
            simp only [ybi]
            rw [if_neg hfz',if_pos (by simpa using e1)]
          have key3:decide (lo+len+ys.length≤ext)=false→asr (decide (lo=0)) (asr (decide (len=ext)) (asr (decide ((ext+ys.length+64)*(bytes+1)≤room))
                (K (.own id 0 (b.rows++ys).length (b.rows++ys).length none) (H.set id { b with rows:=b.rows++ys })))) →
              ∃ r H',K r H'∧ybi H pu esz bytes ys id lo len ext none b=some (r,H'):=by
            intro e1 e2
            obtain ⟨e3,e2⟩:=yac.1 e2
            obtain ⟨e4,e2⟩:=yac.1 e2
            obtain ⟨e5,e2⟩:=yac.1 e2
            simp only [decide_eq_true_eq] at e3 e4 e5
            refine ⟨_,_,e2,?_⟩
            simp only [ybi]
            rw [if_neg hfz',if_neg (by simpa using e1),if_pos ⟨e3,by omega,by rw [e4];exact e5⟩]
            have e6:b.rows.take len=b.rows:=List.take_of_length_le (by omega)
            have e7:(b.rows++ys).length=len+ys.length:=by rw [List.length_append,h1,e4]
            rw [e6,e7]
          have key4:decide (lo+len+ys.length≤ext)=false→asr (decide (lo=0)) (asr (decide (len≤ext)) (asr (decide ((len+ys.length+64)*(bytes+1)≤room))
                (K (.own id 0 (len+ys.length) (len+ys.length) none) (H.set id { b with rows:=b.rows.take len++ys })))) →
              ∃ r H',K r H'∧ybi H pu esz bytes ys id lo len ext none b=some (r,H'):=by
            intro e1 e2
            obtain ⟨e3,e2⟩:=yac.1 e2
            obtain ⟨e4,e2⟩:=yac.1 e2
            obtain ⟨e5,e2⟩:=yac.1 e2
            simp only [decide_eq_true_eq] at e3 e4 e5
            refine ⟨_,_,e2,?_⟩
            simp only [ybi]
            rw [if_neg hfz',if_neg (by simpa using e1),if_pos ⟨e3,e4,e5⟩]
          split at h
          · obtain ⟨a1,a2⟩:=ybf.1 h
            cases hd:decide (lo+len+ys.length≤ext) with
            | true=>exact key1 hd (a1 hd)
            | false=>exact key3 hd (a2 hd)
          · obtain ⟨a1,a2⟩:=ybf.1 h
            cases hd:decide (lo+len+ys.length≤ext) with
            | true=>exact key1 hd (a1 hd)
            | false=>exact key4 hd (a2 hd)
          · obtain ⟨a1,a2⟩:=yac.1 h;exact key1 a1 a2
          · obtain ⟨a1,a2⟩:=yac.1 h;exact key3 (by simpa using a1) a2
    · exact h.elim
  · exact h.elim
theorem yi0 {esz:Nat} {lo hi mx:Option Int} {x:PV} {K:PV→Prop} (h:yh5 H esz lo hi mx x K):∃ r,K r∧ybH H esz lo hi mx x=some r:=by
  unfold yh5 at h
  split at h
  · obtain ⟨h1,h2⟩:=yac.1 h
    simp only [Bool.and_eq_true,decide_eq_true_eq] at h1
    exact ⟨_,h2,by simp only [ybH];rw [if_pos h1]⟩
  · obtain ⟨h1,h2⟩:=yac.1 h
    simp only [Bool.and_eq_true,decide_eq_true_eq] at h1
    exact ⟨_,h2,by simp only [ybH];rw [if_pos h1]⟩
  · rename_i rows
    simp only at h
    split at h
    · obtain ⟨h1,h⟩:=yac.1 h
      obtain ⟨h2,h⟩:=yac.1 h
      obtain ⟨h3,h⟩:=yac.1 h
      obtain ⟨h4,h⟩:=yac.1 h
      simp only [Bool.or_eq_true,decide_eq_true_eq] at h1 h2 h3 h4
      exact ⟨_,h,by simp only [ybH];rw [if_pos ⟨h1,h2,h3,h4⟩]⟩
    · rename_i m
      obtain ⟨h1,h⟩:=yac.1 h
      obtain ⟨h2,h⟩:=yac.1 h
      obtain ⟨h3,h⟩:=yac.1 h
      obtain ⟨h4,h⟩:=yac.1 h
      obtain ⟨h5,h⟩:=yac.1 h
      obtain ⟨k1,k2⟩:=ybf.1 h
      simp only [Bool.or_eq_true,decide_eq_true_eq] at h1 h2 h3 h4 h5
      by_cases hl:lo.getD 0=m
      · exact ⟨_,k1 (by simpa using hl),by simp only [ybH];rw [if_pos ⟨h1,h2,h3,h4,h5⟩,if_pos hl]⟩
      · exact ⟨_,k2 (by simpa using hl),by simp only [ybH];rw [if_pos ⟨h1,h2,h3,h4,h5⟩,if_neg hl]⟩
  · rename_i id lo0 len ext cap
    simp only at h
    split at h
    · rename_i b hb
      obtain ⟨h0,h⟩:=yac.1 h
      split at h
      · obtain ⟨h1,h⟩:=yac.1 h
        obtain ⟨h2,h⟩:=yac.1 h
        obtain ⟨h3,h⟩:=yac.1 h
        simp only [Bool.or_eq_true,decide_eq_true_eq] at h1 h2 h3
        exact ⟨_,h,by simp only [ybH,hb,h0,Bool.true_eq_false,if_false];rw [if_pos ⟨h1,h2,h3⟩]⟩
      · obtain ⟨h1,h⟩:=yac.1 h
        obtain ⟨h2,h⟩:=yac.1 h
        obtain ⟨h3,h⟩:=yac.1 h
        obtain ⟨h4,h⟩:=yac.1 h
        simp only [Bool.or_eq_true,decide_eq_true_eq] at h1 h2 h3 h4
        exact ⟨_,h,by simp only [ybH,hb,h0,Bool.true_eq_false,if_false];rw [if_pos ⟨h1,h2,h3,h4⟩]⟩
    · exact h.elim
  · exact h.elim
theorem yiB {sh:Sh} {rows:List PV} {i:Nat} {K:PV→Prop} (h:WRow sh rows i K):∃ r,K r∧rows[i]?=some r:=by
  have key:asr (decide (i<rows.length)) (asr (conf sh (rows.getD i .nils)) (K (expl sh (rows.getD i .nils))))→∃ r,K r∧rows[i]?=some r:=by
    intro h
    obtain ⟨h1,h⟩:=yac.1 h
    obtain ⟨h2,h⟩:=yac.1 h
    have hi:i<rows.length:=by simpa using h1
    rw [ygn _ _ h2] at h
    refine ⟨_,h,?_⟩
    rw [List.getElem?_eq_getElem hi,List.getD_eq_getElem?_getD,List.getElem?_eq_getElem hi];rfl
  unfold WRow at h
  split at h
  · split at h
    · rename_i r hr;exact ⟨r,h,hr⟩
    · exact h.elim
  · exact key h
theorem ykW {a:An} {o:AOp} (hc:ybF o=false) (h:WOp E callK a F H o K):ygR E F H o K:=by
  cases o
  case pick c x y =>
    simp only [WOp] at h
    split at h
    · rename_i t ht
      obtain ⟨h1,h2⟩:=ybf.1 h
      cases t with
      | true =>
        have h:=h1 rfl
        split at h
        · rename_i p hp;exact ⟨⟨some (.v p),none,H⟩,h,0,fun m _=>by simp only [yab,ht,hp];rfl⟩
        · exact h.elim
      | false =>
        have h:=h2 rfl
        split at h
        · rename_i p hp;exact ⟨⟨some (.v p),none,H⟩,h,0,fun m _=>by simp only [yab,ht,hp];rfl⟩
        · exact h.elim
    · exact h.elim
  case bin op x y =>
    simp only [WOp] at h
    split at h
    · rename_i k p k' q hx hy
      obtain ⟨r,hk,hr⟩:=ykU h
      exact ⟨⟨some (.v r),none,H⟩,hk,0,fun m _=>by simp only [yab,hx,hy,hr];rfl⟩
    · exact h.elim
  case eqN neg x =>
    simp only [WOp] at h
    split at h
    · rename_i hx
      exact ⟨⟨some (.v (.bool (bif neg then false else true))),none,H⟩,h,0,fun m _=>by simp only [yab,hx];cases neg <;> rfl⟩
    · rename_i b hx
      exact ⟨⟨some (.v (.bool (bif neg then !b else b))),none,H⟩,h,0,fun m _=>by simp only [yab,hx];cases neg <;> rfl⟩
    · rename_i rows hx
      obtain ⟨h1,h⟩:=yac.1 h
      cases rows with
      | nil=>simp at h1
      | cons q l=>exact ⟨⟨some (.v (.bool neg)),none,H⟩,h,0,fun m _=>by simp only [yab,hx];cases neg <;> rfl⟩
    · rename_i hx
      exact ⟨⟨some (.v (.bool neg)),none,H⟩,h,0,fun m _=>by simp only [yab,hx];cases neg <;> rfl⟩
    · exact h.elim
  case load agg sz x =>
    simp only [WOp] at h
    split at h
    · rename_i id ext i off hx
      split at h
      · rename_i b hb
        obtain ⟨h1,h⟩:=yac.1 h
        obtain ⟨row,h,hr⟩:=yiB h
        split at h
        · rename_i p hp
          exact ⟨⟨some (.v p),none,H⟩,h,0,fun m _=>by simp only [yab,hx,hb];rw [if_pos (by simpa using h1)];simp only [hr,hp];rfl⟩
        · exact h.elim
      · exact h.elim
    · exact yfU rfl h
  case store sz x y =>
    simp only [WOp] at h
    split at h
    · rename_i id ext i off hx
      split at h
      · rename_i p hp
        split at h
        · rename_i b0 hb0
          obtain ⟨q,H',h,hq⟩:=yeC h
          split at h
          · rename_i b hb
            obtain ⟨h1,h⟩:=yac.1 h
            obtain ⟨h2,h⟩:=yac.1 h
            obtain ⟨row,h,hr⟩:=yiB h
            split at h
            · rename_i row' hrow
              refine ⟨⟨none,none,H'.set id { b with rows:=b.rows.set i row' }⟩,h,0,fun m _=>?_⟩
              have e1:b.rows.length=ext:=by simpa using h1
              have e2:b.fz=false:=by simpa using h2
              simp only [yab,hp,hx,hb0,hq,hb,hr,hrow]
              rw [if_pos ⟨e1,e2⟩]
            · exact h.elim
          · exact h.elim
        · exact h.elim
      · exact h.elim
    · exact yfU rfl h
  case iad esz x i =>
    simp only [WOp] at h
    split at h
    · rename_i rows n hx hi
      obtain ⟨h1,h⟩:=yac.1 h
      obtain ⟨h2,h⟩:=yac.1 h
      obtain ⟨h3,h⟩:=yac.1 h
      obtain ⟨h4,h⟩:=yac.1 h
      simp only [decide_eq_true_eq] at h1 h2
      rw [ygn _ _ h3] at h h4
      have hlt:n.toNat<rows.length:=by omega
      have e:rows[n.toNat]?=some (rows.getD n.toNat .nils):=by
        rw [List.getElem?_eq_getElem hlt,List.getD_eq_getElem?_getD,List.getElem?_eq_getElem hlt];rfl
      refine ⟨⟨_,_,_⟩,h,0,fun m _=>?_⟩
      simp only [yab,hx,hi]
      rw [if_pos ⟨h1,h2⟩]
      simp only [e]
      rw [if_pos (by simpa using h4)]
      rfl
    · rename_i id lo len ext cap n hx hi
      split at h
      · rename_i b hb
        obtain ⟨h1,h⟩:=yac.1 h
        obtain ⟨h2,h⟩:=yac.1 h
        obtain ⟨h3,h⟩:=yac.1 h
        simp only [decide_eq_true_eq] at h1 h2 h3
        refine ⟨⟨_,_,_⟩,h,0,fun m _=>?_⟩
        simp only [yab,hx,hi]
        rw [if_pos ⟨h1,h2⟩]
        simp only [hb]
        rw [if_pos h3]
        rfl
      · exact h.elim
    · rename_i id ext r off mm e j hx hi
      obtain ⟨h1,h⟩:=yac.1 h
      have h1:e=esz:=Nat.eq_of_beq_eq_true h1
      subst h1
      obtain ⟨k,h',rfl,hk⟩:=yb5 mm (Nat.le_refl _) h
      clear h
      refine ⟨⟨_,_,_⟩,h',0,fun m _=>?_⟩
      simp only [yab,hx,hi]
      rw [if_pos ⟨by omega,by omega,by trivial⟩]
      simp [outV]
    · exact h.elim
  case iadA n esz x i =>
    simp only [WOp] at h
    split at h
    · rename_i s o j hx hi
      obtain ⟨k,h',rfl,hk⟩:=yb5 n (Nat.le_refl _) h
      clear h
      refine ⟨⟨_,_,_⟩,h',0,fun m _=>?_⟩
      simp only [yab,hx,hi]
      rw [if_pos ⟨by omega,by omega⟩]
      simp
    · rename_i id e r o j hx hi
      obtain ⟨k,h',rfl,hk⟩:=yb5 n (Nat.le_refl _) h
      clear h
      refine ⟨⟨_,_,_⟩,h',0,fun m _=>?_⟩
      simp only [yab,hx,hi]
      rw [if_pos ⟨by omega,by omega⟩]
      simp [outV]
    · rename_i rows r o j hx hi
      obtain ⟨k,h',rfl,hk⟩:=yb5 n (Nat.le_refl _) h
      clear h
      refine ⟨⟨_,_,_⟩,h',0,fun m _=>?_⟩
      simp only [yab,hx,hi]
      rw [if_pos ⟨by omega,by omega⟩]
      simp [outV]
    · exact h.elim
  case idx agg n esz x i =>
    simp only [WOp] at h
    split at h
    · rename_i cs j hx hi
      split at h
      · obtain ⟨h0,k0⟩:=yac.1 h
        obtain ⟨h1,k1⟩:=yac.1 k0
        obtain ⟨h2,k2⟩:=yac.1 k1
        clear h k0 k1
        simp only [Bool.and_eq_true,decide_eq_true_eq,Bool.not_eq_true'] at h0 h1 h2
        obtain ⟨ha,he,hn,hu⟩:=h0
        have he:=Nat.eq_of_beq_eq_true he
        have hn:=Nat.eq_of_beq_eq_true hn
        subst ha;subst he
        refine ⟨⟨_,_,_⟩,k2,0,fun m _=>?_⟩
        simp only [yab,hx,hi]
        rw [if_pos ⟨h1,h2⟩]
        have hlt:j.toNat<cs.length:=by omega
        have hcell:cs[j.toNat]?=some (.int .u8 (yeA (cs.getD j.toNat .nils))):=ygq cs _ hu hlt
        simp only [ybh,Nat.mul_one,PV.cells,Bool.false_eq_true,if_false,hcell]
        rfl
      obtain ⟨k,h',rfl,hk⟩:=yb5 n (Nat.le_refl _) h
      clear h
      split at h'
      · rename_i p hp
        refine ⟨⟨_,_,_⟩,h',0,fun m _=>?_⟩
        simp only [yab,hx,hi]
        rw [if_pos ⟨by omega,by omega⟩]
        simp only [Int.toNat_natCast,hp]
        rfl
      · exact h'.elim
    · exact h.elim
  case slc esz x lo hi mx =>
    simp only [WOp] at h
    split at h
    · rename_i p l hh m hx hl hhi hm
      split at h
      · exact h.elim
      · rename_i hb
        obtain ⟨r,h,hr⟩:=yi0 h
        refine ⟨⟨_,_,_⟩,h,0,fun _ _=>?_⟩
        simp only [yab,hx,hl,hhi,hm]
        rw [if_neg (by rw [hb];exact Bool.false_ne_true)]
        simp only [hr]
        rfl
    · exact h.elim
  case mkSl pu esz bytes z l c =>
    simp only [WOp] at h
    split at h
    · rename_i l c hl hc
      obtain ⟨h1,h⟩:=yac.1 h
      obtain ⟨h2,h⟩:=yac.1 h
      obtain ⟨h3,h⟩:=yac.1 h
      simp only [decide_eq_true_eq] at h1 h2 h3
      refine ⟨⟨_,_,_⟩,h,0,fun _ _=>?_⟩
      simp only [yab,hl,hc]
      rw [if_pos ⟨h1,h2,h3⟩]
      rfl
    · exact h.elim
  case app pu esz bytes s x =>
    simp only [WOp] at h
    split at h
    · rename_i s x hs hx
      obtain ⟨ys,h,hy⟩:=yjF h
      obtain ⟨h1,h⟩:=yac.1 h
      obtain ⟨h2,h⟩:=yac.1 h
      obtain ⟨r,H',h,hr⟩:=ykV hy h1 h2 h
      refine ⟨⟨_,_,_⟩,h,0,fun _ _=>?_⟩
      simp only [yab,hs,hx,hr]
      rfl
    · exact h.elim
  case appZ pu esz bytes z s n =>
    simp only [WOp] at h
    split at h
    · rename_i k hs hk
      obtain ⟨h1,h⟩:=yac.1 h
      have h1:0≤k:=by simpa using h1
      obtain ⟨ha,hb⟩:=ybf.1 h
      cases h0:decide (k.toNat=0) with
      | true =>
        refine ⟨⟨_,_,_⟩,ha h0,0,fun _ _=>?_⟩
        have h0:k.toNat=0:=by simpa using h0
        simp only [yab,hs,hk,appZ]
        rw [if_pos h1,if_pos h0]
        rfl
      | false =>
        obtain ⟨r,H',h2,hr⟩:=ydu (hb h0)
        refine ⟨⟨_,_,_⟩,h2,0,fun _ _=>?_⟩
        have h0:¬k.toNat=0:=by simpa using h0
        simp only [yab,hs,hk,appZ]
        rw [if_pos h1,if_neg h0,hr]
        rfl
    · exact h.elim
  case clr pu esz z x =>
    simp only [WOp] at h
    split at h
    · rename_i hx
      exact ⟨⟨_,_,_⟩,h,0,fun _ _=>by simp only [yab,hx,clrV];rfl⟩
    · rename_i hx
      exact ⟨⟨_,_,_⟩,h,0,fun _ _=>by simp only [yab,hx,clrV];rfl⟩
    · rename_i hx
      exact ⟨⟨_,_,_⟩,h,0,fun _ _=>by simp only [yab,hx,clrV];rfl⟩
    · rename_i id lo len ext cap hx
      split at h
      · rename_i b hb
        obtain ⟨ha,hb2⟩:=ybf.1 h
        cases len with
        | zero=>exact ⟨⟨_,_,_⟩,ha rfl,0,fun _ _=>by simp only [yab,hx,clrV];rfl⟩
        | succ len =>
          have h:=hb2 (by simp)
          obtain ⟨h1,h⟩:=yac.1 h
          obtain ⟨h2,h⟩:=yac.1 h
          obtain ⟨h3,h⟩:=yac.1 h
          obtain ⟨h4,h⟩:=yac.1 h
          obtain ⟨h5,h⟩:=yac.1 h
          simp only [decide_eq_true_eq,Bool.not_eq_true',beq_iff_eq] at h1 h2 h3 h4
          have h5:=Nat.eq_of_beq_eq_true h5
          refine ⟨⟨_,_,_⟩,h,0,fun _ _=>?_⟩
          simp only [yab,hx,clrV,hb]
          rw [if_pos ⟨h1,h2,h3,h4,h5⟩]
          rfl
      · exact h.elim
    · exact h.elim
  case boxH pu esz x =>
    simp only [WOp] at h
    split at h
    · rename_i p hp
      obtain ⟨q,H',h,hq⟩:=yeC h
      obtain ⟨h1,h⟩:=yac.1 h
      simp only [Bool.and_eq_true] at h1
      refine ⟨⟨_,_,_⟩,h,0,fun _ _=>?_⟩
      simp only [yab,hp,hq]
      rw [if_pos ⟨Nat.eq_of_beq_eq_true h1.1,h1.2⟩]
    · exact h.elim
  case buildSl pu esz z len parts =>
    simp only [WOp] at h
    split at h
    · exact ⟨⟨_,_,_⟩,h,0,fun _ _=>by simp only [yab,if_true];rfl⟩
    · obtain ⟨rows,H',h,e⟩:=yeg _ _ _ _ h
      refine ⟨⟨_,_,_⟩,h,0,fun _ _=>?_⟩
      simp only [yab,e]
      rfl
  case buildN pu esz z len parts =>
    simp only [WOp] at h
    split at h
    · exact ⟨⟨_,_,_⟩,h,0,fun _ _=>by simp only [yab,if_true];rfl⟩
    · obtain ⟨rows,H',h,e⟩:=yeg _ _ _ _ h
      refine ⟨⟨_,_,_⟩,h,0,fun _ _=>?_⟩
      simp only [yab,e]
      rfl
  case buildD esz z len parts =>
    simp only [WOp] at h
    split at h
    · exact ⟨⟨_,_,_⟩,h,0,fun _ _=>by simp only [yab,if_true];rfl⟩
    · obtain ⟨rows,H',h,e⟩:=yeg _ _ _ _ h
      refine ⟨⟨_,_,_⟩,h,0,fun _ _=>?_⟩
      simp only [yab,e]
      rfl
  case mvD x =>
    simp only [WOp] at h
    split at h
    · rename_i p hp
      obtain ⟨y,H',h,e⟩:=yfV h
      split at h
      · exact ⟨⟨_,_,_⟩,h,0,fun _ _=>by simp only [yab,hp,e];rfl⟩
      · exact h.elim
    · exact h.elim
  case call f args=>simp [ybF] at hc
  all_goals exact yfU rfl h
theorem yjG {P:EP} (hP:Sub P E) (hG:Good P callK) {a:An} {o:AOp} (h:WOp E callK a F H o K):ynx P F H o K:=by
  cases hc:ybF o with
  | false =>
    obtain ⟨out,hk,m0,hm⟩:=ykW hc h
    refine ⟨out,hk,0,fun n e m _ hp _=>?_⟩
    have hl:=hP n e hp
    unfold Like at hl
    rw [hl,yh7 hc _ (yas E m0)]
    exact hm m0 (Nat.le_refl _)
  | true =>
    cases o with
    | call f args =>
      simp only [WOp] at h
      split at h
      · rename_i g vs hg hvs
        obtain ⟨r,H',h,m0,hm⟩:=hG _ _ _ _ h
        refine ⟨⟨_,_,_⟩,h,m0,fun n e m hn hp hle=>?_⟩
        have hl:=hP n e hp
        have e1:evV e F f=some g:=by unfold Like at hl;rw [hl,ybm];exact hg
        have e2:evs e F args=some vs:=by unfold Like at hl;rw [hl,ycF];exact hvs
        simp only [yab,e1,e2,hm n e m hn hp hle]
        rfl
      · exact h.elim
    | _=>simp [ybF] at hc
theorem ydv:∀ (F:Frm) (s:Nat) (x:FV),fget F s=some x→frep F s x=F
  | [],_,_,h=>by simp [fget] at h
  | (k,y)::r,s,x,h=>by
    simp only [fget] at h
    simp only [frep]
    by_cases hk:k=s
    · subst hk
      simp only [if_true,Option.some.injEq] at h
      subst h
      simp
    · rw [if_neg hk] at h
      have:Nat.beq k s=false:=by
        cases e:Nat.beq k s with
        | true=>exact absurd (Nat.eq_of_beq_eq_true e) hk
        | false=>rfl
      rw [this,ydv r s x h]
      rfl
theorem yiC {c:Opd} {b:Bool} (h:evV E F c=some (.bool b)):fref F c b=F:=by
  cases c with
  | t s =>
    simp only [evV,ev] at h
    simp only [fref]
    apply ydv
    cases e:fget F s with
    | none=>simp [e] at h
    | some fv=>cases fv <;> simp [e] at h;rw [h]
  | _=>rfl
theorem ygr {g:Option (Nat×Bool)} {yes no:Frm→Prop} (h:ygQ F g yes no):(ya0 F g=some true∧yes F)∨(ya0 F g=some false∧no F):=by
  unfold ygQ at h
  split at h
  · exact .inl ⟨rfl,h⟩
  · rename_i s want
    split at h
    · rename_i b hb
      have e:ya0 F (some (s,want))=some (b == want):=by simp only [ya0,hb]
      split at h
      · cases b with
        | true=>have h:yes (frep F s (.v (.bool true))):=h;rw [ydv _ _ _ hb] at h;exact .inl ⟨by rw [e];rfl,h⟩
        | false=>have h:no (frep F s (.v (.bool false))):=h;rw [ydv _ _ _ hb] at h;exact .inr ⟨by rw [e];rfl,h⟩
      · cases b with
        | true=>have h:no (frep F s (.v (.bool true))):=h;rw [ydv _ _ _ hb] at h;exact .inr ⟨by rw [e];rfl,h⟩
        | false=>have h:yes (frep F s (.v (.bool false))):=h;rw [ydv _ _ _ hb] at h;exact .inl ⟨by rw [e];rfl,h⟩
    · rename_i hb
      exact .inr ⟨by simp only [ya0,hb],h⟩
    · exact h.elim
theorem ye8 {P:EP} (hP:Sub P E) (hG:Good P callK) {an:List An}:∀ (l:List AOper) (i:Nat) (F:Frm) (H:Hp) (K:Frm→Hp→Prop),WOps E callK an l i F H K →
    ∃ F' H',K F' H'∧∃ m0,∀ n e m,m0≤n→P n e→m0≤m→ybA e (yas e m) l F H=some (F',H')
  | [],i,F,H,K,h=>⟨F,H,h,0,fun _ _ _ _ _ _=>rfl⟩
  | o::r,i,F,H,K,h=>by
    simp only [WOps] at h
    rcases ygr h with ⟨hg,h⟩ | ⟨hg,h⟩
    · obtain ⟨out,h,m0,hm⟩:=yjG hP hG h
      split at h
      · exact h.elim
      · rename_i F' hF'
        rw [yfP] at h
        obtain ⟨F2,H2,hk,m1,hm1⟩:=ye8 hP hG r (i+1) F' out.h K h
        refine ⟨F2,H2,hk,max m0 m1,fun n e m hn hp hle=>?_⟩
        have e0:ycG e (yas e m) F H o=some (F',out.h):=by
          simp only [ycG,hg,hm n e m (by omega) hp (by omega),hF',Option.map]
        simp only [ybA,e0]
        exact hm1 n e m (by omega) hp (by omega)
    · obtain ⟨F2,H2,hk,m1,hm1⟩:=ye8 hP hG r (i+1) (ydt F o.dst) H K h
      refine ⟨F2,H2,hk,m1,fun n e m hn hp hle=>?_⟩
      have e0:ycG e (yas e m) F H o=some (ydt F o.dst,H):=by
        simp only [ycG,hg]
        cases o.dst <;> rfl
      simp only [ybA,e0]
      exact hm1 n e m hn hp hle
structure Cov (p q:FP):Prop where
  rd:q.rd=p.rd
  wr:q.wr=p.wr
  h:p.all=true∨((∀ x,x∈q.hr→x∈p.hr)∧(∀ x,x∈q.hw→x∈p.hw)∧(q.push=true→p.push=true)∧q.all=false)
theorem Cov.refl (p:FP):Cov p p:=⟨rfl,rfl,by cases h:p.all with | true=>exact .inl rfl | false=>exact .inr ⟨fun _ h=>h,fun _ h=>h,fun h=>h,rfl⟩⟩
theorem Cov.tight (p:FP) (H H1:Hp):Cov p (p.tight H H1):=by
  unfold FP.tight
  cases h:p.all with
  | true=>exact ⟨rfl,rfl,.inl h⟩
  | false=>exact ⟨rfl,rfl,.inr ⟨fun _ h=>h,fun _ h=>h,fun h=>h,h⟩⟩
def ygS:List FP→List FP→Prop
  | [],[]=>True
  | p::r,q::s=>Cov p q∧ygS r s
  | _,_=>False
theorem ygS.get:∀ (l l':List FP),ygS l l'→∀ (i:Nat) (p:FP),l[i]?=some p→∃ q:FP,l'[i]?=some q∧Cov p q
  | [],_,_,i,p,e=>by simp at e
  | p::r,[],h,_,_,_=>h.elim
  | p::r,q::s,h,i,x,e=>by
    obtain ⟨h1,h2⟩:=h
    cases i with
    | zero=>simp at e;subst e;exact ⟨q,rfl,h1⟩
    | succ i=>simp at e;simpa using ygS.get r s h2 i x e
theorem yeD:∀ l:List Nat,ya6 l []=false
  | []=>rfl
  | x::r=>by simp only [ya6,yeD r];rfl
theorem yeE:∀ (l m:List Nat),ya6 l m=true↔∃ x,x∈l∧x∈m
  | [],m=>by simp [ya6]
  | y::r,m=>by
    simp only [ya6,Bool.or_eq_true,yeE r m,List.elem_eq_mem,decide_eq_true_eq,List.mem_cons]
    constructor
    · rintro (h | ⟨x,h1,h2⟩)
      · exact ⟨y,.inl rfl,h⟩
      · exact ⟨x,.inr h1,h2⟩
    · rintro ⟨x,rfl | h1,h2⟩
      · exact .inl h2
      · exact .inr ⟨x,h1,h2⟩
theorem yeF {a b a' b':List Nat} (h:ya6 a b=false) (ha:∀ x,x∈a'→x∈a) (hb:∀ x,x∈b'→x∈b):ya6 a' b'=false:=by
  cases e:ya6 a' b' with
  | false=>rfl
  | true =>
    obtain ⟨x,h1,h2⟩:=(yeE _ _).1 e
    have:ya6 a b=true:=(yeE _ _).2 ⟨x,ha x h1,hb x h2⟩
    rw [h] at this
    cases this
theorem yfX {a:List Nat} (h:∀ x,x∈a→x∈([]:List Nat)):a=[]:=by
  cases a with
  | nil=>rfl
  | cons x r=>exact absurd (h x List.mem_cons_self) (by simp)
theorem yi1 {p q p' q':FP} (h:ydx p q=false) (hp:Cov p p') (hq:Cov q q'):ydx p' q'=false:=by
  have hpx:∀ {x x':FP},x.heapy=false→Cov x x'→x'.push=false∧x'.all=false∧x'.hr=[]∧x'.hw=[]:=by
    intro x x' hx hc
    simp only [FP.heapy,Bool.or_eq_false_iff,Bool.not_eq_false',List.isEmpty_iff] at hx
    obtain ⟨⟨⟨h1,h2⟩,h3⟩,h4⟩:=hx
    rcases hc.h with h | ⟨k1,k2,k3,k4⟩
    · rw [h2] at h;cases h
    · rw [h3] at k1
      rw [h4] at k2
      refine ⟨?_,k4,yfX k1,yfX k2⟩
      cases e:x'.push with
      | false=>rfl
      | true=>rw [k3 e] at h1;cases h1
  simp only [ydx,Bool.or_eq_false_iff] at h
  obtain ⟨⟨⟨⟨⟨⟨⟨⟨A,B⟩,C⟩,D⟩,E⟩,G⟩,I⟩,J⟩,K⟩:=h
  have A':ya6 p'.wr q'.rd=false:=by rw [hp.wr,hq.rd];exact A
  have B':ya6 p'.wr q'.wr=false:=by rw [hp.wr,hq.wr];exact B
  have C':ya6 q'.wr p'.rd=false:=by rw [hp.rd,hq.wr];exact C
  cases ea:p.all with
  | true =>
    rw [ea,Bool.true_and] at D
    obtain ⟨h1,h2,h3,h4⟩:=hpx D hq
    simp [ydx,A',B',C',h1,h2,h3,h4,yeD,ya6,FP.heapy]
  | false =>
    cases eb:q.all with
    | true =>
      rw [eb,Bool.true_and] at E
      obtain ⟨h1,h2,h3,h4⟩:=hpx E hp
      simp [ydx,A',B',C',h1,h2,h3,h4,yeD,ya6,FP.heapy]
    | false =>
      rcases hp.h with h | ⟨k1,k2,k3,k4⟩
      · rw [ea] at h;cases h
      rcases hq.h with h | ⟨l1,l2,l3,l4⟩
      · rw [eb] at h;cases h
      have G':(p'.push&&q'.push)=false:=by
        cases e1:p'.push with
        | false=>rfl
        | true =>
          cases e2:q'.push with
          | false=>rfl
          | true=>rw [k3 e1,l3 e2] at G;cases G
      simp only [ydx,A',B',C',k4,l4,Bool.false_and,G',yeF I k2 l1,yeF J k2 l2,yeF K l2 k1,Bool.or_self]
theorem yeY {l l':List FP} (ht:ygS l l'):∀ (pairs:List (Nat×Nat)),yb7 l pairs=true→yb7 l' pairs=true
  | [],_=>rfl
  | (i,j)::r,h=>by
    simp only [yb7,Bool.and_eq_true] at h ⊢
    refine ⟨?_,yeY ht r h.2⟩
    have h1:=h.1
    split at h1
    · rename_i p q e1 e2
      obtain ⟨p',k1,c1⟩:=ygS.get l l' ht i p e1
      obtain ⟨q',k2,c2⟩:=ygS.get l l' ht j q e2
      rw [k1,k2]
      simp only [Bool.not_eq_true'] at h1 ⊢
      exact yi1 h1 c1 c2
    · cases h1
theorem ycW {E e:Env} (h:Like E e) (f:PV) (args:List PV):ydw e f args=ydw E f args:=by
  unfold Like at h
  rw [h]
  rfl
theorem yh8 {p q:PV} {H H1:Hp} (h:yav H p=some (q,H1)):EffI (idsV p) H H1 H H1:=by
  obtain ⟨H1',e,k⟩:=ybx (H':=H) (fun _ _=>rfl) h
  rw [h] at e
  cases e
  exact k
theorem ycw:∀ (l ps:List PV) (H H1:Hp),yaj H l=some (ps,H1)→H1.length=H.length∧∀ id,id∉idsA l→H1[id]?=H[id]?
  | [],ps,H,H1,h=>by
    simp only [yaj,Option.some.injEq,Prod.mk.injEq] at h
    rw [← h.2]
    exact ⟨rfl,fun _ _=>rfl⟩
  | x::r,ps,H,H1,h=>by
    simp only [yaj] at h
    split at h
    · rename_i y H2 hy
      split at h
      · rename_i ys H3 hys
        simp only [Option.some.injEq,Prod.mk.injEq] at h
        obtain ⟨_,rfl⟩:=h
        obtain ⟨l1,o1⟩:=ycw r ys H2 _ hys
        have k:=yh8 hy
        refine ⟨l1.trans k.len.1,fun id hid=>?_⟩
        simp only [idsA,List.mem_append,not_or] at hid
        rw [o1 id hid.2,(k.out id hid.1).1]
      · cases h
    · cases h
theorem yh9 {call:Nat→List PV→Hp→Option (PV×Hp)} {x:LocC} {H H1:Hp} {r:PV} (h:yek call x H=some (r,H1)):∀ id,id∈chgH 0 H H1→id∈x.id::idsA (x.all.set x.j (.int .i64 0)):=by
  intro id hm
  unfold yek at h
  split at h
  · rename_i as H' hp
    split at h
    · rename_i b hb
      split at h
      · split at h
        · rename_i q rows hq
          simp only [Option.some.injEq,Prod.mk.injEq] at h
          obtain ⟨_,rfl⟩:=h
          obtain ⟨l1,o1⟩:=ycw _ _ _ _ hp
          by_cases hi:id=x.id
          · rw [hi];exact List.mem_cons_self
          · by_cases hj:id∈idsA (x.all.set x.j (.int .i64 0))
            · exact List.mem_cons_of_mem _ hj
            · refine absurd hm ?_
              have:=yey 0 H (H'.set x.id { b with rows:=rows }) (by simp [l1]) id (by
                rw [List.getElem?_set_ne (fun e=>hi e.symm),o1 id hj])
              simpa using this
        · cases h
      · cases h
    · cases h
  · cases h
theorem yia {H H1:Hp} {l:List Nat} (h1:H1.length=H.length) (h2:∀ id,id∉l→H1[id]?=H[id]?):∀ id,id∈chgH 0 H H1→id∈l:=by
  intro id hm
  by_cases hj:id∈l
  · exact hj
  · refine absurd hm ?_
    have:=yey 0 H H1 h1 id (h2 id hj)
    simpa using this
theorem yi2 {e:Env} {call:Nat→List PV→Hp→Option (PV×Hp)} {n:Nat} {first captured vs:List PV} {H H1:Hp} {r:PV} (hq:e.qui n=true) (h:ybT e call (.fn (.func n) first captured) vs H=some (r,H1)):∀ id,id∈chgH 0 H H1→id∈idsA (first++vs++captured):=by
  simp only [ybT,hq,if_true] at h
  split at h
  · split at h
    · split at h
      · split at h
        · cases h
          exact yia rfl fun _ _=>rfl
        · cases h
      · cases h
    · cases h
  · split at h
    · rename_i x hx
      cases h
      split at hx
      · rename_i as H' hp
        obtain ⟨l1,o1⟩:=ycw _ _ _ _ hp
        split at hx
        · split at hx
          · cases hx
            exact yia rfl fun _ _=>rfl
          · cases hx
            exact yia l1 o1
        · cases hx
      · cases hx
    · cases h
theorem ykX {e:Env} (hl:Like E e) {call:Nat→List PV→Hp→Option (PV×Hp)} {F:Frm} {H:Hp} {o:AOp} {out:Out} (h:yab e call F H o=some out) (a b _ _:List Nat) :
    Cov ⟨a++(yeW E F H o).rd,b++(yeW E F H o).wr,(yeW E F H o).hr,(yeW E F H o).hw,(yeW E F H o).push,(yeW E F H o).all⟩
      ((⟨a++(fpOp E F H o).rd,b++(fpOp E F H o).wr,(fpOp E F H o).hr,(fpOp E F H o).hw,(fpOp E F H o).push,(fpOp E F H o).all⟩:FP).tight H out.h):=by
  unfold yeW
  split
  · rename_i f as
    cases hq:yaW E F f as with
    | true=>exact Cov.tight _ _ _
    | false =>
    rw [cond_false]
    split
    · rename_i l hli
      unfold yjC at hli
      split at hli
      · rename_i g vs hg hvs
        have hg':evV e F f=some g:=by unfold Like at hl;rw [hl,ybm];exact hg
        have hv':evs e F as=some vs:=by unfold Like at hl;rw [hl,ycF];exact hvs
        simp only [yab,hg',hv'] at h
        split at h
        · rename_i r H1 hr
          cases h
          have key:∀ id,id∈chgH 0 H H1→id∈l:=by
            split at hli
            · rename_i x hx
              cases hli
              simp only [ycl,(ycW hl g vs).trans hx] at hr
              exact yh9 hr
            · rename_i hx
              simp only [ycl,(ycW hl g vs).trans hx] at hr
              split at hli
              · rename_i n first captured
                cases hqu:E.qui n with
                | false=>rw [hqu] at hli;cases hli
                | true =>
                  rw [hqu] at hli
                  cases hli
                  have:e.qui n=true:=by unfold Like at hl;rw [hl];exact hqu
                  exact yi2 this hr
              · cases hli
          simp only [fpOp,hq,Bool.not_false,FP.tight,if_true]
          exact ⟨rfl,rfl,.inr ⟨fun _ h=>h,key,fun h=>h,rfl⟩⟩
        · cases h
      · cases hli
    · exact Cov.tight _ _ _
  · exact Cov.tight _ _ _
theorem ygT {P:EP} (hP:Sub P E) (hG:Good P callK) {an:List An} {F0:Frm} {l0:List AOper} {pairs:List (Nat×Nat)}:∀ (l:List AOper) (i:Nat) (F:Frm) (H:Hp) (ps:List FP) (K:Frm→Hp→Prop),WFps E callK an F0 l0 pairs l i F H ps K →
    ∃ F' H' qs,K F' H'∧yb7 (ps.reverse++qs) pairs=true∧ydh F0 l0 l0=true∧∃ m0,∀ n e m,m0≤n→P n e→m0≤m→∃ qt,ygS qs qt∧yc5 e (yas e m) l F H=some (F',H',qt)
  | [],i,F,H,ps,K,h=>by
    simp only [WFps] at h
    obtain ⟨h1,h⟩:=yac.1 h
    simp only [Bool.and_eq_true] at h1
    exact ⟨F,H,[],h,by simpa using h1.1,h1.2,0,fun _ _ _ _ _ _=>⟨[],trivial,rfl⟩⟩
  | o::r,i,F,H,ps,K,h=>by
    simp only [WFps] at h
    have hfp:∀ n e,P n e→∀ F H,yaZ e F H o=yaZ E F H o:=by
      intro n e hp F H
      have hl:=hP n e hp
      unfold Like at hl
      rw [hl]
      simp only [yaZ,yiZ]
    rcases ygr h with ⟨hg,h⟩ | ⟨hg,h⟩
    · obtain ⟨out,h,m0,hm⟩:=yjG hP hG h
      split at h
      · exact h.elim
      · rename_i F' hF'
        rw [yfP] at h
        obtain ⟨F2,H2,qs,hk,ha,hb,m1,hm1⟩:=ygT hP hG r (i+1) F' out.h (yiz E F H o::ps) K h
        refine ⟨F2,H2,yiz E F H o::qs,hk,by simpa using ha,hb,max m0 m1,fun n e m hn hp hle=>?_⟩
        obtain ⟨qt,ht,hq⟩:=hm1 n e m (by omega) hp (by omega)
        have ho:=hm n e m (by omega) hp (by omega)
        have e0:ybY e (yas e m) o (F,H)=some (F',out.h):=by
          simp only [ybY,hg,ho,hF',Option.map]
        refine ⟨(yaZ E F H o).tight H out.h::qt,⟨?_,ht⟩,?_⟩
        · simp only [yaZ,hg,yiz]
          exact ykX (hP n e hp) ho _ _ [] []
        · simp only [yc5,e0,hq,hfp n e hp]
    · obtain ⟨F2,H2,qs,hk,ha,hb,m1,hm1⟩:=ygT hP hG r (i+1) (ydt F o.dst) H (fpNo o::ps) K h
      refine ⟨F2,H2,fpNo o::qs,hk,by simpa using ha,hb,m1,fun n e m hn hp hle=>?_⟩
      obtain ⟨qt,ht,hq⟩:=hm1 n e m hn hp hle
      have e0:ybY e (yas e m) o (F,H)=some (ydt F o.dst,H):=by
        simp only [ybY,hg]
        cases o.dst <;> rfl
      have e2:yaZ E F H o=fpNo o:=by simp only [yaZ,hg,fpNo]
      refine ⟨(fpNo o).tight H H::qt,⟨Cov.tight _ _ _,ht⟩,?_⟩
      simp only [yc5,e0,hq,hfp n e hp,e2]
def yhF (P:EP) (c:ACode) (F:Frm) (H:Hp) (Q:Ex→Frm→Hp→Prop):Prop :=
  ∃ x F' H',Q x F' H'∧∃ m0,∀ n e m,m0≤n→P n e→m0≤m→exec e m c F H=some (x,F',H')
theorem yhF.sub {P P':EP} {c:ACode} {F:Frm} {H:Hp} {Q:Ex→Frm→Hp→Prop} (h:yhF P c F H Q) (hs:∀ n e,P' n e→P n e):yhF P' c F H Q:=by
  obtain ⟨x,F',H',h1,m0,h2⟩:=h
  exact ⟨x,F',H',h1,m0,fun n e m k1 k2 k3=>h2 n e m k1 (hs n e k2) k3⟩
def yiD (P:EP) (c:TCode) (F:Frm) (H:Hp) (Q:Ex→Frm→Hp→Prop):Prop:=yhF P (yak c) F H Q
def ybg:TCode→Bool
  | .seq a b | .cond _ a b=>ybg a&&ybg b
  | .block _ b=>ybg b
  | .loop _ b=>ybg b
  | .loopG _ b=>ybg b
  | .join _ b=>ybg b
  | .rangeF _ _ _ _ _ _ _=>false
  | _=>true
def LpOk (P:EP) (E:Env) (lp:LP) (G:Frm):TCode→Prop
  | .seq a b=>LpOk P E lp G a∧LpOk P E lp G b
  | .cond _ a b=>LpOk P E lp G a∧LpOk P E lp G b
  | .block _ b=>LpOk P E lp G b
  | .loop id b=>LpOk P E lp G b∧∀ F H Q,lp id G F H Q→yiD P (.loop id b) F H Q
  | .loopG id b=>LpOk P E lp G b∧∀ F H Q,lp id G F H Q→yiD P (.loopG id b) F H Q
  | .join id b=>LpOk P E lp G b∧∀ F H Q,lp id G F H Q→yiD P (.join id b) F H Q
  | .rangeF _ f np ib ps as bd=>(∃ rs,E.fns f=some ⟨np,rs,yak ib⟩∧rs.length=0)∧(ybg ib=true∧ybg as=true∧ybg bd=true)∧(∀ G,LpOk (Rng E G ps (yak as) (yak bd)) E lp G ib)∧LpOk (Ats E) E lp [] as∧LpOk (Ats E) E lp [] bd
  | _=>True
def YOk (P:EP) (E:Env) (yk:YK):Prop:=∀ vs H K,yk vs H K→∃ r H',K r H'∧∃ m0,∀ n e,m0≤n→P n e→e.yl e.yn E.yn vs H=some (r,H')
theorem YOk.no (P:EP) (E:Env):YOk P E noYK:=fun _ _ _ h=>h.elim
def yeh (P:EP) (E:Env) (callK:CK) (c:TCode):Prop:=ybg c=false→Good (Uni E) callK∧∀ n e,P n e→e=E
theorem yhF.up {P:EP} {c:ACode} {F:Frm} {H:Hp} {Q:Ex→Frm→Hp→Prop} {x:Ex} {F':Frm} {H':Hp} {m0:Nat} (hk:Q x F' H') (h:∀ n e k,m0≤n→P n e→m0≤k→exec e (k+1) c F H=some (x,F',H')):yhF P c F H Q :=
  ⟨x,F',H',hk,m0+1,fun n e m hn hp hm=>by
    obtain ⟨k,rfl⟩:∃ k,m=k+1:=⟨m-1,by omega⟩
    exact h n e k (by omega) hp (by omega)⟩
def ygU (E:Env) (F:Frm) (H:Hp):Option (Ex×Frm×Hp)→Option (Ex×Frm×Hp)
  | some (.norm,_,H') | some (.ret,_,H')=>(match clrY E.yn H.length H' with | some H2=>some (.norm,F,H2) | none=>none)
  | some (.brk k i,_,H')=>if k=E.yn then (match clrY E.yn H.length H' with | some H2=>some (.exit i,F,H2) | none=>none) else none
  | _=>none
theorem ydU {E:Env} {n:Nat} {g:Opd} {ps:List Nat} {as bd:ACode} {F:Frm} {H:Hp} {f:Nat} {first cap:List PV} {fn:AFn} (hg:evV E F g=some (.fn (.func f) first cap)) (hf:E.fns f=some fn) (hc:(first++[PV.fn (.yield E.yn) [] []]++cap).length=fn.nparams∧fn.results.length=0) :
    exec E (n+1) (.rangeF g ps as bd) F H=ygU E F H (exec (E.push ⟨ya1 F,ps,as,bd⟩ (hnd E (ya1 F) ps as bd n)) n fn.body (ybq 0 (first++[PV.fn (.yield E.yn) [] []]++cap)) H):=by
  simp only [exec,hg]
  simp only [hf]
  rw [if_pos hc]
  rfl
theorem yiE {K n0:Nat}:∀ (H:Hp) (i:Nat),noYH (noY K) (fun _=>true) H=true→badY K n0 [] i H=[]
  | [],_,_=>rfl
  | b::r,i,h=>by
    simp only [noYH,Bool.and_eq_true] at h
    have h1:yar (noY K) (fun id=>!memB [] id) b.rows=true:=h.1
    simp only [badY,h1,Bool.not_true,Bool.and_false,cond_false]
    exact yiE r (i+1) h.2
theorem ykY {K n0:Nat} {H:Hp} (h:noYH (noY K) (fun _=>true) H=true):clrY K n0 H=some H:=by
  simp only [clrY,yiE H 0 h,h,cond_true]
theorem ydJ {lp:LP}:∀ (c:TCode) (P:EP) (_:Sub P E) (_:Good P callK) (_:yeh P E callK c) (G:Frm) (yk:YK) (_:YOk P E yk) (_:LpOk P E lp G c) (F:Frm) (H:Hp) (Q:Ex→Frm→Hp→Prop),WC E callK lp G yk c F H Q→yhF P (yak c) F H Q
  | .skip,P,hP,hG,hR,G,yk,hY,_,F,H,Q,h=>by
    simp only [WC] at h
    exact yhF.up (m0:=0) h fun n e k _ _ _=>by simp only [yak,exec]
  | .exit id,P,hP,hG,hR,G,yk,hY,_,F,H,Q,h=>by
    simp only [WC] at h
    exact yhF.up (m0:=0) h fun n e k _ _ _=>by simp only [yak,exec]
  | .ret,P,hP,hG,hR,G,yk,hY,_,F,H,Q,h=>by
    simp only [WC] at h
    exact yhF.up (m0:=0) h fun n e k _ _ _=>by simp only [yak,exec]
  | .bad,P,hP,hG,hR,G,yk,hY,_,F,H,Q,h=>by simp only [WC] at h
  | .cut _,P,hP,hG,hR,G,yk,hY,_,F,H,Q,h=>by simp only [WC] at h
  | .ops l an ps fg,P,hP,hG,hR,G,yk,hY,_,F,H,Q,h=>by
    cases ps with
    | nil =>
      simp only [WC] at h
      obtain ⟨F',H',hk,m0,hm⟩:=ye8 hP hG l 0 F H _ h
      rw [yfP] at hk
      exact yhF.up (m0:=m0) hk fun n e k hn hp hle=>by simp only [yak,exec,ycI,hm n e k hn hp hle]
    | cons p ps =>
      simp only [WC] at h
      obtain ⟨F',H',qs,hk,ha,hb,m0,hm⟩:=ygT hP hG l 0 _ H [] _ h
      rw [yfP] at hk
      refine yhF.up (m0:=m0) hk fun n e k hn hp hle=>?_
      obtain ⟨qt,ht,hq⟩:=hm n e k hn hp hle
      simp only [yak,exec,ycI,hq]
      rw [if_pos ⟨yeY ht _ (by simpa using ha),hb⟩]
  | .seq a b,P,hP,hG,hR,G,yk,hY,hl,F,H,Q,h=>by
    simp only [WC] at h
    simp only [LpOk] at hl
    have hRa:yeh P E callK a:=fun hf=>hR (by simp only [ybg,hf,Bool.false_and])
    have hRb:yeh P E callK b:=fun hf=>hR (by simp only [ybg,hf,Bool.and_false])
    obtain ⟨x,F',H',hk,m0,hm⟩:=ydJ a P hP hG hRa G yk hY hl.1 F H _ h
    cases x with
    | norm =>
      obtain ⟨x2,F2,H2,hk2,m1,hm1⟩:=ydJ b P hP hG hRb G yk hY hl.2 F' H' Q hk
      exact yhF.up (m0:=max m0 m1) hk2 fun n e k hn hp hle=>by simp only [yak,exec,hm n e k (by omega) hp (by omega),hm1 n e k (by omega) hp (by omega)]
    | exit i=>exact yhF.up (m0:=m0) hk fun n e k hn hp hle=>by simp only [yak,exec,hm n e k hn hp hle]
    | ret=>exact yhF.up (m0:=m0) hk fun n e k hn hp hle=>by simp only [yak,exec,hm n e k hn hp hle]
    | brk _ _=>exact yhF.up (m0:=m0) hk fun n e k hn hp hle=>by simp only [yak,exec,hm n e k hn hp hle]
  | .cond c a b,P,hP,hG,hR,G,yk,hY,hl,F,H,Q,h=>by
    simp only [WC] at h
    simp only [LpOk] at hl
    have hRa:yeh P E callK a:=fun hf=>hR (by simp only [ybg,hf,Bool.false_and])
    have hRb:yeh P E callK b:=fun hf=>hR (by simp only [ybg,hf,Bool.and_false])
    split at h
    · rename_i t ht
      have hte:∀ n e,P n e→evV e F c=some (.bool t):=fun n e hp=>by
        have hl:=hP n e hp
        unfold Like at hl
        rw [hl,ybm];exact ht
      obtain ⟨h1,h2⟩:=ybf.1 h
      cases t with
      | true =>
        obtain ⟨x,F',H',hk,m0,hm⟩:=ydJ a P hP hG hRa G yk hY hl.1 F H Q (yiC ht ▸ h1 rfl)
        exact yhF.up (m0:=m0) hk fun n e k hn hp hle=>by simp only [yak,exec,hte n e hp,hm n e k hn hp hle]
      | false =>
        obtain ⟨x,F',H',hk,m0,hm⟩:=ydJ b P hP hG hRb G yk hY hl.2 F H Q (yiC ht ▸ h2 rfl)
        exact yhF.up (m0:=m0) hk fun n e k hn hp hle=>by simp only [yak,exec,hte n e hp,hm n e k hn hp hle]
    · exact h.elim
  | .block id b,P,hP,hG,hR,G,yk,hY,hl,F,H,Q,h=>by
    simp only [WC] at h
    simp only [LpOk] at hl
    have hRb:yeh P E callK b:=fun hf=>hR (by simp only [ybg,hf])
    obtain ⟨x,F',H',hk,m0,hm⟩:=ydJ b P hP hG hRb G yk hY hl F H _ h
    cases x with
    | norm=>exact yhF.up (m0:=m0) hk fun n e k hn hp hle=>by simp only [yak,exec,hm n e k hn hp hle]
    | exit i =>
      simp only at hk
      cases hb:Nat.beq i id with
      | true =>
        rw [hb] at hk
        have e:=Nat.eq_of_beq_eq_true hb
        subst e
        exact yhF.up (m0:=m0) (x:=.norm) hk fun n e k hn hp hle=>by simp only [yak,exec,hm n e k hn hp hle,if_true]
      | false =>
        rw [hb] at hk
        have e:¬i=id:=fun e=>by subst e;rw [Nat.beq_refl] at hb;cases hb
        exact yhF.up (m0:=m0) (x:=.exit i) hk fun n e' k hn hp hle=>by simp only [yak,exec,hm n e' k hn hp hle,e,if_false]
    | ret=>exact yhF.up (m0:=m0) hk fun n e k hn hp hle=>by simp only [yak,exec,hm n e k hn hp hle]
    | brk _ _=>exact yhF.up (m0:=m0) hk fun n e k hn hp hle=>by simp only [yak,exec,hm n e k hn hp hle]
  | .loop id b,P,hP,hG,hR,G,yk,hY,hl,F,H,Q,h=>by
    simp only [WC] at h
    simp only [LpOk] at hl
    exact hl.2 F H Q h
  | .loopG id b,P,hP,hG,hR,G,yk,hY,hl,F,H,Q,h=>by
    simp only [WC] at h
    simp only [LpOk] at hl
    exact hl.2 F H Q h
  | .join id b,P,hP,hG,hR,G,yk,hY,hl,F,H,Q,h=>by
    simp only [WC] at h
    simp only [LpOk] at hl
    exact hl.2 F H Q h
  | .yret c pre d y args e0 fgt,P,hP,hG,hR,G,yk,hY,_,F,H,Q,h=>by
    simp only [WC] at h
    obtain ⟨F1,H1,hk,m0,hm⟩:=ye8 hP hG pre 0 F H _ h
    split at hk
    · rename_i k vs hy hvs
      obtain ⟨hb,hk⟩:=yac.1 hk
      have hb:=Nat.eq_of_beq_eq_true hb
      subst hb
      obtain ⟨r,H2,hk,m1,hm1⟩:=hY _ _ _ hk
      have hye:∀ n e,P n e→evV e F1 y=some (.fn (.yield E.yn) [] [])∧evs e F1 args=some vs:=fun n e hp=>by
        have hl:=hP n e hp
        unfold Like at hl
        rw [hl,ybm,ycF];exact ⟨hy,hvs⟩
      cases r with
      | none =>
        simp only [yfP] at hk
        refine yhF.up (m0:=max m0 m1) hk fun n e k hn hp hle=>?_
        simp only [yak,exec,ycI,hm n e k (by omega) hp (by omega),(hye n e hp).1,(hye n e hp).2,hm1 n e (by omega) hp]
      | some i =>
        refine yhF.up (m0:=max m0 m1) hk fun n e k hn hp hle=>?_
        simp only [yak,exec,ycI,hm n e k (by omega) hp (by omega),(hye n e hp).1,(hye n e hp).2,hm1 n e (by omega) hp]
    · exact hk.elim
  | .rangeF g f np ib ps as bd,P,hP,hG,hR,G,yk,hY,hl,F,H,Q,h=>by
    simp only [WC] at h
    simp only [LpOk] at hl
    obtain ⟨⟨rs,hfn,hrs⟩,hflat,hl1,hl2,hl3⟩:=hl
    obtain ⟨hU,hE⟩:=hR rfl
    split at h
    · rename_i n first cap hg
      obtain ⟨hc,h2⟩:=yac.1 h
      clear h
      simp only [Bool.and_eq_true,decide_eq_true_eq] at hc
      have hn:=Nat.eq_of_beq_eq_true hc.1
      subst hn
      have hq:∀ (P':EP) (c:TCode) (_:Sub P' E),ybg c=true→yeh P' E callK c:=fun _ _ _ hf hf'=>by rw [hf] at hf';cases hf'
      have hyo:YOk (Rng E (ya1 F) ps (yak as) (yak bd)) E (fun vs H K=>match ycY (ya1 F) ps vs with
            | some F1=>WC E callK lp [] noYK as F1 H fun x F2 H2=>match x with
              | .norm=>WC E callK lp [] noYK bd F2 H2 fun x _ H3=>match x with
                | .norm=>K none H3
                | .exit i=>K (some i) H3
                | .ret | .brk _ _=>False
              | .exit _ | .ret | .brk _ _=>False
            | none=>False):=by
        intro vs H K hk
        simp only at hk
        split at hk
        · rename_i F1 hF1
          obtain ⟨x,F2,H2,hk,m0,hm⟩:=ydJ as (Ats E) (Sub.ats E) (hU.sub (Sub.ats E)) (hq _ _ (Sub.ats E) hflat.2.1) [] noYK (YOk.no _ _) hl2 F1 H _ hk
          cases x with
          | norm =>
            simp only at hk
            obtain ⟨x,F3,H3,hk,m1,hm1⟩:=ydJ bd (Ats E) (Sub.ats E) (hU.sub (Sub.ats E)) (hq _ _ (Sub.ats E) hflat.2.2) [] noYK (YOk.no _ _) hl3 F2 H2 _ hk
            have key:∀ n e,max m0 m1≤n→Rng E (ya1 F) ps (yak as) (yak bd) n e→e.yl e.yn E.yn vs H=hnd E (ya1 F) ps (yak as) (yak bd) n (E.yn+1) vs H:=by
              intro n e hn he
              cases he
              simp only [Env.push,if_true]
            cases x with
            | norm =>
              refine ⟨none,H3,hk,max m0 m1,fun n e hn he=>?_⟩
              rw [key n e hn he]
              simp only [hnd,hF1,hm n _ n (by omega) rfl (by omega),hm1 n _ n (by omega) rfl (by omega)]
            | exit i =>
              refine ⟨some i,H3,hk,max m0 m1,fun n e hn he=>?_⟩
              rw [key n e hn he]
              simp only [hnd,hF1,hm n _ n (by omega) rfl (by omega),hm1 n _ n (by omega) rfl (by omega)]
            | ret=>exact hk.elim
            | brk _ _=>exact hk.elim
          | exit i=>exact hk.elim
          | ret=>exact hk.elim
          | brk _ _=>exact hk.elim
        · exact hk.elim
      obtain ⟨x,F',H',hk,m0,hm⟩:=ydJ ib (Rng E (ya1 F) ps (yak as) (yak bd)) (Sub.rng E (ya1 F) ps (yak as) (yak bd)) (hU.sub (Sub.rng E (ya1 F) ps (yak as) (yak bd))) (hq _ _ (Sub.rng E (ya1 F) ps (yak as) (yak bd)) hflat.1) (ya1 F) _ hyo (hl1 _) _ H _ h2
      have hclr:∀ {H':Hp} {Q':Hp→Prop},WClr E.yn H' Q'→Q' H'∧clrY E.yn H.length H'=some H':=fun hw=>by
        obtain ⟨h1,h2⟩:=yac.1 hw
        exact ⟨h2,ykY h1⟩
      have run:∀ k,m0≤k→exec (E.push ⟨ya1 F,ps,yak as,yak bd⟩ (hnd E (ya1 F) ps (yak as) (yak bd) k)) k (yak ib) (ybq 0 (first++[PV.fn (.yield E.yn) [] []]++cap)) H=some (x,F',H'):=fun k hle=>hm k _ k hle rfl hle
      cases x with
      | norm =>
        obtain ⟨hk,hcl⟩:=hclr hk
        refine yhF.up (m0:=m0) hk fun n e k hn hp hle=>?_
        cases hE n e hp
        simp only [yak]
        rw [ydU hg hfn ⟨hc.2,hrs⟩]
        simp only
        rw [run k hle]
        simp only [ygU,hcl]
      | ret =>
        obtain ⟨hk,hcl⟩:=hclr hk
        refine yhF.up (m0:=m0) hk fun n e k hn hp hle=>?_
        cases hE n e hp
        simp only [yak]
        rw [ydU hg hfn ⟨hc.2,hrs⟩]
        simp only
        rw [run k hle]
        simp only [ygU,hcl]
      | brk k0 i =>
        obtain ⟨hb,hk2⟩:=yac.1 hk
        clear hk
        have hb:=Nat.eq_of_beq_eq_true hb
        subst hb
        obtain ⟨hk,hcl⟩:=hclr hk2
        refine yhF.up (m0:=m0) hk fun n e k hn hp hle=>?_
        cases hE n e hp
        simp only [yak]
        rw [ydU hg hfn ⟨hc.2,hrs⟩]
        simp only
        rw [run k hle]
        simp only [ygU,if_true,hcl]
      | exit i=>exact hk.elim
    · exact h.elim
theorem yiD.intro {id:Nat} {P:EP} (hP:Sub P E) (hG:Good P callK) {lp:LP} {b:TCode} (hf:ybg b=true) {G:Frm} {yk:YK} (hY:YOk P E yk) (hl:LpOk P E lp G b) {Q:Ex→Frm→Hp→Prop} (R:Nat→Frm→Hp→Prop) (h0:∀ F H,¬R 0 F H)
    (hs:∀ n F H,R (n+1) F H→WC E callK lp G yk b F H fun x F' H'=>match x with | .norm=>R n F' H' | .exit i=>Q (.exit i) F' H' | .ret=>Q .ret F' H' | .brk k i=>Q (.brk k i) F' H') :
    ∀ n F H,R n F H→yiD P (.loop id b) F H Q
  | 0,F,H,h=>(h0 F H h).elim
  | n+1,F,H,h=>by
    obtain ⟨x,F',H',hk,m0,hm⟩:=ydJ b P hP hG (fun hf'=>by rw [hf] at hf';cases hf') G yk hY hl F H _ (hs n F H h)
    cases x with
    | norm =>
      have hk:R n F' H':=hk
      obtain ⟨x2,F2,H2,hk2,m1,hm1⟩:=yiD.intro (id:=id) hP hG hf hY hl R h0 hs n F' H' hk
      simp only [yak] at hm1
      exact yhF.up (m0:=max m0 m1) hk2 fun n e k hn hp hle=>by simp only [yak,exec,hm n e k (by omega) hp (by omega),hm1 n e k (by omega) hp (by omega)]
    | exit i=>exact yhF.up (m0:=m0) hk fun n e k hn hp hle=>by simp only [yak,exec,hm n e k hn hp hle]
    | ret=>exact yhF.up (m0:=m0) hk fun n e k hn hp hle=>by simp only [yak,exec,hm n e k hn hp hle]
    | brk _ _=>exact yhF.up (m0:=m0) hk fun n e k hn hp hle=>by simp only [yak,exec,hm n e k hn hp hle]
end
def AnsP (P:EP) (n:Nat) (as:List PV) (r:PV):Prop:=∃ m0,∀ k e m,m0≤k→P k e→m0≤m→ybz e (yas e m) n as=some r
theorem AnsP.sub {P P':EP} {n:Nat} {as:List PV} {r:PV} (h:AnsP P n as r) (hs:∀ k e,P' k e→P k e):AnsP P' n as r:=by
  obtain ⟨m0,hm⟩:=h
  exact ⟨m0,fun k e m h1 h2 h3=>hm k e m h1 (hs k e h2) h3⟩
def ypW (E:Env):Prop:=∀ n as H x,E.eff n as H=some x→E.qui n=false∧E.frz n=false∧(∀ as,E.sum n as=none)∧E.rb n=false
def AnsL (P:EP) (n:Nat) (as:List PV) (b:HB) (q:PV) (rows:List PV):Prop:=∃ m0,∀ k e m,m0≤k→P k e→m0≤m→yhH (yas e m) n as b=some (q,rows)
structure SEOk (P:EP) (S:SE):Prop where
  sb:Sub P S.E
  sum:∀ n wp,S.sumK n=some wp→∀ as K,wp as K→∃ r,K r∧AnsP P n as r
  inl:∀ n fn,S.inl n=some fn→S.E.fns n=some fn.fn∧S.E.qui n=false∧S.E.frz n=false∧(∀ as,S.E.sum n as=none)∧(∀ as H,S.E.eff n as H=none)∧ybg fn.body=true∧LpOk P S.E S.lp [] fn.body
  eff:ypW S.E
  sumL:∀ n wp,S.sumL n=some wp→∀ as b K,wp as b K→∃ q rows,K q rows∧AnsL P n as b q rows
section
variable {S:SE} {P:EP} {callK:CK} {H:Hp}
theorem ydg {E e:Env} (h:Like E e):e.fns=E.fns∧e.sum=E.sum∧e.qui=E.qui∧e.frz=E.frz∧e.rb=E.rb∧e.nl=E.nl∧e.eff=E.eff:=by
  unfold Like at h
  rw [h]
  exact ⟨rfl,rfl,rfl,rfl,rfl,rfl,rfl⟩
theorem yny (hP:Sub P S.E) (hG:Good P callK) {fn:TFn} (hR:yeh P S.E callK fn.body) (hl:LpOk P S.E S.lp [] fn.body) {n:Nat} (hf:S.E.fns n=some fn.fn) (he:∀ as H,S.E.eff n as H=none) {args:List PV} {K:PV→Hp→Prop} (h:WFn S.E callK S.lp fn args H K) :
    ∃ r H',K r H'∧∃ m0,∀ k e m,m0≤k→P k e→m0≤m→yas e m n args H=some (r,H'):=by
  obtain ⟨h1,h⟩:=yac.1 h
  have h1:args.length=fn.nparams:=by simpa using h1
  obtain ⟨x,F',H',hk,m0,hm⟩:=ydJ fn.body P hP hG hR [] noYK (YOk.no _ _) hl _ H _ h
  have key:(match ycJ F' H' fn.results with | some ps=>K (ycK ps) H' | none=>False)→(x=.norm∨x=.ret) →
      ∃ r H',K r H'∧∃ m0,∀ k e m,m0≤k→P k e→m0≤m→yas e m n args H=some (r,H'):=by
    intro hk hx
    split at hk
    · rename_i ps hps
      refine ⟨_,_,hk,m0+1,fun k e m hkl hp hle=>?_⟩
      obtain ⟨q,rfl⟩:∃ q,m=q+1:=⟨m-1,by omega⟩
      have e0:=hm k e q (by omega) hp (by omega)
      obtain ⟨l1,_,_,_,_,_,l7⟩:=ydg (hP k e hp)
      simp only [yas,Env.effx,yi6,l7,l1,he,hf,TFn.fn,h1,if_true]
      rw [e0]
      rcases hx with rfl | rfl <;> simp only [hps]
    · exact hk.elim
  cases x with
  | norm=>exact key hk (.inl rfl)
  | exit i=>exact hk.elim
  | brk _ _=>exact hk.elim
  | ret=>exact key hk (.inr rfl)
theorem yei {e:Env} {call:Nat→List PV→Hp→Option (PV×Hp)} {f:PV} {args:List PV} (h:ydw e f args=none):ycl e call f args H=ybT e call f args H:=by
  simp only [ycl,h]
theorem yhG (hS:SEOk P S):∀ d,Good P (yiA S d)
  | 0,f,args,H,K,h=>h.elim
  | d+1,f,args,H,K,h=>by
    unfold yiA at h
    split at h
    · rename_i n first captured
      split at h
      · rename_i x hx
        split at h
        · rename_i wp hwp
          unfold WLoc at h
          obtain ⟨as,H',h,hp⟩:=yfW _ _ _ h
          split at h
          · rename_i b hb
            obtain ⟨hc,h⟩:=yac.1 h
            simp only [Bool.and_eq_true,Bool.not_eq_true'] at hc
            obtain ⟨q,rows,hk,m0,hm⟩:=hS.sumL _ wp hwp _ _ _ h
            refine ⟨q,_,hk,m0,fun k e m hkl he hle=>?_⟩
            simp only [ycl,ycW (hS.sb k e he),hx,yek,hp,hb]
            rw [if_pos hc]
            simp only [hm k e m hkl he hle]
          · exact h.elim
        · exact h.elim
      rename_i hx
      have hx':∀ k e,P k e→ydw e (.fn (.func n) first captured) args=none:=fun k e he=>(ycW (hS.sb k e he) _ _).trans hx
      split at h
      · rename_i wp hwp
        cases hb:S.E.rb n with
        | true =>
          rw [hb,cond_true] at h
          obtain ⟨as,h,hp⟩:=ygp _ _ h
          obtain ⟨r,hk,m0,hm⟩:=hS.sum n wp hwp as _ h
          obtain ⟨hs,hk⟩:=yac.1 hk
          refine ⟨r,_,hk,m0,fun k e m hkl he hle=>?_⟩
          obtain ⟨_,_,_,_,l5,_,_⟩:=ydg (hS.sb k e he)
          rw [yei (hx' k e he)]
          simp only [ybT,l5,hb,if_true,hp,hm k e m hkl he hle,hs]
        | false =>
          rw [hb,cond_false] at h
          obtain ⟨as,H',h,hp⟩:=yfW _ _ _ h
          obtain ⟨r,hk,m0,hm⟩:=hS.sum n wp hwp as _ h
          refine ⟨r,_,hk,m0,fun k e m hkl he hle=>?_⟩
          obtain ⟨_,_,_,_,l5,_,_⟩:=ydg (hS.sb k e he)
          rw [yei (hx' k e he)]
          simp only [ybT,l5,hb,Bool.false_eq_true,if_false,hp,hm k e m hkl he hle]
          cases r.scalar <;> simp
      · split at h
        · rename_i fn hfn
          obtain ⟨h1,h2,h3,h4,h6,h7,h5⟩:=hS.inl n fn hfn
          cases hb:S.E.rb n with
          | true =>
            rw [hb,cond_true] at h
            exact h.elim
          | false =>
            rw [hb,cond_false] at h
            obtain ⟨r,H',hk,m0,hm⟩:=yny hS.sb (yhG hS d) (fun hf=>by rw [h7] at hf;cases hf) h5 h1 h6 h
            refine ⟨r,H',hk,m0,fun k e m hkl he hle=>?_⟩
            obtain ⟨_,l2,l3,l4,l5,_,_⟩:=ydg (hS.sb k e he)
            have e0:∀ as,ybz e (yas e m) n as=none:=by
              intro as;simp only [ybz,l2,l3,h4 as,h2];rfl
            rw [yei (hx' k e he)]
            simp only [ybT,e0,l3,l4,l5,h2,h3,hb]
            cases yaj H (first++args++captured) <;> simp only [Bool.false_eq_true,if_false,hm k e m hkl he hle]
        · split at h
          · rename_i c t x y he
            obtain ⟨hc,h⟩:=yac.1 h
            subst hc
            obtain ⟨h2,h3,h4,h7⟩:=hS.eff n _ _ _ he
            obtain ⟨r,H',h,hrt⟩:∃ r H',K r H'∧(bif t then x else y)=(r,H'):=by
              cases t with
              | true=>exact ⟨_,_,h,rfl⟩
              | false=>exact ⟨_,_,h,rfl⟩
            refine ⟨r,H',h,1,fun k e m hkl hp hle=>?_⟩
            obtain ⟨k,rfl⟩:∃ k,m=k+1:=⟨m-1,by omega⟩
            obtain ⟨_,l2,l3,l4,l5,_,l7⟩:=ydg (hS.sb _ e hp)
            have e0:∀ as,ybz e (yas e (k+1)) n as=none:=by
              intro as;simp only [ybz,l2,l3,h4 as,h2];rfl
            have hi:yas e (k+1) n (first++args++captured) H=some (r,H'):=by
              simp only [yas,Env.effx,yi6,l7,he,hrt]
            rw [yei (hx' _ e hp)]
            simp only [ybT,e0,l3,l4,l5,h2,h3,h7]
            cases yaj H (first++args++captured) <;> simp only [Bool.false_eq_true,if_false,hi]
          · exact h.elim
    · exact h.elim
end
theorem LpOk.sub {P P':EP} {E:Env} {lp:LP} {G:Frm} (hs:∀ n e,P' n e→P n e):∀ (c:TCode),ybg c=true→LpOk P E lp G c→LpOk P' E lp G c
  | .skip,_,_ | .ops _ _ _ _,_,_ | .exit _,_,_ | .ret,_,_ | .bad,_,_ | .yret _ _ _ _ _ _ _,_,_ | .cut _,_,_=>trivial
  | .rangeF _ _ _ _ _ _ _,hf,_=>by simp [ybg] at hf
  | .seq a b,hf,h=>by
    simp only [ybg,Bool.and_eq_true] at hf
    exact ⟨LpOk.sub hs a hf.1 h.1,LpOk.sub hs b hf.2 h.2⟩
  | .cond _ a b,hf,h=>by
    simp only [ybg,Bool.and_eq_true] at hf
    exact ⟨LpOk.sub hs a hf.1 h.1,LpOk.sub hs b hf.2 h.2⟩
  | .block _ b,hf,h=>LpOk.sub hs b hf h
  | .loop _ b,hf,h=>⟨LpOk.sub hs b hf h.1,fun F H Q k=>(h.2 F H Q k).sub hs⟩
  | .loopG _ b,hf,h=>⟨LpOk.sub hs b hf h.1,fun F H Q k=>(h.2 F H Q k).sub hs⟩
  | .join _ b,hf,h=>⟨LpOk.sub hs b hf h.1,fun F H Q k=>(h.2 F H Q k).sub hs⟩
theorem yeh.one {S:SE} (h:SEOk (Uni S.E) S) (d:Nat) {c:TCode}:yeh (Solo S.E) S.E (yiA S d) c:=fun _=>⟨yhG h d,fun _ _ he=>he⟩
end Go.Pf
namespace Go.Pf
open Go
end Go.Pf
namespace Go.Pf
open Go Go.RowKit
section
variable {P:Program} {E:Env}
end
section
variable {P:Program} {E:Env}
end
theorem ydC.any {P:Program} {G:Nat→Option PV} {f:FuncId} {as:List PV} {r:PV} (h:ydC P (fun _=>none) f as r):ydC P G f as r :=
  fun I w vs hI _ hv=>h I w vs hI (fun _ _ e=>nomatch e) hv
end Go.Pf
namespace Go.Pf
def O (d:Nat) (x:AOp):AOper:=⟨some d,x,none⟩
def M (d s:Nat):AOper:=⟨some d,.mv (.t s),none⟩
def I (n:Int):Opd:=.c (.int .i64 n)
end Go.Pf
namespace Go.Pf
open Go
inductive DS where
  | b
  | i (k:IntKind)
  | s (e:DS)
  | a (l:List DS)
def DS.isA:DS→Bool
  | .a _=>true
  | _=>false
def PV.isAgg:PV→Bool
  | .agg _=>true
  | _=>false
mutual
def HasF:DS→List PV→Prop
  | .b,c=>∃ x,c=[.bool x]
  | .i k,c=>∃ n,c=[.int k n]∧inK k n
  | .s e,c=>∃ rows:List PV,c=[.data rows]∧rows.length≤maxLen∧∀ x∈rows,x.isAgg=e.isA∧HasF e x.cells
  | .a l,c=>HasL l c
def HasL:List DS→List PV→Prop
  | [],c=>c=[]
  | d::l,c=>∃ c1 c2,c=c1++c2∧HasF d c1∧HasL l c2
end
mutual
def tyOk (P:Program):DS→TypeId→Bool
  | .b,t=>(match P.underlying t with | some .bool=>true | _=>false)
  | .i k,t=>(match P.underlying t with | some (.int q)=>decide (q=k) | _=>false)
  | .s e,t=>(match P.underlying t with | some (.slice u)=>decide (0<P.cellsOf u)&&tyOk P e u | _=>false)
  | .a l,t=>(match P.underlying t with | some (.struct fs)=>tyL P l (fs.toList.map (·.type)) | some (.array n u)=>tyL P l (List.replicate n u) | _=>false)
def tyL (P:Program):List DS→List TypeId→Bool
  | [],[]=>true
  | d::l,t::r=>tyOk P d t&&tyL P l r
  | _,_=>false
end
theorem yiF (P:Program):∀ (l:List DS) (ts:List TypeId),tyL P l ts=true→l.length=ts.length
  | [],[],_=>rfl
  | _::l,_::r,h=>by
    unfold tyL at h
    simp only [Bool.and_eq_true] at h
    simp [yiF P l r h.2]
  | [],_::_,h=>by unfold tyL at h;cases h
  | _::_,[],h=>by unfold tyL at h;cases h
theorem yiG (P:Program):∀ (l:List DS) (ts:List TypeId),tyL P l ts=true→∀ (j:Nat) d t,l[j]?=some d→ts[j]?=some t→tyOk P d t=true
  | [],[],_,_,_,_,h,_=>by simp at h
  | d::l,t::r,h,0,d',t',h1,h2=>by
    unfold tyL at h
    simp only [Bool.and_eq_true] at h
    simp only [List.getElem?_cons_zero,Option.some.injEq] at h1 h2
    subst h1;subst h2;exact h.1
  | d::l,t::r,h,j+1,d',t',h1,h2=>by
    unfold tyL at h
    simp only [Bool.and_eq_true] at h
    exact yiG P l r h.2 j d' t' (by simpa using h1) (by simpa using h2)
  | [],_::_,h,_,_,_,_,_=>by unfold tyL at h;cases h
  | _::_,[],h,_,_,_,_,_=>by unfold tyL at h;cases h
section
variable {H:Type} {enc:TypeId×Value→H} {P:Program} {w:World} {I:Nat→Prop}
theorem yib {l1 l2:List PV} {v1 v2:List Value} (h1:yah I w l1 v1) (h2:yah I w l2 v2):yah I w (l1++l2) (v1++v2):=ycu h1 h2
def ylS (enc:TypeId×Value→H) (P:Program) (w:World) (I:Nat→Prop) (n:Nat):Prop :=
  ∀ (d:DS) (t:TypeId) (cs:List Value) (x:DataW H×List MemPlace),t<P.types.size→tyOk P d t=true→DataW.trod enc P w 0 (fun _=>true) true n t cs=some x→(∀ p∈x.2,I p.block)→∃ pcs,HasF d pcs∧yah I w pcs cs
theorem yfY {n:Nat} (ih:ylS enc P w I n) {l:List DS} {ts:List TypeId} (hl:tyL P l ts=true) (hrow:∀ t∈ts,t<P.types.size) {cs:List Value} {xs:List (DataW H×List MemPlace)} (off:Nat→Nat)
    (hoff:∀ j t,ts[j]?=some t→off (j+1)=off j+P.cellsOf t) (hend:cs.length≤off ts.length) (hx:∀ j t,ts[j]?=some t→DataW.trod enc P w 0 (fun _=>true) true n t ((cs.drop (off j)).take (P.cellsOf t))=xs[j]?)
    (hxl:xs.length=ts.length) (hI:∀ p∈xs.flatMap (·.2),I p.block) :
    ∀ (r j:Nat),j+r=ts.length→∃ pcs,HasL (l.drop j) pcs∧yah I w pcs (cs.drop (off j)):=by
  have hll:=yiF P l ts hl
  intro r
  induction r with
  | zero =>
    intro j hj
    refine ⟨[],?_,?_⟩
    · rw [List.drop_of_length_le (by omega)];simp only [HasL]
    · rw [List.drop_of_length_le (by rw [show j=ts.length by omega];exact hend)];simp only [yah]
  | succ r ihr =>
    intro j hj
    obtain ⟨pcs,h1,h2⟩:=ihr (j+1) (by omega)
    have ht:ts[j]?=some ts[j]:=List.getElem?_eq_getElem (by omega)
    have hd:l[j]?=some l[j]:=List.getElem?_eq_getElem (by omega)
    have hxj:xs[j]?=some xs[j]:=List.getElem?_eq_getElem (by omega)
    have h:=hx j _ ht
    rw [hxj] at h
    obtain ⟨pc,k1,k2⟩:=ih l[j] ts[j] _ _ (hrow _ (List.getElem_mem _)) (yiG P l ts hl j _ _ hd ht) h (fun p hp=>hI p (List.mem_flatMap.2 ⟨xs[j],List.getElem_mem _,hp⟩))
    refine ⟨pc++pcs,?_,?_⟩
    · rw [List.drop_eq_getElem_cons (by omega)]
      simp only [HasL]
      exact ⟨pc,pcs,rfl,k1,h1⟩
    · have e:cs.drop (off j)=(cs.drop (off j)).take (P.cellsOf ts[j])++cs.drop (off (j+1)):=by
        rw [hoff j _ ht,← List.drop_drop,List.take_append_drop]
      rw [e]
      exact yib k2 h2
theorem ynz {d:DS} {pcs:List PV} (h:HasF d pcs):∃ x:PV,x.isAgg=d.isA∧x.cells=pcs∧∀ vs,yah I w pcs vs→RC I w x vs:=by
  have one:∀ y:PV,y.isAgg=false→pcs=[y]→d.isA=false→∃ x:PV,x.isAgg=d.isA∧x.cells=pcs∧∀ vs,yah I w pcs vs→RC I w x vs:=by
    intro y hy e hd
    refine ⟨y,hy.trans hd.symm,?_,?_⟩
    · subst e;cases y <;> first | rfl | cases hy
    · intro vs hv
      subst e
      simp only [yah] at hv
      obtain ⟨v,vr,rfl,_,h1,rfl⟩:=hv
      exact h1
  cases d with
  | b=>simp only [HasF] at h;obtain ⟨x,e⟩:=h;exact one _ rfl e rfl
  | i k=>simp only [HasF] at h;obtain ⟨x,e,_⟩:=h;exact one _ rfl e rfl
  | s e=>simp only [HasF] at h;obtain ⟨x,e,_⟩:=h;exact one _ rfl e rfl
  | a l=>exact ⟨.agg pcs,rfl,rfl,fun vs hv=>by simp only [RC];exact hv⟩
theorem yic (K:Kids P (·<P.types.size)):∀ n,ylS enc P w I n:=by
  intro n
  induction n with
  | zero=>intro d t cs x _ _ h;simp [DataW.trod] at h
  | succ n ih =>
    intro d t cs x hrow hty h hI
    cases d with
    | b =>
      unfold tyOk at hty
      split at hty
      · rename_i ht
        obtain ⟨b,rfl,_⟩:=DataW.trod_bool ht h
        refine ⟨[.bool b],by simp only [HasF];exact ⟨b,rfl⟩,?_⟩
        simp only [yah,RC]
        exact ⟨_,_,rfl,rfl,rfl,rfl⟩
      · cases hty
    | i k =>
      unfold tyOk at hty
      split at hty
      · rename_i q ht
        simp only [decide_eq_true_eq] at hty
        subst hty
        obtain ⟨m,rfl,_,hw⟩:=DataW.trod_int ht h
        have hk:inK q m:=by
          unfold inK
          simpa [Lit.wf] using hw
        refine ⟨[.int q m],by simp only [HasF];exact ⟨m,rfl,hk⟩,?_⟩
        simp only [yah,RC]
        exact ⟨_,_,rfl,rfl,⟨rfl,hk⟩,rfl⟩
      · cases hty
    | s e =>
      unfold tyOk at hty
      split at hty
      · rename_i u ht
        simp only [Bool.and_eq_true,decide_eq_true_eq] at hty
        obtain ⟨hpos,hty⟩:=hty
        rcases DataW.trod_slice ht h with ⟨rfl,_⟩ | ⟨a,len,cap,elems,rest,m,hm,rfl,rfl,_,hle,hcap,hlen,hel,_⟩
        · refine ⟨[.data []],?_,?_⟩
          · simp only [HasF];exact ⟨[],rfl,by simp,by simp⟩
          · simp only [yah,RC]
            exact ⟨_,_,rfl,rfl,⟨none,0,0,rfl,rfl,by omega,by decide,by simp⟩,rfl⟩
        · have hmn:m=n:=by omega
          subst hmn
          have hru:=K.slice hrow ht
          have hspot0:len≠0→a.spot=none:=by
            intro h0
            have hb:=hel 0 (by omega)
            rw [List.getElem?_eq_getElem (by omega)] at hb
            obtain ⟨cs',hc,hy⟩:=Option.bind_eq_some_iff.1 hb
            obtain ⟨_,hcl,hcg⟩:=World.cells?_some hc
            have h0:=hcg 0 hpos
            rw [List.getElem?_eq_getElem (by omega)] at h0
            have e0:(a.add (0*P.cellsOf u)).add 0=a:=by simp [Addr.add]
            rw [e0] at h0
            unfold World.cell? at h0
            split at h0
            · split at h0
              · cases h0
              · rename_i hs;simpa using hs
            · cases h0
          have hadd:a.spot=none→∀ k i:Nat,(a.add k).add i=⟨a.block,a.off+k+i,none⟩:=by
            intro hs k i
            obtain ⟨ab,ao,as⟩:=a
            simp only at hs
            subst hs
            simp only [Addr.add]
            by_cases h1:k=0 <;> by_cases h2:i=0 <;> simp [h1,h2,Nat.add_assoc]
          have yb6:∀ (r j:Nat),j+r=len→∃ rows:List PV,rows.length=r∧(∀ x∈rows,x.isAgg=e.isA∧HasF e x.cells)∧(r≠0→a.spot=none∧I a.block)∧yaq I w rows (P.cellsOf u) a.block (a.off+j*P.cellsOf u):=by
            intro r
            induction r with
            | zero=>intro j _;exact ⟨[],rfl,by simp,fun h=>absurd rfl h,by simp only [yaq]⟩
            | succ r ihr =>
              intro j hj
              obtain ⟨rows,l1,l2,_,l4⟩:=ihr (j+1) (by omega)
              have hj2:j<elems.length:=by omega
              have hb:=hel j (by omega)
              rw [List.getElem?_eq_getElem hj2] at hb
              obtain ⟨cs',hc,hy⟩:=Option.bind_eq_some_iff.1 hb
              obtain ⟨_,hcl,hcg⟩:=World.cells?_some hc
              obtain ⟨pcs,k1,k2⟩:=ih e u cs' _ hru hty hy (fun p hp=>hI p (by
                simp only [List.mem_append,List.mem_flatMap]
                exact .inr ⟨elems[j],.inl (List.getElem_mem _),hp⟩))
              obtain ⟨x,x1,x2,x3⟩:=ynz (I:=I) (w:=w) k1
              have hspot:=hspot0 (by omega)
              have hIa:I a.block:=hI (.cell a.block a.off) (by
                simp only [List.mem_append]
                left
                exact MemPlace.mem_row.2 ⟨0,Nat.mul_pos (by omega) hpos,rfl⟩)
              refine ⟨x::rows,by simp [l1],?_,fun _=>⟨hspot,hIa⟩,?_⟩
              · intro y hy
                rcases List.mem_cons.1 hy with rfl | hy
                · exact ⟨x1,by rw [x2];exact k1⟩
                · exact l2 y hy
              · simp only [yaq]
                refine ⟨⟨cs',hcl,x3 _ k2,?_⟩,?_⟩
                · intro i v hi
                  have hi2:i<P.cellsOf u:=by rw [← hcl];exact (List.getElem?_eq_some_iff.1 hi).1
                  have:=hcg i hi2
                  rw [hi] at this
                  rw [← this,hadd hspot]
                · rw [Nat.add_assoc,show j*P.cellsOf u+P.cellsOf u=(j+1)*P.cellsOf u by rw [Nat.add_mul,Nat.one_mul]]
                  exact l4
          obtain ⟨rows,l1,l2,l3,l4⟩:=yb6 len 0 (by omega)
          refine ⟨[.data rows],?_,?_⟩
          · simp only [HasF];exact ⟨rows,rfl,by omega,l2⟩
          · simp only [yah,RC]
            refine ⟨_,_,rfl,rfl,⟨some a,len,cap,rfl,l1.symm,hle,hcap,?_⟩,rfl⟩
            by_cases h0:len=0
            · left;exact List.eq_nil_of_length_eq_zero (by omega)
            · right
              obtain ⟨hs,hIa⟩:=l3 h0
              refine ⟨a.block,a.off,P.cellsOf u,?_,hIa,hpos,by simpa using l4⟩
              cases a;simp only at hs;subst hs;rfl
      · cases hty
    | a l =>
      unfold tyOk at hty
      split at hty
      · rename_i fs ht
        obtain ⟨xs,m,hm,rfl,hcl,hxl,hxs⟩:=DataW.trod_struct ht h
        have hmn:m=n:=by omega
        subst hmn
        obtain ⟨k1,k2,k3⟩:=K.struct hrow ht
        have:=yfY ih (l:=l) (ts:=fs.toList.map (·.type)) hty (fun t ht=>by obtain ⟨f,hf,rfl⟩:=List.mem_map.1 ht;exact k1 f hf) (cs:=cs) (xs:=xs) (fun j=>((fs.toList.take j).map fun f=>P.cellsOf f.type).sum)
          (fun j t hj=>by
            rw [List.getElem?_map,Option.map_eq_some_iff] at hj
            obtain ⟨f,hf,rfl⟩:=hj
            obtain ⟨hlt,hf2⟩:=List.getElem?_eq_some_iff.1 hf
            show ((fs.toList.take (j+1)).map _).sum=_
            rw [List.take_add_one,hf]
            simp)
          (by simp only [List.length_map,List.take_length];rw [hcl,k2];exact Nat.le_refl _)
          (fun j t hj=>by
            rw [List.getElem?_map,Option.map_eq_some_iff] at hj
            obtain ⟨f,hf,rfl⟩:=hj
            have:=hxs j f (by simpa using hf)
            rw [← this,k3 j f hf])
          (by simp [hxl]) hI (fs.toList.map (·.type)).length 0 (by omega)
        obtain ⟨pcs,p1,p2⟩:=this
        exact ⟨pcs,by simp only [HasF];exact p1,by simpa using p2⟩
      · rename_i q u ht
        obtain ⟨xs,m,hm,rfl,hcl,hxl,hxs⟩:=DataW.trod_array ht h
        have hmn:m=n:=by omega
        subst hmn
        obtain ⟨k1,k2⟩:=K.array hrow ht
        have:=yfY ih (l:=l) (ts:=List.replicate q u) hty (fun t ht=>by rw [(List.mem_replicate.1 ht).2];exact k1) (cs:=cs) (xs:=xs) (fun j=>j*P.cellsOf u)
          (fun j t hj=>by
            have:t=u:=(List.mem_replicate.1 (List.mem_of_getElem? hj)).2
            subst this
            show (j+1)*_=_
            rw [Nat.add_mul,Nat.one_mul])
          (by rw [List.length_replicate,hcl,k2];exact Nat.le_refl _)
          (fun j t hj=>by
            have e:t=u:=(List.mem_replicate.1 (List.mem_of_getElem? hj)).2
            subst e
            have hlt:j<q:=by have:=(List.getElem?_eq_some_iff.1 hj).1;simpa using this
            exact hxs j hlt)
          (by simp [hxl]) hI (List.replicate q u).length 0 (by omega)
        obtain ⟨pcs,p1,p2⟩:=this
        exact ⟨pcs,by simp only [HasF];exact p1,by simpa using p2⟩
      · cases hty
end
end Go.Pf
