/- Part 2. -/
import Derived.Test.YtfljciocndelnaaGreatEfW1
open Go.IntKind (i64 u8 u64)
open List (length getD take drop replicate set map isEmpty)
noncomputable section
namespace Go.Pf
open Go
section
variable {E:Env} {F F':aF} {H H' H1:Hp} {call:Nat→List PV→Hp→Option (PV×Hp)}
theorem yKS {o:AO} {out:Out} {row:PV} (h:yap E call F H o.op=some out) (hb:out.x=some (.box row)):ysQ o=o.dst∧out.bx=none:=by
 have hv:∀ {p:PV} {H},outV p H=some out→False:=fun e=>by rw [sX e] at hb;cases hb
 unfold ysQ
 cases hop:o.op<;>rw [hop] at h<;>simp only [yap] at h
 case allocL z=>cases h;exact ⟨rfl,rfl⟩
 case boxL x=>
  split at h
  ·split at h
   ·cases h;exact ⟨rfl,rfl⟩
   ·cases h
  ·cases h
 all_goals (repeat' split at h)
 all_goals first | (cases h;done) | exact (hv h).elim | (cases h;cases hb;done)
end
end Go.Pf
namespace Go.Pf
open Go Go.RowKit
section
variable {E:Env} {F F':aF} {H H' H1:Hp} {call:Nat→List PV→Hp→Option (PV×Hp)}
theorem yKT {dst:Option Nat} {x:Option FV} {F1:aF} (h:yhN F dst x=some F1) (hb:∀ row d,x=some (.box row)→dst=some d→noBp F d=true):ye2 F dst x=some F1:=by
 cases dst with
 | none=>cases x with
  | none=>exact h
  | some fv=>cases fv<;>exact h
 | some d=>cases x with
  | none=>exact h
  | some fv=>
   cases fv with
   | box row=>simp only [ye2];rw [vo _ _ (hb row d rfl rfl)];exact h
   | _=>exact h
inductive Loc where
 | sl (s:Nat)
 | bk (id:Nat)
 | len
inductive LV where
 | f (x:Option FV)
 | b (x:Option HB)
 | n (k:Nat)
def look (S:aF×Hp):Loc→LV
 | .sl s=>.f (fget S.1 s)
 | .bk id=>.b S.2[id]?
 | .len=>.n S.2.length
def RdP (p:FP):Loc→Prop
 | .sl s=>s∈p.rd
 | .bk id=>id∈p.hr∨id∈p.hw∨p.all=true
 | .len=>p.push=true∨p.all=true
def WrP (p:FP):Loc→Prop
 | .sl s=>s∈p.wr
 | .bk id=>id∈p.hw∨p.all=true
 | .len=>p.push=true∨p.all=true
theorem C6 {gd:Option (Nat×Bool)} (h:oO (Er gd) F F'):yef F' gd=yef F gd:=by
 cases gd with
 | none=>rfl
 | some x =>obtain ⟨s,want⟩:=x;simp only [yef,h s (by simp [Er])]
theorem Qa (F:aF) (bx:Option (Nat×PV)) (k:Nat):fget (lP F bx) k=match bx with | some (s,row)=>if k=s then some (.box row) else fget F k | none=>fget F k:=by
 cases bx with
 | none=>rfl
 | some x=>obtain ⟨s,row⟩:=x;simp only [lP,pC]
theorem C7 {o:AO} {S1:aF×Hp} (h:yhv E call o (F,H)=some S1) (S':aF×Hp) (hag:∀ l,RdP (yeQ E F H o) l→look S' l=look (F,H) l) :
  ∃ T',yhv E call o S'=some T'∧(∀ l,WrP (yeQ E F H o) l→look T' l=look S1 l)∧(∀ l,¬WrP (yeQ E F H o) l→look T' l=look S' l):=by
 obtain ⟨F',H'⟩:=S';have hF:oO (yeQ E F H o).rd F F':=fun s hs=>by
  have:=hag (.sl s) hs;simpa [look] using this
 unfold yhv at h ⊢;simp only [] at h ⊢;unfold yeQ at hag hF ⊢;split at h
 ·cases h
 ·-- the guard says no
  rename_i hg;rw [hg] at hag hF ⊢;simp only [] at hag hF ⊢;rw [C6 hF,hg];simp only []
  cases hd:o.dst with
  | none=>
   rw [hd] at h
   cases h
   exact ⟨_,rfl,fun l hl=>by cases l<;>simp [WrP] at hl,fun _ _=>rfl⟩
  | some d=>
   rw [hd] at h
   cases h
   refine ⟨_,rfl,fun l hl=>?_,fun l hl=>?_⟩
   ·cases l<;>simp [WrP] at hl
    subst hl;simp [look,pC]
   ·cases l with
    | sl s =>simp [WrP] at hl;simp [look,pC,hl]
    | _=>rfl
 ·rename_i hg;rw [hg] at hag hF ⊢;simp only [] at hag hF ⊢;rw [Ic] at hF;rw [C6 hF.1,hg];simp only [];split at h
  ·cases h
  ·rename_i out x bx H2 hout;simp only [qC] at h;obtain ⟨F1,hput,e⟩:=h;subst e;have hall:(aQ E F H o.op).all=true→H'=H:=fun ha=>sJ fun k=>by
    have:=hag (.bk k) (.inr (.inr ha));simpa [look] using this
   have hH:AgH (aQ E F H o.op) H H':=by
    refine ⟨fun id hid=>?_,fun hp=>?_,hall⟩
    ·have:=hag (.bk id) (hid.elim .inl fun x=>.inr (.inl x));simpa [look] using this
    ·have:=hag .len (.inl hp);simpa [look] using this
   obtain ⟨H2',h1,h2⟩:=yH8 hH hout;have h3:yap E call F' H' o.op=some ⟨x,bx,H2'⟩:=by
    rw [zx (F:=F) (H:=H') (by rw [yOz o.op H' H];exact hF.2)];exact h1
   rw [h3];simp only [];have hput':∃ F1',yhN (lP F' bx) o.dst x=some F1'∧(∀ s,s∈o.dst.toList++(aQ E F H o.op).wr→fget F1' s=fget F1 s)∧(∀ s,s∉o.dst.toList++(aQ E F H o.op).wr→fget F1' s=fget F' s):=by
    have hbx:∀ s row,bx=some (s,row)→s∈(aQ E F H o.op).wr:=fun s row e=>(C5 hout e).1
    have hin:∀ s,s∈(aQ E F H o.op).wr→fget (lP F' bx) s=fget (lP F bx) s:=by
     intro s hs;rw [Qa,Qa];have:=hF.2 s (yRI _ _ hs)
     cases bx with
     | none=>exact this
     | some y=>obtain ⟨s',row⟩:=y;simp only [this]
    have hnin:∀ s,s∉(aQ E F H o.op).wr→fget (lP F' bx) s=fget F' s:=by
     intro s hs;rw [Qa]
     cases bx with
     | none=>rfl
     | some y=>
      obtain ⟨s',row⟩:=y;simp only [];have hne:¬s=s':=fun e=>hs (e ▸ hbx s' row rfl)
      rw [YR hne]
    cases hdst:o.dst with
    | none=>
     rw [hdst] at hput;have hx:∀ G:aF,yhN G none x=some G:=by
      cases x with
      | none=>intro G;rfl
      | some fv=>cases fv with
       | box row=>simp [yhN] at hput
       | _=>intro G;rfl
     rw [hx] at hput
     cases hput
     refine ⟨_,hx _,fun s hs=>hin s (by simpa using hs),fun s hs=>hnin s (by simpa using hs)⟩
    | some d=>
     rw [hdst] at hput;have key:∀ (G:aF),∃ G1,yhN G (some d) x=some G1∧fget G1 d=x∧∀ s,s≠d→fget G1 s=fget G s:=by
      intro G
      cases x with
      | none=>exact ⟨_,rfl,by simp [AV],fun s hs=>by simp [AV,hs]⟩
      | some fv=>exact ⟨_,rfl,by simp [pC],fun s hs=>by simp [pC,hs]⟩
     obtain ⟨G1,k1,k2,k3⟩:=key (lP F bx);rw [k1] at hput
     cases hput
     obtain ⟨G2,k4,k5,k6⟩:=key (lP F' bx);refine ⟨G2,k4,fun s hs=>?_,fun s hs=>?_⟩
     ·by_cases e:s=d
      ·subst e;rw [k2,k5]
      ·rw [k6 s e,k3 s e];simp only [Option.toList_some,qA3,HD,e,false_or] at hs;exact hin s hs
     ·simp only [Option.toList_some,qA3,HD,not_or] at hs;rw [k6 s hs.1];exact hnin s hs.2
   obtain ⟨F1',e1,e2,e3⟩:=hput';rw [e1];refine ⟨(F1',H2'),rfl,fun l hl=>?_,fun l hl=>?_⟩
   ·cases l with
    | sl s=>simp only [WrP] at hl;simp only [look,e2 s hl]
    | bk id=>
     simp only [WrP] at hl;simp only [look];rcases hl with hl | hl
     ·cases ha:(aQ E F H o.op).all
      ·rw [h2.inn ha id hl]
      ·rw [h2.all ha]
     ·rw [h2.all hl]
    | len=>
     simp only [WrP] at hl;simp only [look];rcases hl with hl | hl
     ·rw [h2.push hl]
     ·rw [h2.all hl]
   ·cases l with
    | sl s=>simp only [WrP] at hl;simp only [look,e3 s hl]
    | bk id =>simp only [WrP,not_or] at hl;simp only [look];rw [(h2.out (by simpa using hl.2) id hl.1).2]
    | len =>simp only [WrP,not_or] at hl;simp only [look];rw [(h2.len (by simpa using hl.1) (by simpa using hl.2)).2]
theorem yOA {f g:Fn} (h:uE f g=true):f=g:=by
 unfold uE at h;split at h
 ·rw [eq_of_beq h]
 ·rw [eq_of_beq h]
 ·exact of_decide_eq_true h
theorem yKU (f:Fn):uE f f=true:=by
 cases f<;>simp [uE]
mutual
theorem yMj:∀ (x:PV),kB x x=true
 | .bool _ | .int _ _ | .nilp | .nils | .emp | .nilf | .mt _ | .ptr _ _ _ _ | .own _ _ _ _ _ | .sub _ _ _ _ _ _=>by simp [kB]
 | .eptr r _ _=>by simp [kB,Bh r]
 | .data r=>by simp [kB,Bh r]
 | .agg r=>by simp [kB,Bh r]
 | .tup r=>by simp [kB,Bh r]
 | .fn f a b=>by simp [kB,yKU f,Bh a,Bh b]
theorem Bh:∀ (x:List PV),iO x x=true
 | []=>rfl
 | x::r=>by simp [iO,yMj x,Bh r]
end
theorem yKV (b:HB):uF b b=true:=by simp [uF,Bh]
theorem Qb:∀ (i:Nat) (H H1:Hp),H1.length=H.length→∀ id,H1[id]?=H[id]?→i+id∉dK i H H1
 | i,[],[],_,id,_=>by simp [dK,uG]
 | i,a::r,b::s,hl,id,h=>by
  have hl':s.length=r.length:=by simpa using hl
  have hin:∀ (k:Nat) (H H1:Hp) (x:Nat),x∈dK k H H1→k≤x:=by
   intro k H;induction H generalizing k with
   | nil=>
    intro H1;induction H1 generalizing k with
    | nil=>intro x hx;simp [dK,uG] at hx
    | cons _ s ih=>
     intro x hx;simp only [dK,uG,qAn] at hx;rcases hx with rfl | hx
     ·exact bX _
     ·have:=ih (k+1) x hx;omega
   | cons a r ih=>
    intro H1 x hx
    cases H1 with
    | nil=>
     simp only [dK,qAn] at hx;rcases hx with rfl | hx
     ·exact bX _
     ·have:=ih (k+1) [] x hx;omega
    | cons b s=>
     simp only [dK] at hx;split at hx
     ·have:=ih (k+1) s x hx;omega
     ·simp only [qAn] at hx;rcases hx with rfl | hx
      ·exact bX _
      ·have:=ih (k+1) s x hx;omega
  cases id with
  | zero =>simp only [Hy,bZ] at h;subst h;simp only [dK,yKV,if_true];intro hm;have:=hin _ _ _ _ hm;omega
  | succ id=>
   have h2:s[id]?=r[id]?:=by simpa using h
   have:=Qb (i+1) r s hl' id h2;rw [show i+1+id=i+(id+1) by omega] at this;simp only [dK];split
   ·exact this
   ·simp only [qAn,not_or];exact ⟨by omega,this⟩
 | i,[],_::_,hl,_,_=>by simp at hl
 | i,_::_,[],hl,_,_=>by simp at hl
mutual
theorem yQq:∀ (x y:PV),kB x y=true→x=y
 | .bool a,y,h=>by cases y<;>simp [kB] at h;rw [h]
 | .int k a,y,h=>by cases y<;>simp [kB] at h;rw [h.1,h.2]
 | .nilp,y,h=>by cases y<;>simp [kB] at h;rfl
 | .nils,y,h=>by cases y<;>simp [kB] at h;rfl
 | .emp,y,h=>by cases y<;>simp [kB] at h;rfl
 | .nilf,y,h=>by cases y<;>simp [kB] at h;rfl
 | .mt a,y,h=>by cases y<;>simp [kB] at h;rw [h]
 | .ptr ..,y,h=>by cases y<;>simp [kB] at h;rw [h.1,h.2.1,h.2.2.1,h.2.2.2]
 | .own ..,y,h=>by cases y<;>simp [kB] at h;rw [h.1,h.2.1,h.2.2.1,h.2.2.2.1,h.2.2.2.2]
 | .sub ..,y,h=>by cases y<;>simp [kB] at h;rw [h.1,h.2.1,h.2.2.1,h.2.2.2.1,h.2.2.2.2.1,h.2.2.2.2.2]
 | .eptr r i o,y,h=>by cases y<;>simp [kB] at h;rw [Bi _ _ h.1,h.2.1,h.2.2]
 | .data a,y,h=>by cases y<;>simp only [kB,gL] at h;rw [Bi _ _ h]
 | .agg a,y,h=>by cases y<;>simp only [kB,gL] at h;rw [Bi _ _ h]
 | .tup a,y,h=>by cases y<;>simp only [kB,gL] at h;rw [Bi _ _ h]
 | .fn f a b,y,h=>by
  cases y with
  | fn f' a' b' =>simp only [kB,bO] at h;rw [yOA h.1,Bi _ _ h.2.1,Bi _ _ h.2.2]
  | _=>simp [kB] at h
theorem Bi:∀ (x y:List PV),iO x y=true→x=y
 | [],y,h=>by cases y<;>simp [iO] at h;rfl
 | x::a,y,h=>by
  cases y with
  | nil=>simp [iO] at h
  | cons z b =>simp only [iO,bO] at h;rw [yQq _ _ h.1,Bi _ _ h.2]
end
theorem yOB {a b:HB} (h:uF a b=true):a=b:=by obtain ⟨f1,p1,e1,r1⟩:=a;obtain ⟨f2,p2,e2,r2⟩:=b;simp only [uF,bO,beq_iff_eq] at h;obtain ⟨h1,h2,h3,h4⟩:=h;rw [h1,h2,h3,Bi _ _ h4]
theorem LE:∀ (i:Nat) (H H1:Hp) (id:Nat),i+id∉dK i H H1→H1[id]?=H[id]?
 | _,[],[],id,_=>rfl
 | i,a::r,b::s,id,h=>by
  simp only [dK] at h
  cases id with
  | zero=>
   split at h
   ·rename_i e;simp [yOB e]
   ·simp at h
  | succ id=>
   have:i+1+id∉dK (i+1) r s:=by
    rw [show i+1+id=i+(id+1) by omega];split at h
    ·exact h
    ·exact fun hm=>h (eF _ hm)
   simpa using LE (i+1) r s id this
 | i,_::r,[],id,h=>by
  simp only [dK] at h
  cases id with
  | zero=>simp at h
  | succ id=>
   have:i+1+id∉dK (i+1) r []:=by rw [show i+1+id=i+(id+1) by omega];exact fun hm=>h (eF _ hm)
   simpa using LE (i+1) r [] id this
 | i,[],_::s,id,h=>by
  simp only [dK,uG] at h
  cases id with
  | zero=>simp at h
  | succ id=>
   have:i+1+id∉dK (i+1) [] s:=by rw [show i+1+id=i+(id+1) by omega];exact fun hm=>h (eF _ hm)
   simpa using LE (i+1) [] s id this
theorem yGH {o:AO} {S1:aF×Hp} (h:yhv E call o (F,H)=some S1) (S':aF×Hp) (hag:∀ l,RdP ((yeQ E F H o).tight H S1.2) l→look S' l=look (F,H) l) :
  ∃ T',yhv E call o S'=some T'∧(∀ l,WrP ((yeQ E F H o).tight H S1.2) l→look T' l=look S1 l)∧(∀ l,¬WrP ((yeQ E F H o).tight H S1.2) l→look T' l=look S' l):=by
 unfold FP.tight at hag ⊢
 cases ha:(yeQ E F H o).all with
 | false =>rw [ha] at hag;simp only [gL,if_false] at hag ⊢;exact C7 h S' hag
 | true=>
  rw [ha] at hag;simp only [if_true] at hag ⊢;have hlen:S'.2.length=H.length:=by
   have:=hag .len (.inl rfl);simpa [look] using this
  have hbk:∀ id:Nat,S'.2[id]?=H[id]?:=by
   intro id
   by_cases hid:id<H.length
   ·have:=hag (.bk id) (.inl (List.mem_range.2 hid));simpa [look] using this
   ·rw [iN (by omega),iN (by omega)]
  obtain ⟨T',h1,h2,h3⟩:=C7 h S' fun l hl=>by
   cases l with
   | sl s=>exact hag (.sl s) hl
   | bk id=>simp [look,hbk id]
   | len=>simp [look,hlen]
  refine ⟨T',h1,fun l hl=>?_,fun l hl=>?_⟩
  ·cases l with
   | sl s=>exact h2 (.sl s) hl
   | bk id=>exact h2 (.bk id) (.inr ha)
   | len=>exact h2 .len (.inr ha)
  ·cases l with
   | sl s=>exact h3 (.sl s) hl
   | bk id=>
    have e1:=h2 (.bk id) (.inr ha);have hn:id∉dK 0 H S1.2:=fun hm=>hl (.inl hm)
    have e2:=LE 0 H S1.2 id (by rw [jH];exact hn);rw [e1];simp only [look];rw [e2,hbk id]
   | len=>exact absurd (.inl rfl) hl
def stAt (E:Env) (call:Nat→List PV→Hp→Option (PV×Hp)):List AO→Nat→aF×Hp→aF×Hp
 | [],_,S=>S
 | _::_,0,S=>S
 | o::r,i+1,S=>match yhv E call o S with
  | some S'=>stAt E call r i S'
  | none=>S
theorem C8:∀ (l:List AO) (F:aF) (H:Hp) (F':aF) (H':Hp) (ps:List FP),yiw E call l F H=some (F',H',ps) →
  ps.length=l.length∧stAt E call l 0 (F,H)=(F,H)∧stAt E call l l.length (F,H)=(F',H') ∧
  ∀ (i:Nat) (o:AO),l[i]?=some o→yhv E call o (stAt E call l i (F,H))=some (stAt E call l (i+1) (F,H))∧ps[i]?=some ((yeQ E (stAt E call l i (F,H)).1 (stAt E call l i (F,H)).2 o).tight (stAt E call l i (F,H)).2 (stAt E call l (i+1) (F,H)).2)
 | [],F,H,F',H',ps,h=>by simp only [yiw,bZ,Prod.mk.injEq] at h;obtain ⟨rfl,rfl,rfl⟩:=h;exact ⟨rfl,rfl,rfl,fun i o e=>by simp at e⟩
 | o::r,F,H,F',H',ps,h=>by
  simp only [yiw] at h;split at h
  ·rename_i F1 H1 hs;split at h
   ·rename_i F2 H2 ps' hr
    cases h
    obtain ⟨h1,h2,h3,h4⟩:=C8 r F1 H1 F' H' ps' hr;have hs':yhv E call o (F,H)=some (F1,H1):=hs;refine ⟨by simp [h1],rfl,by simp only [iE,stAt,hs'];exact h3,fun i o' e=>?_⟩
    cases i with
    | zero=>
     simp only [Hy,bZ] at e;subst e;have e0:stAt E call (o::r) 0 (F,H)=(F,H):=rfl;have e1:stAt E call (o::r) (0+1) (F,H)=(F1,H1):=by simp only [stAt,hs'];exact h2
     rw [e0,e1];exact ⟨hs',rfl⟩
    | succ i=>
     simp only [KN] at e;obtain ⟨h5,h6⟩:=h4 i o' e;have e1:∀ k,stAt E call (o::r) (k+1) (F,H)=stAt E call r k (F1,H1):=fun k=>by simp only [stAt,hs']
     rw [e1,e1];exact ⟨h5,by simpa using h6⟩
   ·cases h
  ·cases h
theorem Bj {a b:List Nat} (h:meets a b=false):∀ s∈a,s∉b:=by
 induction a with
 | nil=>intro s hs;simp at hs
 | cons x r ih=>
  simp only [meets,AP] at h;intro s hs;rcases qAn.1 hs with rfl | hs
  ·intro hb;have:=h.1;simp [hb] at this
  ·exact ih h.2 s hs
theorem yCr {p q:FP} (h:wS p q=false):∀ l,¬(WrP p l∧(RdP q l∨WrP q l))∧¬(WrP q l∧RdP p l):=by
 simp only [wS,AP] at h;obtain ⟨⟨⟨⟨⟨⟨⟨⟨h1,h2⟩,h3⟩,h4⟩,h5⟩,h6⟩,h7⟩,h8⟩,h9⟩:=h;have heapyP:p.heapy=false↔p.push=false∧p.all=false∧p.hr=[]∧p.hw=[]:=by
  simp [FP.heapy,and_assoc]
 have heapyQ:q.heapy=false↔q.push=false∧q.all=false∧q.hr=[]∧q.hw=[]:=by simp [FP.heapy,and_assoc]
 intro l
 cases l with
 | sl s=>
  refine ⟨fun ⟨a,b⟩=>?_,fun ⟨a,b⟩=>Bj h3 s a b⟩;rcases b with b | b
  ·exact Bj h1 s a b
  ·exact Bj h2 s a b
 | bk id=>
  have pall:p.all=true→q.push=false∧q.all=false∧q.hr=[]∧q.hw=[]:=fun e=>by rw [e] at h4;exact heapyQ.1 (by simpa using h4)
  have qall:q.all=true→p.push=false∧p.all=false∧p.hr=[]∧p.hw=[]:=fun e=>by rw [e] at h5;exact heapyP.1 (by simpa using h5)
  constructor
  ·rintro ⟨a,b⟩;simp only [WrP,RdP] at a b;rcases a with a | a
   ·rcases b with (b | b | b) | (b | b)
    ·exact Bj h7 id a b
    ·exact Bj h8 id a b
    ·have:=(qall b).2.2.2;rw [this] at a;cases a
    ·exact Bj h8 id a b
    ·have:=(qall b).2.2.2;rw [this] at a;cases a
   ·obtain ⟨q1,q2,q3,q4⟩:=pall a;rcases b with (b | b | b) | (b | b)
    ·rw [q3] at b;cases b
    ·rw [q4] at b;cases b
    ·rw [q2] at b;cases b
    ·rw [q4] at b;cases b
    ·rw [q2] at b;cases b
  ·rintro ⟨a,b⟩;simp only [WrP,RdP] at a b;rcases a with a | a
   ·rcases b with b | b | b
    ·exact Bj h9 id a b
    ·exact Bj h8 id b a
    ·have:=(pall b).2.2.2;rw [this] at a;cases a
   ·obtain ⟨q1,q2,q3,q4⟩:=qall a;rcases b with b | b | b
    ·rw [q3] at b;cases b
    ·rw [q4] at b;cases b
    ·rw [q2] at b;cases b
 | len=>
  have pall:p.all=true→q.push=false∧q.all=false:=fun e=>by rw [e] at h4;have:=heapyQ.1 (by simpa using h4);exact ⟨this.1,this.2.1⟩
  have qall:q.all=true→p.push=false∧p.all=false:=fun e=>by rw [e] at h5;have:=heapyP.1 (by simpa using h5);exact ⟨this.1,this.2.1⟩
  have hpp:p.push=true→q.push=true→False:=fun a b=>by rw [a,b] at h6;cases h6
  have both:WrP p .len→WrP q .len→False:=by
   simp only [WrP];rintro (a | a) (b | b)
   ·exact hpp a b
   ·have:=(qall b).1;rw [a] at this;cases this
   ·have:=(pall a).1;rw [b] at this;cases this
   ·have:=(pall a).2;rw [b] at this;cases this
  exact ⟨fun ⟨a,b⟩=>both a (b.elim id id),fun ⟨a,b⟩=>both b a⟩
theorem C9 {ps:List FP}:∀ (pairs:List (Nat×Nat)),ykk ps pairs=true→∀ i j,(i,j)∈pairs→∃ p q,ps[i]?=some p∧ps[j]?=some q∧wS p q=false
 | [],_,i,j,h=>by simp at h
 | (a,b)::r,h,i,j,hm=>by
  simp only [ykk,bO] at h;rcases qAn.1 hm with e | hm
  ·cases e
   have h1:=h.1;split at h1
   ·rename_i p q hp hq;exact ⟨p,q,hp,hq,by simpa using h1⟩
   ·cases h1
  ·exact C9 r h.2 i j hm
theorem LF {d k:Nat} {x:FV}:∀ (F:aF),noBp F d=true→(∀ off,x≠.bp d off)→noBp (bJ F k x) d=true
 | [],_,hx=>by
  cases x with
  | bp s off=>simp only [bJ,noBp,Bool.and_true,nL,beq_eq_false_iff_ne];exact fun e=>hx off (by rw [e])
  | _=>simp [bJ,noBp]
 | (j,y)::r,h,hx=>by
  have hy:noBp r d=true∧∀ (z:FV),noBp ((j,z)::r) d=(match z with | .bp s _=>!(s==d)&&noBp r d | _=>noBp r d):=by
   refine ⟨?_,fun z=>by cases z<;>rfl⟩
   cases y<;>simp [noBp] at h<;>first | exact h | exact h.2
  have hput:∀ (j:Nat) (r:aF),noBp r d=true→noBp ((j,x)::r) d=true:=by
   intro j r hr
   cases x with
   | bp s off =>simp only [noBp,hr,Bool.and_true,nL,beq_eq_false_iff_ne];exact fun e=>hx off (by rw [e])
   | _=>simpa [noBp] using hr
  simp only [bJ];split
  ·exact hput _ _ h
  ·split
   ·exact hput _ _ hy.1
   ·have ih:=LF (k:=k) r hy.1 hx
    cases y<;>simp [noBp] at h ⊢ <;> first | exact ih | exact ⟨h.1,ih⟩
theorem D0 {d:Nat}:∀ {l:List AO} {o:AO},o∈l→o.dst=some d→1≤yL d l
 | x::r,o,h,hd=>by
  simp only [yL];rcases qAn.1 h with rfl | h
  ·simp [hd]
  ·have:=D0 h hd;omega
theorem D3:∀ (l:List AO) (F:aF) (H:Hp) (T:aF×Hp),yrf (yhv E call) l (F,H)=some T →
  (∀ o∈l,∀ d,ysQ o=some d→noBp F d=true∧fget F d=none∧yL d l=1)→mS E call l F H=some T
 | [],F,H,T,h,_=>by simpa [yrf,mS] using h
 | o::r,F,H,T,h,hf=>by
  simp only [yrf] at h;split at h
  ·rename_i S1 hs;obtain ⟨F1,H1⟩:=S1;have hboth:yhb E call F H o=some (F1,H1)∧∀ d,noBp F d=true→fget F d=none→o.dst≠some d→noBp F1 d=true∧fget F1 d=none:=by
    unfold yhv at hs;simp only [] at hs;unfold yhb;split at hs
    ·cases hs
    ·rename_i hg;refine ⟨hs,fun d h1 h2 h3=>?_⟩
     cases hdst:o.dst with
     | none=>rw [hdst] at hs;cases hs;exact ⟨h1,h2⟩
     | some d' =>rw [hdst] at hs;cases hs;refine ⟨LF _ h1 (fun off e=>by cases e),?_⟩;rw [pC,YR (fun e=>h3 (by rw [hdst,e]))];exact h2
    ·rename_i hg;split at hs
     ·cases hs
     ·rename_i out x bx H2 hout;simp only [qC] at hs ⊢;obtain ⟨F2,hp,e⟩:=hs;refine ⟨⟨F2,yKT hp fun row d hx hd=>?_,e⟩,fun d h1 h2 h3=>?_⟩
      ·obtain ⟨hb1,hb2⟩:=yKS hout hx;have hb2':bx=none:=hb2;rw [hb2'];exact (hf o (by simp) d (hb1.trans hd)).1
      ·cases e
       have hbx:noBp (lP F bx) d=true∧fget (lP F bx) d=none:=by
        cases bx with
        | none=>exact ⟨h1,h2⟩
        | some y=>
         obtain ⟨s,row⟩:=y;obtain ⟨_,row0,hrow0⟩:=C5 hout rfl;have hne:d≠s:=fun e=>by rw [e,hrow0] at h2;cases h2
         refine ⟨LF _ h1 (fun off e=>by cases e),?_⟩;simp only [lP,pC,YR hne];exact h2
       have hxbp:∀ off,x≠some (.bp d off):=by
        intro off e;rcases yMi hout e with ⟨row,hr⟩ | hr
        ·rw [hr] at h2;cases h2
        ·rw [hr] at h1;cases h1
       cases hdst:o.dst with
       | none=>
        rw [hdst] at hp
        cases x with
        | none=>simp only [yhN,bZ] at hp;subst hp;exact hbx
        | some fv=>cases fv<;>simp only [yhN,bZ] at hp<;>first | (subst hp;exact hbx) | cases hp
       | some d'=>
        have hne:d≠d':=fun e=>h3 (by rw [hdst,e])
        rw [hdst] at hp
        cases x with
        | none =>simp only [yhN,bZ] at hp;subst hp;exact ⟨HI _ hbx.1,by rw [AV,YR hne];exact hbx.2⟩
        | some fv =>simp only [yhN,bZ] at hp;subst hp;exact ⟨LF _ hbx.1 (fun off e=>hxbp off (by rw [e])),by rw [pC,YR hne];exact hbx.2⟩
   obtain ⟨hstep,hkeep⟩:=hboth;simp only [mS,hstep];refine D3 r F1 H1 T h fun o' ho' d hd=>?_
   obtain ⟨h1,h2,h3⟩:=hf o' (by simp [ho']) d hd;have hdst:o'.dst=some d:=by
    unfold ysQ at hd;split at hd<;>first | exact hd | cases hd
   have hpos:=D0 ho' hdst;simp only [yL] at h3;have hne:o.dst≠some d:=by intro e;rw [YQ e] at h3;omega
   rw [YR hne] at h3;obtain ⟨h4,h5⟩:=hkeep d h1 h2 hne;exact ⟨h4,h5,by omega⟩
  ·cases h
theorem D4 {all:List AO}:∀ (l:List AO),Et F all l=true→∀ o∈l,∀ d,ysQ o=some d→noBp F d=true∧fget F d=none∧yL d all=1
 | [],_,o,h,_,_=>by simp at h
 | x::r,h,o,ho,d,hd=>by
  simp only [Et,bO] at h;rcases qAn.1 ho with rfl | ho
  ·have h1:=h.1;rw [hd] at h1;simp only [bO,Option.isNone_iff_eq_none,beq_iff_eq] at h1;exact ⟨h1.1.1,h1.1.2,h1.2⟩
  ·exact D4 r h.2 o ho d hd
theorem D5 (d:Nat) (l:List AO):yL d l=l.countP (fun o=>o.dst==some d):=by
 induction l with
 | nil=>rfl
 | cons o r ih=>
  simp only [yL,List.countP_cons,ih]
  by_cases h:o.dst=some d
  ·simp [h];omega
  ·simp [h]
end
theorem D6 (o:Oper):yO o=wX o:=by
 unfold yO wX;congr 1
 funext e
 unfold Region.binds
 cases e.ground<;>simp
def EL (es acc:List Nat) (s:Nat):Nat:=es.foldl (fun s i=>s|||2 ^ i|||acc.getD i 0) s
theorem yDG (acc:List Nat) (b:Nat):∀ (es:List Nat) (s:Nat),(EL es acc s).testBit b=true→s.testBit b=true∨∃ i∈es,b=i∨(acc.getD i 0).testBit b=true
 | [],s,h=>.inl h
 | i::r,s,h=>by
  have h':(EL r acc (s|||2 ^ i|||acc.getD i 0)).testBit b=true:=h;rcases yDG acc b r _ h' with h1 | ⟨j,h1,h2⟩
  ·rw [Nat.testBit_or,Nat.testBit_or,tV,tV] at h1;rcases h1 with (h1 | h1) | h1
   ·exact .inl h1
   ·right;rw [Nat.testBit_two_pow] at h1;exact ⟨i,by simp,.inl (by simpa using (of_decide_eq_true h1).symm)⟩
   ·exact .inr ⟨i,by simp,.inr h1⟩
  ·exact .inr ⟨j,by simp [h1],h2⟩
theorem Qc:∀ (l:List Oper) (acc:List Nat),(oN l acc).length=acc.length+l.length
 | [],acc=>by simp [oN]
 | o::r,acc=>by simp only [oN];rw [Qc r];simp;omega
theorem Qd:∀ (l:List Oper) (acc:List Nat) (e:Nat),e<acc.length→(oN l acc).getD e 0=acc.getD e 0
 | [],acc,e,_=>rfl
 | o::r,acc,e,h=>by simp only [oN];rw [Qd r _ e (by simp;omega)];simp [rB,h]
theorem D7:∀ (l:List Oper) (acc:List Nat) (k:Nat) (o:Oper),l[k]?=some o→∃ acc',(oN l acc).getD (acc.length+k) 0=EL (yO o) acc' 0∧∀ e,(acc'.getD e 0≠0→e<acc.length+k)∧(e<acc.length+k→acc'.getD e 0=(oN l acc).getD e 0)
 | [],acc,k,o,h=>by simp at h
 | x::r,acc,k,o,h=>by
  cases k with
  | zero=>
   simp only [Hy,bZ] at h;subst h;refine ⟨acc,?_,fun e=>⟨fun hne=>?_,fun he=>(Qd _ acc e (by simpa using he)).symm⟩⟩
   ·simp only [oN,wN];rw [Qd r _ acc.length (by simp)];simp [EL]
   ·rcases qA9 e acc.length with h1 | h1
    ·simpa using h1
    ·rw [cN,iN h1] at hne;simp at hne
  | succ k=>
   simp only [KN] at h;obtain ⟨acc',h1,h2⟩:=D7 r (acc++[EL (yO x) acc 0]) k o h;have hl:(acc++[EL (yO x) acc 0]).length+k=acc.length+(k+1):=by simp;omega
   rw [hl] at h1 h2;exact ⟨acc',h1,h2⟩
theorem D8 {l:List Oper} (h:HO l=true):∀ (i:Nat) (o:Oper),l[i]?=some o→∀ k∈yO o,k<i:=by
 intro i o ho k hk;simp only [HO,sL,List.mem_range] at h;have hi:i<l.length:=by
  rcases qA9 i l.length with h1|h1
  ·exact h1
  ·rw [iN h1] at ho;cases ho
 have:=h i hi;rw [ho] at this;simp only [sL,decide_eq_true_eq] at this;exact this k hk
theorem D9 {ops:Array Oper} {σ:List Nat} (hback:HO ops.toList=true) (hσ:∀ a j b,σ=a++j::b→∀ o,ops[j]?=some o→∀ k∈wX o,k∈a) :
  ∀ (j:Nat) (a b:List Nat) (i:Nat),σ=a++j::b→j<ops.size→((oN ops.toList []).getD j 0).testBit i=true→i∈a:=by
 intro j;induction j using Nat.strongRecOn with
 | _ j ih=>
  intro a b i e hj hbit;have hoj:ops.toList[j]?=some ops[j]:=by simp [hj]
  obtain ⟨acc',h1,h2⟩:=D7 ops.toList [] j _ hoj;simp only [Em,jH] at h1 h2;rw [h1] at hbit;rcases yDG acc' i (yO ops[j]) 0 hbit with h3 | ⟨k,hk,h3⟩
  ·simp at h3
  ·have hka:k∈a:=hσ a j b e ops[j] (by simp [hj]) k (by rw [← D6];exact hk);rcases h3 with rfl | h3
   ·exact hka
   ·have hkj:k<j:=D8 hback j _ hoj k hk;obtain ⟨a1,a2,ea⟩:=List.append_of_mem hka;rw [(h2 k).2 hkj] at h3;have:=ih k hkj a1 (a2++j::b) i (by rw [e,ea];simp) (by omega) h3;rw [ea];simp [this]
theorem E0 {cl:List Nat} {i j:Nat} (hij:i<j) (hj:j<cl.length) (hb:(cl.getD j 0).testBit i=false):(i,j)∈HN cl:=by simp only [HN,List.mem_flatMap,List.mem_range,List.mem_filterMap];exact ⟨j,hj,i,hij,by rw [hb];rfl⟩
section
variable {P:Program} {E:Env}
theorem yH9 (hE:EO P E) (hm:P.follows .mixedOrders=true):∀ call,ybr P E call→HZ P E call:=by
 intro call hc ro nt base g F H a w loc ops l F' H' id hro hl hd hb h hr hL hdf;obtain ⟨hlen,hget⟩:=HY _ _ hl;have hsz:l.length=ops.size:=by simpa using hlen
 refine wpIn_region_draw fun t=>?_
 have hsched:Region.schedule (P.follows .mixedOrders) ops t=Region.linearise.go .any ops ops.size t (Array.replicate ops.size false) []:=by rw [hm];rfl
 rw [hsched];have hcount:(List.range ops.size).countP (fun i=>!(Array.replicate ops.size false).getD i true)≤ops.size:=by
  have:=List.countP_le_length (p:=fun i=>!(Array.replicate ops.size false).getD i true) (l:=List.range ops.size);simpa using this
 obtain ⟨hmem,hnd,hord⟩:=zw ops (fun i o ho k hk=>D8 hb i o (by simpa using ho) k (by rw [D6];exact hk)) ops.size t (Array.replicate ops.size false) (by simp) hcount;revert hmem hnd hord;generalize Region.linearise.go .any ops ops.size t (Array.replicate ops.size false) []=σ;intro hmem hnd hord;have hmem':∀ i,i∈σ↔i<ops.size:=by
  intro i;rw [← hmem i];refine ⟨fun x=>x.1,fun x=>⟨x,?_⟩⟩;simp [x]
 have hord':∀ a j b,σ=a++j::b→∀ o,ops[j]?=some o→∀ k∈wX o,k∈a:=by
  intro a j b e o ho k hk;rcases hord a j b e o ho k hk with h1 | h1
  ·simp only [AK,Array.getElem?_replicate] at h1;split at h1<;>simp at h1
  ·exact h1
 have hperm:σ.Perm (List.range ops.size):=(List.perm_ext_iff_of_nodup hnd List.nodup_range).2 fun i=>by rw [hmem' i,List.mem_range]
 have hlperm:(σ.filterMap (l[·]?)).Perm l:=by have:=hperm.filterMap (l[·]?);rw [← hsz,PR] at this;exact this
 have hrd:Rel E nt g F H a.tmps { w with drawn:=w.drawn+1 }:=hr.drew;have hclean:∀ (l:List AO) (F:aF) s x,fget (wU F l) s=some x→fget F s=some x:=by
  intro l;induction l with
  | nil=>intro F s x e;exact e
  | cons o r ih=>
   intro F s x e;simp only [wU] at e;split at e
   ·rename_i d _;have:=ih _ s x e;rw [AV] at this;split at this
    ·cases this
    ·exact Ph F d s x this
   ·exact ih _ s x e
 have hrun:∃ F0 F2 H2,(∀ s x,fget F0 s=some x→fget F s=some x)∧mS E call (σ.filterMap (l[·]?)) F0 H=some (F2,H2)∧H2=H'∧∀ s,fget F2 s=fget F' s:=by
  unfold ygG at h
  cases hp:HN (oN ops.toList []) with
  | nil=>
   rw [hp] at h;have hsort:σ=List.range ops.size:=by
    have key:∀ (τ:List Nat) (k:Nat),(∀ a j b,τ=a++j::b→∀ i,k≤i→i<j→i∈a)→τ.Nodup→(∀ i,i∈τ↔k≤i∧i<ops.size)→k≤ops.size→τ=List.range' k (ops.size-k):=by
     intro τ;induction τ with
     | nil=>
      intro k _ _ h3 hk;have:¬(k<ops.size):=fun hlt=>by have:=(h3 k).2 ⟨bX k,hlt⟩;cases this
      have:ops.size-k=0:=by omega
      rw [this];rfl
     | cons x τ ih=>
      intro k h1 h2 h3 hk;have hx:=(h3 x).1 (by simp);have hxk:x=k:=by
       rcases qA9 k x with hlt|hge
       ·have:=h1 [] x τ rfl k (bX k) hlt;cases this
       ·omega
      subst hxk;have:ops.size-x=(ops.size-(x+1))+1:=by omega
      rw [this,List.range'_succ];congr 1;rw [List.nodup_cons] at h2;refine ih (x+1) (fun a j b e i hi hij=>?_) h2.2 (fun i=>?_) (by omega)
      ·have:=h1 (x::a) j b (by rw [e];rfl) i (by omega) hij;rcases qAn.1 this with e2 | e2
       ·omega
       ·exact e2
      ·have h4:=h3 i;rw [qAn] at h4;constructor
       ·intro hi;have h5:=h4.1 (.inr hi);have:i≠x:=fun e=>h2.1 (e ▸ hi)
        omega
       ·intro hi;rcases h4.2 ⟨by omega,hi.2⟩ with e | e
        ·omega
        ·exact e
    have:=key σ 0 (fun a j b e i _ hij=>?_) hnd (fun i=>by rw [hmem' i];simp) (iL _)
    ·rw [this,Nat.sub_zero,List.range_eq_range']
    ·have hj:j<ops.size:=(hmem' j).1 (by rw [e];simp);refine D9 hb hord' j a b i e hj ?_
     cases hbit:((oN ops.toList []).getD j 0).testBit i
     ·have:=E0 hij (by rw [Qc];simpa using hj) hbit;rw [hp] at this;cases this
     ·rfl
   rw [hsort,← hsz,PR];exact ⟨F,F',H',fun _ _ e=>e,h,rfl,fun _=>rfl⟩
  | cons pr Ox=>
   rw [hp] at h;simp only [] at h;split at h
   ·rename_i F1 H1 ps hps;split at h
    ·rename_i hok
     cases h
     rw [← hp] at hok;have hcl:=hclean l F;obtain ⟨F0,hF0⟩:∃ F0,F0=wU F l:=⟨_,rfl⟩;rw [← hF0] at hps hok hcl;obtain ⟨s1,s2,s3,s4⟩:=C8 _ _ _ _ _ _ hps;let st:Nat→aF×Hp:=fun i=>stAt E call l i (F0,H)
     let R:Nat→Loc→Prop:=fun i x=>∃ p,ps[i]?=some p∧RdP p x
     let W:Nat→Loc→Prop:=fun i x=>∃ p,ps[i]?=some p∧WrP p x
     have hlocal:Local look (yhv E call) l st R W:=by
      refine ⟨fun i o ho=>?_,fun i o ho S' hag=>?_⟩
      ·exact (s4 i o ho).1
      ·obtain ⟨h1,h2⟩:=s4 i o ho;obtain ⟨T',k1,k2,k3⟩:=yGH h1 S' (fun x hx=>hag x ⟨_,h2,hx⟩);refine ⟨T',k1,fun x ⟨p,e,hx⟩=>?_,fun x hx=>k3 x fun hw=>hx ⟨_,h2,hw⟩⟩;rw [h2] at e;cases e;exact k2 x hx
     have hfree:∀ i j,i<j→(i∈σ∧j∈([]:List Nat)∨(∃ a b c,σ=a++j::(b++i::c)))→yR R W i j:=by
      intro i j hij hcase;rcases hcase with ⟨_,hx⟩ | ⟨a,b,c,e⟩
      ·cases hx
      ·have hj:j<ops.size:=(hmem' j).1 (by rw [e];simp);have hbit:((oN ops.toList []).getD j 0).testBit i=false:=by
        cases hbit:((oN ops.toList []).getD j 0).testBit i
        ·rfl
        ·have hia:=D9 hb hord' j a _ i e hj hbit;rw [e,List.nodup_append] at hnd;exact absurd rfl (hnd.2.2 i hia i (by simp))
       obtain ⟨p,q,hp1,hq1,hcl⟩:=C9 _ hok.1 i j (E0 hij (by rw [Qc];simpa using hj) hbit);intro x;obtain ⟨f1,f2⟩:=yCr hcl x;refine ⟨fun ⟨⟨p',e1,w1⟩,r1⟩=>f1 ?_,fun ⟨⟨q',e1,w1⟩,⟨p',e2,r1⟩⟩=>f2 ?_⟩
       ·rw [hp1] at e1;cases e1;refine ⟨w1,r1.imp (fun ⟨q',e2,r2⟩=>?_) (fun ⟨q',e2,r2⟩=>?_)⟩
        ·rw [hq1] at e2;cases e2;exact r2
        ·rw [hq1] at e2;cases e2;exact r2
       ·rw [hq1] at e1;cases e1;rw [hp1] at e2;cases e2;exact ⟨w1,r1⟩
     obtain ⟨T',k1,k2⟩:=hlocal.perm σ [] (F0,H) (by simpa using hnd) (fun i=>by rw [hsz,wK,hmem' i]) hfree (fun x _=>by show look (F0,H) x=look (st 0) x;rw [show st 0=(F0,H) from s2]) (fun x i hi=>by cases hi);have hfin:st l.length=(F',H'):=s3;rw [hfin] at k2;have hfresh:=D3 _ F0 H T' k1 fun o ho d hdo=>by
      obtain ⟨b1,b2,b3⟩:=D4 l hok.2 o (hlperm.mem_iff.1 ho) d hdo;refine ⟨b1,b2,?_⟩;rw [D5,hlperm.countP_eq,← D5];exact b3
     refine ⟨F0,T'.1,T'.2,hcl,hfresh,sJ fun k=>?_,fun s=>?_⟩
     ·have:=k2 (.bk k);simpa [look] using this
     ·have:=k2 (.sl s);simpa [look] using this
    ·cases h
   ·cases h
 obtain ⟨F0,F2,H2,h0,h1,rfl,h3⟩:=hrun;refine B1 (F':=F2) (H':=H2) hE hc hl hd hro σ g F0 H a _ (fun i hi=>(hmem' i).1 hi) (hrd.less h0) (hL.nx (Nx.drew g H w)) h1 ?_;intro a' w' g' d1 n1 r1;exact ⟨trivial,g',(Nx.drew g H w).trans n1,r1.less fun s x hs=>by rw [h3 s];exact hs,(hdf.nx ((Nx.drew g H w).trans n1)).go d1⟩
theorem Qe (hE:EO P E) (hm:P.follows .mixedOrders=true) (n:Nat):ybr P E (yaD E n):=
 (zv (fun _ hE=>yH9 hE hm) n E hE).2.2.2
end
def topV (E:Env) (n f:Nat) (args:List PV):Option PV:=
 match yaD E n f args [] with
 | some (r,H)=>kA (E.nl f) H r
 | none=>none
section
variable {P:Program} {E:Env}
theorem E4 (hE:EO P E) (hm:P.follows .mixedOrders=true) {n f:Nat} {args:List PV} {q:PV} (h:topV E n f args=some q):qM P E.glob f args q:=by
 intro I w vs himm hgl hv;unfold topV at h;split at h
 ·rename_i r H hin;exact run_pure (Qe hE hm n) himm hgl hv hin h
 ·cases h
end
mutual
def gW:PV→PV→Bool
 | .bool a,.bool b=>a==b
 | .int k a,.int l b=>decide (k=l)&&decide (a=b)
 | .nilp,.nilp=>true
 | .nils,.nils=>true
 | .emp,.emp=>true
 | .nilf,.nilf=>true
 | .data a,.data b=>lY a b
 | .agg a,.agg b=>lY a b
 | .tup a,.tup b=>lY a b
 | _,_=>false
def lY:List PV→List PV→Bool
 | [],[]=>true
 | x::a,y::b=>gW x y&&lY a b
 | _,_=>false
end
mutual
theorem yOC:∀ (x y:PV),gW x y=true→x=y
 | .bool a,y,h=>by cases y<;>simp [gW] at h;rw [h]
 | .int k a,y,h=>by cases y<;>simp [gW] at h;rw [h.1,h.2]
 | .nilp,y,h=>by cases y<;>simp [gW] at h;rfl
 | .nils,y,h=>by cases y<;>simp [gW] at h;rfl
 | .emp,y,h=>by cases y<;>simp [gW] at h;rfl
 | .nilf,y,h=>by cases y<;>simp [gW] at h;rfl
 | .data a,y,h=>by cases y<;>simp only [gW,gL] at h;rw [Ie _ _ h]
 | .agg a,y,h=>by cases y<;>simp only [gW,gL] at h;rw [Ie _ _ h]
 | .tup a,y,h=>by cases y<;>simp only [gW,gL] at h;rw [Ie _ _ h]
 | .ptr ..,y,h=>by cases y<;>simp [gW] at h
 | .eptr ..,y,h=>by cases y<;>simp [gW] at h
 | .own ..,y,h=>by cases y<;>simp [gW] at h
 | .sub ..,y,h=>by cases y<;>simp [gW] at h
 | .fn ..,y,h=>by cases y<;>simp [gW] at h
theorem Ie:∀ (x y:List PV),lY x y=true→x=y
 | [],y,h=>by cases y<;>simp [lY] at h;rfl
 | x::a,y,h=>by
  cases y with
  | nil=>simp [lY] at h
  | cons z b =>simp only [lY,bO] at h;rw [yOC _ _ h.1,Ie _ _ h.2]
end
abbrev wY:=List (Nat×List PV×PV)
def ypH:wY→Nat→List PV→Option PV
 | [],_,_=>none
 | (k,az,r)::t,n,bs=>bif Nat.beq k n&&lY az bs then some r else ypH t n bs
theorem Qf:∀ (t:wY) (n:Nat) (az:List PV) (r:PV),ypH t n az=some r→(n,az,r)∈t
 | [],_,_,_,h=>by simp [ypH] at h
 | (k,bs,q)::t,n,az,r,h=>by
  simp only [ypH] at h
  cases hc:(Nat.beq k n&&lY bs az) with
  | true =>rw [hc] at h;simp only [cond_true,bZ] at h;simp only [bO] at hc;have h1:=gA hc.1;have h2:=Ie _ _ hc.2;subst h1;subst h2;subst h;simp
  | false =>rw [hc] at h;simp only [cond_false] at h;exact eF _ (Qf t n az r h)
section
variable {P:Program} {E:Env}
def yAG:List (Nat×AFn)→Nat→Option AFn
 | [],_=>none
 | (k,a)::r,n=>bif Nat.beq k n then some a else yAG r n
def CA (P:Program):List (Nat×AFn)→Prop
 | []=>True
 | (n,a)::r=>(∃ f loc fg,P.funcs[n]?=some f∧kE P loc fg f=some a)∧CA P r
theorem Qg:∀ (l:List (Nat×AFn)),CA P l→∀ n a,yAG l n=some a→∃ f loc fg,P.funcs[n]?=some f∧kE P loc fg f=some a
 | [],_,_,_,h=>by simp [yAG] at h
 | (k,b)::r,hl,n,a,h=>by
  simp only [CA] at hl;simp only [yAG] at h
  cases hc:Nat.beq k n with
  | true =>rw [hc] at h;simp only [cond_true,bZ] at h;have:=gA hc;subst this;subst h;exact hl.1
  | false =>rw [hc] at h;exact Qg r hl.2 n a (by simpa using h)
def memN:List Nat→Nat→Bool
 | [],_=>false
 | k::r,n=>bif Nat.beq k n then true else memN r n
def u6 (n:Nat):PV:=.int .u64 (n:Int)
def sumC (add sub:Nat) (n:Nat) (az:List PV):Option PV:=
 match az with
 | [.int .u64 a,.int .u64 b,.int .u64 c]=>
  bif Nat.beq n add&&Nat.ble c.toNat 1 then some (.tup [u6 ((a.toNat+b.toNat+c.toNat)%18446744073709551616),u6 ((a.toNat+b.toNat+c.toNat)/18446744073709551616)])
  else bif Nat.beq n sub&&Nat.ble c.toNat 1 then some (.tup [u6 ((a.toNat+18446744073709551616-b.toNat-c.toNat)%18446744073709551616),u6 (bif Nat.ble (b.toNat+c.toNat) a.toNat then 0 else 1)])
  else none
 | _=>none
def Ig:Array Value→Sem Value:=fun args=>do
 let (x, y, b) ← Extern.MathBitsCarry.three "Sub64" args
 pure (Extern.MathBitsCarry.pair ((x+Extern.MathBitsCarry.m64-y-b)%Extern.MathBitsCarry.m64) (if x<y+b then 1 else 0))
theorem yIa (x y:Int) (b:Nat) (hb:b≤1) (w:World) :
  (Ig #[.int .u64 x,.int .u64 y,.int .u64 b]).run P w =
   .ok (.tuple #[.int .u64 (((x.toNat+18446744073709551616-y.toNat-b)%18446744073709551616:Nat):Int),.int .u64 ((if x.toNat<y.toNat+b then 1 else 0:Nat):Int)]) w:=by
 have:b=0∨b=1:=by omega
 rcases this with rfl | rfl<;>rfl
theorem yIb (x y:Int) (b:Nat) (hb:b≤1) (w:World) :
  (add64Entry #[.int .u64 x,.int .u64 y,.int .u64 b]).run P w =
   .ok (.tuple #[.int .u64 (((x.toNat+y.toNat+b)%18446744073709551616:Nat):Int),.int .u64 (((x.toNat+y.toNat+b)/18446744073709551616:Nat):Int)]) w:=by
 have:b=0∨b=1:=by omega
 rcases this with rfl | rfl<;>rfl
theorem E5 {I:Nat→Prop} {w:World} {a b c:Int} {vs:List Value} (h:gS I w [.int .u64 a,.int .u64 b,.int .u64 c] vs):vs=[.int .u64 a,.int .u64 b,.int .u64 c]:=by simp only [gS,fH,RC,kW,and_true] at h;obtain ⟨v,r,rfl,⟨rfl,_⟩,v2,r2,rfl,⟨rfl,_⟩,v3,r3,rfl,⟨rfl,_⟩,rfl⟩:=h;rfl
structure IsExtern (P:Program) (f:FuncId) (e:Array Value→Sem Value):Prop where
 h : ∃ fn, P.funcs[f]? = some fn ∧ (fn.name == "runtime.NumGoroutine") = false ∧ fn.body.isNone = true ∧ Extern.findNext fn = none ∧ Extern.find fn = some e
theorem IsExtern.run {f:FuncId} {e:Array Value→Sem Value} (h:IsExtern P f e) (args:Array Value) (w:World):(callFunc f args).run P w=((e args).run P w).andThen fun v w'=>.ok (.value v) w':=by obtain ⟨fn,h1,h2,h3,h4,h5⟩:=h.h;exact run_callFunc_extern h1 h2 h3 h4 h5 args w
theorem E6 (n:Nat) (h:n<18446744073709551616):jI .u64 (n:Int):=by
 have h0:u64.min=0:=by decide
 have h1:u64.max=18446744073709551615:=by decide
 exact ⟨by rw [h0];omega,by rw [h1];omega⟩
theorem E7 {G:Nat→Option PV} {f:FuncId} {az:List PV} {a b:Nat} (ha:a<18446744073709551616) (hb:b<18446744073709551616)
  (h:∀ (I:Nat→Prop) (w:World) (vs:List Value),gS I w az vs→(callFunc f vs.toArray).run P w=.ok (.value (.tuple #[.int .u64 (a:Int),.int .u64 (b:Int)])) w):qM P G f az (.tup [u6 a,u6 b]):=by
 intro I w vs _ _ hv;unfold nG;rw [h I w vs hv];refine ⟨Bel.refl _ _,?_⟩;simp only [VP,gS,fH,RC,u6];exact ⟨_,rfl,_,_,rfl,⟨rfl,E6 a ha⟩,_,_,rfl,⟨rfl,E6 b hb⟩,rfl⟩
theorem E8 {G:Nat→Option PV} {add sub:Nat} (ha:IsExtern P add add64Entry) (hs:IsExtern P sub Ig):∀ n az r,sumC add sub n az=some r→qM P G n az r:=by
 intro n az r h;unfold sumC at h;split at h
 ·rename_i a b c;have key:∀ (x y:Int) (I:Nat→Prop) (w:World) (vs:List Value),gS I w [.int .u64 a,.int .u64 b,.int .u64 c] vs→a.toNat<18446744073709551616∧b.toNat<18446744073709551616∧0≤c:=by
   intro x y I w vs hv;simp only [gS,fH,RC,jI] at hv;obtain ⟨v,r,-,⟨-,h1⟩,v2,r2,-,⟨-,h2⟩,v3,r3,-,⟨-,h3⟩,-⟩:=hv;have e1:u64.max=18446744073709551615:=by decide
   have e0:u64.min=0:=by decide
   rw [e1] at h1 h2;rw [e0] at h3;exact ⟨by omega,by omega,h3.1⟩
  cases h1:(Nat.beq n add&&Nat.ble c.toNat 1) with
  | true=>
   rw [h1] at h;simp only [cond_true,bZ] at h;simp only [bO] at h1;have e:=gA h1.1;have hc:=AN h1.2;subst e;subst h;intro I w vs hI hgl hv;obtain ⟨la,lb,-⟩:=key 0 0 I w vs hv;refine E7 (Nat.mod_lt _ (by omega)) (by omega) (fun I w vs hv=>?_) I w vs hI hgl hv;have h0:=(key 0 0 I w vs hv).2.2;have ec:c=(c.toNat:Int):=by omega
   rw [E5 hv,ha.run,ec];exact YS (fun r=>Result.andThen r fun v w'=>Result.ok (Next.value v) w') (yIb a b c.toNat hc w)
  | false=>
   rw [h1] at h;simp only [cond_false] at h
   cases h2:(Nat.beq n sub&&Nat.ble c.toNat 1) with
   | true=>
    rw [h2] at h;simp only [cond_true,bZ] at h;simp only [bO] at h2;have e:=gA h2.1;have hc:=AN h2.2;subst e;subst h;refine E7 (Nat.mod_lt _ (by omega)) (by cases Nat.ble (b.toNat+c.toNat) a.toNat<;>simp) (fun I w vs hv=>?_);have:(if a.toNat<b.toNat+c.toNat then 1 else 0:Nat)=(bif Nat.ble (b.toNat+c.toNat) a.toNat then 0 else 1):=by
     cases hh:Nat.ble (b.toNat+c.toNat) a.toNat with
     | true=>have:=AN hh;simp;omega
     | false=>
      have:¬(b.toNat+c.toNat≤a.toNat):=fun hle=>by rw [Eh hle] at hh;cases hh
      simp;omega
    have h0:=(key 0 0 I w vs hv).2.2;have ec:c=(c.toNat:Int):=by omega
    rw [← this,E5 hv,hs.run,ec];exact YS (fun r=>Result.andThen r fun v w'=>Result.ok (Next.value v) w') (yIa a b c.toNat hc w)
   | false=>rw [h2] at h;cases h
 ·cases h
def yRJ (add sub:Nat) (tab:List (Nat×AFn)) (qui:List Nat):Env:={ glob:=fun _=>none,sum:=sumC add sub,fns:=yAG tab,frz:=fun _=>false,qui:=memN qui }
theorem yOD {add sub:Nat} {tab:List (Nat×AFn)} {qui:List Nat} (ha:IsExtern P add add64Entry) (hs:IsExtern P sub Ig) (ht:CA P tab):EO P (yRJ add sub tab qui) where
 sum:=fun n az r h=>E8 ha hs n az r h
 fns:=fun n fn h=>Qg tab ht n fn h
 eff:=fun _ _ _ _ _ _ _ h=>by cases h
 dn:=fun _ h=>by cases h
 top:=fun _ _=>rfl
 yl:=fun _ _ _ _ _ _ h=>by cases h
end
def yRK (P:Program) (n:Nat):Prop:=∀ (args:Array Value) (w:World),(callFunc n args).run P w=.ok (.enter n args) w∧CallsDIn (Fc none) 0 P n args .returning w fun e u w'=>u=.returning∧w'=w∧∃ v,e=.returned v
def CB:List Nat→List Nat
 | []=>[]
 | k::r=>bif Nat.ble 6000000 k then (k-6000000)::CB r else CB r
theorem E9 {n:Nat}:∀ {l:List Nat},memN l (n+6000000)=true→n∈CB l
 | [],h=>by cases h
 | k::r,h=>by
  have h:(bif Nat.beq k (n+6000000) then true else memN r (n+6000000))=true:=h
  cases hb:Nat.beq k (n+6000000) with
  | true =>have e:=gA hb;subst e;have:Nat.ble 6000000 (n+6000000)=true:=Eh (by omega);simp only [CB,this,cond_true,Nat.add_sub_cancel,qAn,true_or]
  | false=>
   rw [hb] at h;have:=E9 (l:=r) h;simp only [CB]
   cases Nat.ble 6000000 k with
   | true=>exact eF _ this
   | false=>exact this
end Go.Pf
namespace Go.Pf
open Go
def aB (b:Bool) (x y:Prop):Prop:=match b with | true=>x | false=>y
def asr (b:Bool) (x:Prop):Prop:=match b with | true=>x | false=>False
theorem rJ {b:Bool} {x y:Prop}:aB b x y↔(b=true→x)∧(b=false→y):=by cases b<;>simp [aB]
theorem bP {b:Bool} {x:Prop}:asr b x↔b=true∧x:=by cases b<;>simp [asr]
inductive Cs where
 | i (k:IntKind)
 | b
 | d
 deriving DecidableEq,Inhabited
inductive Sh where
 | raw
 | one (c:Cs)
 | agg (l:List Cs)
 deriving Inhabited
def aK:PV→Int
 | .int _ n=>n
 | _=>0
def Qh:PV→Bool
 | .bool b=>b
 | _=>false
def bQ:PV→List PV
 | .data l=>l
 | _=>[]
def aP (r:PV) (j:Nat):PV:=r.cells.getD j .nils
def EM:Cs→PV→PV
 | .i k,x=>.int k (aK x)
 | .b,x=>.bool (Qh x)
 | .d,x=>.data (bQ x)
def Ih:List Cs→PV→Nat→List PV
 | [],_,_=>[]
 | c::t,r,j=>EM c (aP r j)::Ih t r (j+1)
def rK:Sh→PV→PV
 | .raw,r=>r
 | .one c,r=>EM c r
 | .agg l,r=>.agg (Ih l r 0)
def sY:Cs→PV→Bool
 | .i k,.int l _=>decide (k=l)
 | .b,.bool _=>true
 | .d,.data _=>true
 | _,_=>false
def EN:List Cs→List PV→Bool
 | [],[]=>true
 | c::t,x::r=>sY c x&&EN t r
 | _,_=>false
def aG:Sh→PV→Bool
 | .raw,_=>true
 | .one c,x=>sY c x
 | .agg l,.agg cs=>EN l cs
 | .agg _,_=>false
theorem F4:∀ (c:Cs) (x:PV),sY c x=true→EM c x=x
 | .i k,x,h=>by cases x<;>simp [sY] at h;simp [EM,aK,h]
 | .b,x,h=>by cases x<;>simp [sY] at h;simp [EM,Qh]
 | .d,x,h=>by cases x<;>simp [sY] at h;simp [EM,bQ]
theorem F5:∀ (l:List Cs) (pre cs:List PV),EN l cs=true→Ih l (.agg (pre++cs)) pre.length=cs
 | [],pre,cs,h=>by cases cs<;>simp [EN] at h;simp [Ih]
 | c::t,pre,cs,h=>by
  cases cs with
  | nil=>simp [EN] at h
  | cons x r=>
   simp only [EN,bO] at h;have h1:aP (.agg (pre++x::r)) pre.length=x:=by simp [aP,PV.cells]
   have h2:=F5 t (pre++[x]) r h.2;simp only [tU,List.singleton_append,kP,List.length_singleton] at h2;simp only [Ih,h1,F4 c x h.1,h2]
theorem F6:∀ (s:Sh) (r:PV),aG s r=true→rK s r=r
 | .raw,_,_=>rfl
 | .one c,x,h=>F4 c x h
 | .agg l,x,h=>by
  cases x with
  | agg cs=>have:=F5 l [] cs h;simpa [rK] using this
  | _=>simp [aG] at h
structure An where
 at_:Nat
 sh:Sh
 md:Nat
 deriving Inhabited
inductive TC where
 | skip
 | ops (l:List AO) (an:List An) (pairs:List (Nat×Nat)) (forget:List Nat)
 | seq (a b:TC)
 | cond (c:Opd) (a b:TC)
 | block (id:Nat) (b:TC)
 | loop (id:Nat) (b:TC)
 | lG (id:Nat) (b:TC)
 | exit (id:Nat)
 | ret
 | bad
 | rangeF (g:Opd) (f np:Nat) (ib:TC) (ps:List Nat) (az bd:TC)
 | yret (c:AC) (pre:List AO) (d:Nat) (y:Opd) (args:List Opd) (e:Nat) (fgt:List Nat)
 | cut (c:AC)
 | join (id:Nat) (b:TC)
 deriving Inhabited
def bI:TC→AC
 | .skip=>.skip
 | .ops l _ ps fg=>.ops l ps fg
 | .seq a b=>.seq (bI a) (bI b)
 | .cond c a b=>.cond c (bI a) (bI b)
 | .block id b=>.block id (bI b)
 | .loop _ b=>.loop (bI b)
 | .lG _ b=>.lG (bI b)
 | .exit id=>.exit id
 | .ret=>.ret
 | .bad=>.bad
 | .rangeF g _ _ _ ps az bd=>.rangeF g ps (bI az) (bI bd)
 | .yret c pre d y args e fgt=>.yret c pre d y args e fgt
 | .cut c=>c
 | .join _ b=>bI b
structure TFn where
 nparams:Nat
 results:List ARes
 body:TC
 deriving Inhabited
def TFn.fn (t:TFn):AFn:=⟨t.nparams,t.results,bI t.body⟩
def CC:List An→Nat→An
 | [],_=>⟨0,.raw,0⟩
 | a::r,i=>bif Nat.beq a.at_ i then a else CC r i
def Ii:Nat→List PV→Hp→Option (PV×Hp):=fun _ _ _=>none
abbrev OK:=Option FV→Option (Nat×PV)→Hp→Prop
abbrev CK:=PV→List PV→Hp→(PV→Hp→Prop)→Prop
def wv (H:Hp) (K:OK) (p:PV):Prop:=K (some (.v p)) none H
def Ij (H:Hp) (x:PV) (K:PV→Hp→Prop):Prop:=
 match x with
 | .bool b=>K (.bool b) H
 | .int k n=>K (.int k n) H
 | .nils | .emp=>K (.data []) H
 | .data rows=>K (.data rows) H
 | .own id lo len ext _=>
  (match H[id]? with
   | some b=>asr (decide (b.rows.length=ext)) (asr (decide (lo+len≤ext)) (asr b.pu (K (.data ((b.rows.drop lo).take len)) (H.set id { b with fz:=true }))))
   | none=>False)
 | _=>False
def LG:Hp→List PV→(List PV→Hp→Prop)→Prop
 | H,[],K=>K [] H
 | H,x::r,K=>Ij H x fun y H'=>LG H' r fun ys H''=>K (y::ys) H''
def yS (H:Hp) (x:PV) (K:PV→Hp→Prop):Prop:=
 match x with
 | .agg cs=>LG H cs fun ys H'=>K (.agg ys) H'
 | x=>Ij H x K
def EQ:Hp→List PV→(List PV→Hp→Prop)→Prop
 | H,[],K=>K [] H
 | H,x::r,K=>yS H x fun y H'=>EQ H' r fun ys H''=>K (y::ys) H''
def LH (H:Hp) (x:PV) (K:PV→Prop):Prop:=
 match x with
 | .tup ps=>EQ H ps fun qs _=>K (.tup qs)
 | x=>yS H x fun q _=>K q
def LI (H:Hp) (x:PV) (K:PV→Prop):Prop:=
 match x with
 | .ptr id ext i off=>(match H[id]? with
  | some b=>asr (decide (b.rows.length=ext)) (match b.rows[i]? with
   | some row=>yS H row fun q _=>K (.eptr [q] 0 off)
   | none=>False)
  | none=>False)
 | .eptr rows i off=>K (.eptr rows i off)
 | x=>yS H x fun q _=>K q
def LJ (H:Hp):List PV→(List PV→Prop)→Prop
 | [],K=>K []
 | x::r,K=>LI H x fun y=>LJ H r fun ys=>K (y::ys)
def Ik (pu:Bool) (H:Hp) (x:PV) (K:PV→Hp→Prop):Prop:=match pu with | true=>yS H x K | false=>K x H
def ER (E:Env) (F:aF) (pu:Bool) (esz:Nat):List PV→Hp→List (Nat×Opd)→(List PV→Hp→Prop)→Prop
 | rows,H,[],K=>K rows H
 | rows,H,(i,x)::r,K=>
  match evV E F x with
  | some p=>Ik pu H p fun q H'=>asr (Nat.beq q.cells.length esz&&Nat.blt i rows.length&&kV q.cells) (ER E F pu esz (rows.set i q) H' r K)
  | none=>False
def CD (op:BinOp) (k k':IntKind) (a b:Int) (K:PV→Prop):Prop:=
 match op with
 | .quo=>asr (decide (k=k')) (asr (!decide (b=0)) (K (.int k (k.wrap (a.tdiv b)))))
 | .rem=>asr (decide (k=k')) (asr (!decide (b=0)) (K (.int k (a.tmod b))))
 | .shl=>asr (!decide (b<0)) (K (.int k (k.wrap (a*2 ^ (min b.toNat k.bits)))))
 | .shr=>asr (!decide (b<0)) (K (.int k (a.fdiv (2 ^ (min b.toNat k.bits)))))
 | op=>asr (decide (k=k')) (match binI op k a b with | some r=>K r | none=>False)
def Bl (n:Nat) (j:Int) (K:Nat→Prop):Nat→Prop
 | 0=>False
 | m+1=>aB (decide (j=((n-(m+1):Nat):Int))) (K (n-(m+1))) (Bl n j K m)
def Il:List PV→Bool
 | []=>true
 | .int .u8 _::r=>Il r
 | _=>false
def Qi (agg:Bool) (n esz:Nat) (cs:List PV) (j:Int) (K:PV→Prop):Prop:=
 asr (!agg&&(Nat.beq esz 1&&(Nat.beq n cs.length&&Il cs))) (asr (decide (0≤j)) (asr (decide (j<(n:Int))) (K (.int .u8 (aK (cs.getD j.toNat .nils))))))
def Qj (H:Hp) (x:PV) (K:List PV→Prop):Prop:=
 match x with
 | .nils | .emp=>K []
 | .data rows=>K rows
 | .own id lo len ext _=>
  (match H[id]? with
   | some b=>asr (decide (b.rows.length=ext)) (asr (decide (lo+len≤ext)) (K ((b.rows.drop lo).take len)))
   | none=>False)
 | _=>False
def ES (H:Hp) (pu:Bool) (esz bytes:Nat) (rows:List PV) (K:PV→Hp→Prop):Prop:=
 asr (decide ((rows.length+64)*(bytes+1)≤room)) (K (.own H.length 0 rows.length rows.length none) (H++[⟨false,pu,esz,rows⟩]))
def CE (md:Nat) (H:Hp) (pu:Bool) (esz bytes:Nat) (s:PV) (ys:List PV) (K:PV→Hp→Prop):Prop:=
 match s with
 | .nils=>aB ys.isEmpty (K .nils H) (ES H pu esz bytes ys K)
 | .emp=>aB ys.isEmpty (K .emp H) (ES H pu esz bytes ys K)
 | .own id lo len ext cap=>
  (match H[id]? with
   | some b=>
    asr (decide (b.rows.length=ext)) (asr (decide (b.pu=pu)&&decide (b.esz=esz)) (asr (decide (lo+len≤ext))
     (aB ys.isEmpty (K (.own id lo len ext cap) H)
      (match cap with
       | some c=>
        let W1:=asr (!b.fz) (K (.own id lo (len+ys.length) ext cap) (H.set id { b with rows:=b.rows.take (lo+len)++(ys++b.rows.drop (lo+len+ys.length)) }));let W2:=ES H pu esz bytes ((b.rows.drop lo).take len++ys) K
        (match md with
         | 9=>aB (decide (len+ys.length≤c)) W1 W2
         | 8=>aB (decide (len+ys.length≤c)) W1 W2
         | 2=>asr (!decide (len+ys.length≤c)) W2
         | _=>asr (decide (len+ys.length≤c)) W1)
       | none=>
        let W1:=K (.own id lo (len+ys.length) ext none) (H.set id { b with rows:=b.rows.take (lo+len)++(ys++b.rows.drop (lo+len+ys.length)) });let W3:=asr (decide (lo=0)) (asr (decide (len=ext)) (asr (decide ((ext+ys.length+64)*(bytes+1)≤room))
          (K (.own id 0 (b.rows++ys).length (b.rows++ys).length none) (H.set id { b with rows:=b.rows++ys }))))
        let W4:=asr (decide (lo=0)) (asr (decide (len≤ext)) (asr (decide ((len+ys.length+64)*(bytes+1)≤room))
          (K (.own id 0 (len+ys.length) (len+ys.length) none) (H.set id { b with rows:=b.rows.take len++ys }))))
        asr (!b.fz) (match md with
         | 9=>aB (decide (lo+len+ys.length≤ext)) W1 W3
         | 8=>aB (decide (lo+len+ys.length≤ext)) W1 W4
         | 1=>asr (decide (lo+len+ys.length≤ext)) W1
         | _=>asr (!decide (lo+len+ys.length≤ext)) W3)))))
   | none=>False)
 | _=>False
def Qk (H:Hp) (esz:Nat) (lo hi mx:Option Int) (x:PV) (K:PV→Prop):Prop:=
 match x with
 | .nils=>asr (decide (lo.getD 0=0)&&(decide (hi.getD 0=0)&&decide (mx.getD 0=0))) (K .nils)
 | .emp=>asr (decide (lo.getD 0=0)&&(decide (hi.getD 0=0)&&decide (mx.getD 0=0))) (K .emp)
 | .data rows=>
  let h:=hi.getD rows.length;let l:=lo.getD 0
  (match mx with
   | none=>asr (decide (0≤l)) (asr (decide (l≤h)) (asr (decide (h≤rows.length)) (asr (decide (l=0)||nN esz rows) (K (.data ((rows.take h.toNat).drop l.toNat))))))
   | some m=>asr (decide (0≤l)) (asr (decide (l≤h)) (asr (decide (h≤m)) (asr (decide (m≤rows.length)) (asr (decide (l=0)||nN esz rows)
      (aB (decide (l=m)) (K .emp) (K (.data ((rows.take h.toNat).drop l.toNat)))))))))
 | .own id lo0 len ext cap=>
  let h:=hi.getD len;let l:=lo.getD 0
  (match H[id]? with
   | some b=>asr (b.esz==esz)
    (match mx with
     | none=>asr (decide (0≤l)) (asr (decide (l≤h)) (asr (decide (h≤len)||decide (h≤Co len cap)) (K (.own id (lo0+l.toNat) (h-l).toNat ext (cap.map fun c=>c-l.toNat)))))
     | some m=>asr (decide (0≤l)) (asr (decide (l≤h)) (asr (decide (h≤m)) (asr (decide (m≤len)||decide (m≤Co len cap)) (K (.own id (lo0+l.toNat) (h-l).toNat ext (some (m-l).toNat)))))))
   | none=>False)
 | _=>False
def yT (sh:Sh) (rows:List PV) (i:Nat) (K:PV→Prop):Prop:=
 match sh with
 | .raw=>(match rows[i]? with | some r=>K r | none=>False)
 | sh=>asr (decide (i<rows.length)) (asr (aG sh (rows.getD i .nils)) (K (rK sh (rows.getD i .nils))))
def F7:List Cs→Bool
 | []=>true
 | .i _::r=>F7 r
 | _=>false
def shL (sh:Sh) (esz sz:Nat):Sh:=
 match sh with
 | .agg l=>bif !(Nat.beq esz sz)&&(Nat.beq l.length sz&&F7 l) then .raw else .agg l
 | x=>x
def F8:List Cs→Bool
 | []=>false
 | .d::_=>true
 | _::r=>F8 r
def F9 (sh:Sh) (pu:Bool):Sh:=
 match sh with
 | .agg l=>bif !pu&&F8 l then .raw else .agg l
 | x=>x
def lA (E:Env) (callK:CK) (a:An) (F:aF) (H:Hp) (o:AOp) (K:OK):Prop:=
 match o with
 | .pick c x y=>
  (match evV E F c with
   | some (.bool t)=>aB t (match evV E F x with | some p=>wv H K p | none=>False) (match evV E F y with | some p=>wv H K p | none=>False)
   | _=>False)
 | .bin op x y=>
  (match evV E F x,evV E F y with
   | some (.int k p),some (.int k' q)=>CD op k k' p q (wv H K)
   | _,_=>False)
 | .load agg sz x=>
  (match ev E F x with
   | some (.v (.ptr id ext i off))=>
    (match H[id]? with
     | some b=>asr (decide (b.rows.length=ext)) (yT (F9 (shL a.sh b.esz sz) b.pu) b.rows i fun row=>match ygE agg sz row off with | some p=>wv H K p | none=>False)
     | none=>False)
   | _=>(match yap E Ii F H (.load agg sz x) with | some ⟨x,bx,H'⟩=>K x bx H' | none=>False))
 | .store sz x y=>
  (match ev E F x with
   | some (.v (.ptr id ext i off))=>
    (match evV E F y with
     | some p=>
       (match H[id]? with
        | some b0=>
         Ik b0.pu H p fun q H'=>
          (match H'[id]? with
           | some b=>asr (decide (b.rows.length=ext)) (asr (!b.fz) (yT (F9 a.sh b.pu) b.rows i fun row=>match yjT row off sz q with
            | some row'=>K none none (H'.set id { b with rows:=b.rows.set i row' })
            | none=>False))
           | none=>False)
        | none=>False)
     | none=>False)
   | _=>(match yap E Ii F H (.store sz x y) with | some ⟨x,bx,H'⟩=>K x bx H' | none=>False))
 | .iad esz x i=>
  (match evV E F x,yf0 E F i with
   | some (.data rows),some n=>
    asr (decide (0≤n)) (asr (decide (n<rows.length)) (asr (aG a.sh (rows.getD n.toNat .nils)) (asr (decide ((rK a.sh (rows.getD n.toNat .nils)).cells.length=esz)) (wv H K (.eptr [rK a.sh (rows.getD n.toNat .nils)] 0 0)))))
   | some (.own id lo len ext _),some n=>
    (match H[id]? with
     | some b=>asr (decide (0≤n)) (asr (decide (n<len)) (asr (decide (b.esz=esz)) (wv H K (.ptr id ext (lo+n.toNat) 0))))
     | none=>False)
   | some (.sub id ext r off m e),some j=>asr (Nat.beq e esz) (Bl m j (fun k=>wv H K (.ptr id ext r (off+k*esz))) m)
   | _,_=>False)
 | .iadA n esz x i=>
  (match ev E F x,yf0 E F i with
   | some (.bp s o),some j=>Bl n j (fun k=>K (some (.bp s (o+k*esz))) none H) n
   | some (.v (.ptr id e r o)),some j=>Bl n j (fun k=>wv H K (.ptr id e r (o+k*esz))) n
   | some (.v (.eptr rows r o)),some j=>Bl n j (fun k=>wv H K (.eptr rows r (o+k*esz))) n
   | _,_=>False)
 | .idx agg n esz x i=>
  (match evV E F x,yf0 E F i with
   | some (.agg cs),some j=>(match x with
    | .c _=>Qi agg n esz cs j (wv H K)
    | _=>Bl n j (fun k=>match ygE agg esz (.agg cs) (k*esz) with | some p=>wv H K p | none=>False) n)
   | _,_=>False)
 | .slc esz x lo hi mx=>
  (match evV E F x,pA E F lo,pA E F hi,pA E F mx with
   | some p,some l,some h,some m=>(match (m.isSome&&h.isNone) with | true=>False | false=>Qk H esz l h m p (wv H K))
   | _,_,_,_=>False)
 | .mkSl pu esz bytes z l c=>
  (match yf0 E F l,yf0 E F c with
   | some l,some c=>asr (decide (0≤l)) (asr (decide (l≤c)) (asr (decide ((c.toNat+64)*(bytes+1)≤room))
      (K (some (.v (.own H.length 0 l.toNat c.toNat (some c.toNat)))) none (H++[⟨false,pu,esz,replicate c.toNat z⟩]))))
   | _,_=>False)
 | .app pu esz bytes s x=>
  (match evV E F s,evV E F x with
   | some s,some x=>Qj H x fun ys=>asr (nN esz ys) (asr (wQ H pu x) (CE a.md H pu esz bytes s ys fun r H'=>K (some (.v r)) none H'))
   | _,_=>False)
 | .appZ pu esz bytes z s n=>
  (match evV E F s,yf0 E F n with
   | some .nils,some k=>asr (decide (0≤k)) (aB (decide (k.toNat=0)) (wv H K .nils) (ES H pu esz bytes (replicate k.toNat z) fun r H'=>K (some (.v r)) none H'))
   | _,_=>False)
 | .eqN neg x=>
  (match evV E F x with
   | some .nils=>wv H K (.bool (bif neg then false else true))
   | some (.mt b)=>wv H K (.bool (bif neg then !b else b))
   | some (.data rows)=>asr (!rows.isEmpty) (wv H K (.bool neg))
   | some (.own _ _ _ _ _)=>wv H K (.bool neg)
   | _=>False)
 | .clr pu esz z x=>
  (match evV E F x with
   | some .nils=>wv H K (.tup [])
   | some .emp=>wv H K (.tup [])
   | some (.mt _)=>wv H K (.tup [])
   | some (.own id lo len ext _)=>(match H[id]? with
    | some b=>aB (decide (len=0)) (wv H K (.tup [])) (asr (decide (b.rows.length=ext)) (asr (decide (lo+len≤ext)) (asr (!b.fz) (asr (b.pu==pu) (asr (Nat.beq b.esz esz) (K (some (.v (.tup []))) none (H.set id { b with rows:=b.rows.take lo++(replicate len z++b.rows.drop (lo+len)) })))))))
    | none=>False)
   | _=>False)
 | .boxH pu esz x=>
  (match evV E F x with
   | some p=>Ik pu H p fun q H'=>asr (Nat.beq q.cells.length esz&&kV q.cells) (K (some (.v (.ptr H'.length 1 0 0))) none (H'++[⟨false,pu,esz,[q]⟩]))
   | none=>False)
 | .bSl pu esz z len parts=>
  (match len with
   | 0=>wv H K .emp
   | len+1=>ER E F pu esz (replicate (len+1) z) H parts fun rows H'=>K (some (.v (.own H'.length 0 (len+1) (len+1) (some (len+1))))) none (H'++[⟨false,pu,esz,rows⟩]))
 | .buildN pu esz z len parts=>
  (match len with
   | 0=>wv H K .emp
   | len+1=>ER E F pu esz (replicate (len+1) z) H parts fun rows H'=>K (some (.v (.own H'.length 0 (len+1) (len+1) none))) none (H'++[⟨false,pu,esz,rows⟩]))
 | .bD esz z len parts=>
  (match len with
   | 0=>wv H K .emp
   | len+1=>ER E F true esz (replicate (len+1) z) H parts fun rows H'=>K (some (.v (.data rows))) none H')
 | .mvD x=>
  (match evV E F x with
   | some p=>Ij H p fun q H'=>(match q with | .data rows=>K (some (.v (.data rows))) none H' | _=>False)
   | none=>False)
 | .call f args=>
  (match evV E F f,evs E F args with
   | some g,some vs=>callK g vs H fun r H'=>K (some (.v r)) none H'
   | _,_=>False)
 | o=>(match yap E Ii F H o with | some ⟨x,bx,H'⟩=>K x bx H' | none=>False)
def kG:aF→Nat→FV→aF
 | [],_,_=>[]
 | (k,y)::r,s,x=>bif Nat.beq k s then (k,x)::r else (k,y)::kG r s x
def LK (F:aF) (g:Option (Nat×Bool)) (yes no:aF→Prop):Prop:=
 match g with
 | none=>yes F
 | some (s,want)=>(match fget F s with
  | some (.v (.bool b))=>(match want with
   | true=>aB b (yes (kG F s (.v (.bool true)))) (no (kG F s (.v (.bool false))))
   | false=>aB b (no (kG F s (.v (.bool true)))) (yes (kG F s (.v (.bool false)))))
  | some (.v (.tup []))=>no F
  | _=>False)
def yU (F:aF) (c:Opd) (b:Bool):aF:=
 match c with
 | .t s=>kG F s (.v (.bool b))
 | _=>F
def ET (F:aF):Option Nat→aF
 | some d=>bJ F d (.v (.tup []))
 | none=>F
def CF (p:PV) (K:PV→Prop):Prop:=
 match p with
 | .bool b=>K (.bool b)
 | .int k n=>K (.int k n)
 | .agg cs=>K (.agg cs)
 | .data r=>K (.data r)
 | .own a b c d e=>K (.own a b c d e)
 | .ptr a b c d=>K (.ptr a b c d)
 | .sub a b c d e f=>K (.sub a b c d e f)
 | p=>K p
def uM:List PV→(List PV→Prop)→Prop
 | [],K=>K []
 | x::r,K=>CF x fun x=>uM r fun r=>K (x::r)
def yV (p:PV) (K:PV→Prop):Prop:=
 match p with
 | .agg cs=>uM cs fun cs=>K (.agg cs)
 | .tup cs=>uM cs fun cs=>K (.tup cs)
 | p=>CF p K
def CG (x:FV) (K:FV→Prop):Prop:=
 match x with
 | .v p=>yV p fun p=>K (.v p)
 | .box p=>yV p fun p=>K (.box p)
 | .bp s o=>K (.bp s o)
def yW:aF→(aF→Prop)→Prop
 | [],K=>K []
 | (k,x)::r,K=>CG x fun x=>yW r fun r=>K ((k,x)::r)
def CH (b:Bool) (K:Bool→Prop):Prop:=match b with | true=>K true | false=>K false
def yX:Hp→(Hp→Prop)→Prop
 | [],K=>K []
 | ⟨fz,pu,esz,rows⟩::r,K=>CH fz fun fz=>CH pu fun pu=>yX r fun r=>K (⟨fz,pu,esz,rows⟩::r)
theorem G3 (p:PV) (K:PV→Prop):CF p K=K p:=by cases p<;>rfl
theorem G4:∀ (l:List PV) (K:List PV→Prop),uM l K=K l
 | [],_=>rfl
 | x::r,K=>by simp only [uM,G3,G4 r]
theorem yOE (p:PV) (K:PV→Prop):yV p K=K p:=by cases p<;>simp only [yV,G4,G3]
theorem yOF (x:FV) (K:FV→Prop):CG x K=K x:=by cases x<;>simp only [CG,yOE]
theorem G5:∀ (F:aF) (K:aF→Prop),yW F K=K F
 | [],_=>rfl
 | (k,x)::r,K=>by simp only [yW,yOF,G5 r]
theorem yOG (b:Bool) (K:Bool→Prop):CH b K=K b:=by cases b<;>rfl
theorem G6:∀ (H:Hp) (K:Hp→Prop),yX H K=K H
 | [],_=>rfl
 | ⟨fz,pu,esz,rows⟩::r,K=>by simp only [yX,yOG,G6 r]
def CI (F:aF) (H:Hp) (K:aF→Hp→Prop):Prop:=yW F fun F=>yX H fun H=>K F H
theorem Im (F:aF) (H:Hp) (K:aF→Hp→Prop):CI F H K=K F H:=by simp only [CI,G5,G6]
def rL (E:Env) (callK:CK) (an:List An):List AO→Nat→aF→Hp→(aF→Hp→Prop)→Prop
 | [],_,F,H,K=>K F H
 | o::r,i,F,H,K=>
  LK F o.guard
   (fun F=>lA E callK (CC an i) F H o.op fun x bx H'=>match ye2 (lP F bx) o.dst x with
    | none=>False
    | some F'=>CI F' H' fun F' H'=>rL E callK an r (i+1) F' H' K)
   (fun F=>rL E callK an r (i+1) (ET F o.dst) H K)
def yMn (E:Env) (F:aF) (f:Opd) (az:List Opd):Option (List Nat):=
 match evV E F f,evs E F az with
 | some g,some vs=>(match yld E g vs with
  | some x=>some (x.id::fM (x.all.set x.j (.int .i64 0)))
  | none=>(match g with
   | .fn (.func n) first captured=>bif E.qui n then some (fM (first++vs++captured)) else none
   | _=>none))
 | _,_=>none
def Bm (E:Env) (F:aF) (H:Hp) (o:AOp):FP:=
 match o with
 | .call f az=>bif rE E F f az then aQ E F H (.call f az) else (match yMn E F f az with | some l=>⟨f.slots++AU az,[],List.range H.length,l,true,false⟩ | none=>aQ E F H (.call f az))
 | o=>aQ E F H o
def yJG (E:Env) (F:aF) (H:Hp) (o:AO):FP:=
 let p:=Bm E F H o.op;⟨Er o.guard++p.rd,o.dst.toList++p.wr,p.hr,p.hw,p.push,p.all⟩
def fpNo (o:AO):FP:=⟨Er o.guard,o.dst.toList,[],[],false,false⟩
def rM (E:Env) (callK:CK) (an:List An) (F0:aF) (l0:List AO) (pairs:List (Nat×Nat)):List AO→Nat→aF→Hp→List FP→(aF→Hp→Prop)→Prop
 | [],_,F,H,ps,K=>asr (ykk ps.reverse pairs&&Et F0 l0 l0) (K F H)
 | o::r,i,F,H,ps,K=>
  LK F o.guard
   (fun F=>lA E callK (CC an i) F H o.op fun x bx H'=>match yhN (lP F bx) o.dst x with
    | none=>False
    | some F'=>CI F' H' fun F' H'=>rM E callK an F0 l0 pairs r (i+1) F' H' (yJG E F H o::ps) K)
   (fun F=>rM E callK an F0 l0 pairs r (i+1) (ET F o.dst) H (fpNo o::ps) K)
abbrev LP:=Nat→aF→aF→Hp→(Ex→aF→Hp→Prop)→Prop
abbrev YK:=List PV→Hp→(Option Nat→Hp→Prop)→Prop
def dB:YK:=fun _ _ _=>False
def CJ (K:Nat) (H:Hp) (Q:Hp→Prop):Prop:=asr (kC (noY K) (fun _=>true) H) (Q H)
def WC (E:Env) (callK:CK) (lp:LP):aF→YK→TC→aF→Hp→(Ex→aF→Hp→Prop)→Prop
 | _,_,.skip,F,H,Q=>Q .norm F H
 | _,_,.ops l an [] fg,F,H,Q=>rL E callK an l 0 F H fun F' H'=>CI (fdels F' fg) H' fun F' H'=>Q .norm F' H'
 | _,_,.ops l an (p::ps) fg,F,H,Q=>rM E callK an (wU F l) l (p::ps) l 0 (wU F l) H [] fun F' H'=>CI (fdels F' fg) H' fun F' H'=>Q .norm F' H'
 | G,yk,.seq a b,F,H,Q=>WC E callK lp G yk a F H fun x F' H'=>match x with
  | .norm=>WC E callK lp G yk b F' H' Q
  | .exit i=>Q (.exit i) F' H'
  | .ret=>Q .ret F' H'
  | .brk k i=>Q (.brk k i) F' H'
 | G,yk,.cond c a b,F,H,Q=>(match evV E F c with
  | some (.bool t)=>aB t (WC E callK lp G yk a (yU F c true) H Q) (WC E callK lp G yk b (yU F c false) H Q)
  | _=>False)
 | G,yk,.block id b,F,H,Q=>WC E callK lp G yk b F H fun x F' H'=>match x with
  | .norm=>Q .norm F' H'
  | .exit i=>(bif Nat.beq i id then Q .norm F' H' else Q (.exit i) F' H')
  | .ret=>Q .ret F' H'
  | .brk k i=>Q (.brk k i) F' H'
 | G,_,.loop id _,F,H,Q=>lp id G F H Q
 | G,_,.lG id _,F,H,Q=>lp id G F H Q
 | G,_,.join id _,F,H,Q=>lp id G F H Q
 | _,_,.exit id,F,H,Q=>Q (.exit id) F H
 | _,_,.ret,F,H,Q=>Q .ret F H
 | _,_,.bad,_,_,_=>False
 | _,_,.cut _,_,_,_=>False
 | _,_,.rangeF g f np ib ps az bd,F,H,Q=>(match evV E F g with
  | some (.fn (.func n) first cap)=>asr (Nat.beq n f&&decide ((first++[PV.fn (.yield E.yn) [] []]++cap).length=np))
   (WC E callK lp (gR F) (fun vs H K=>match yoD (gR F) ps vs with
     | some F1=>WC E callK lp [] dB az F1 H fun x F2 H2=>match x with
      | .norm=>WC E callK lp [] dB bd F2 H2 fun x _ H3=>match x with
       | .norm=>K none H3
       | .exit i=>K (some i) H3
       | .ret | .brk _ _=>False
      | .exit _ | .ret | .brk _ _=>False
     | none=>False) ib (kX 0 (first++[PV.fn (.yield E.yn) [] []]++cap)) H fun x _ H'=>match x with
    | .norm | .ret=>CJ E.yn H' fun H'=>Q .norm F H'
    | .brk k i=>asr (Nat.beq k E.yn) (CJ E.yn H' fun H'=>Q (.exit i) F H')
    | .exit _=>False)
  | _=>False)
 | _,yk,.yret _ pre d y args e fgt,F,H,Q=>rL E callK [] pre 0 F H fun F1 H1=>(match evV E F1 y,evs E F1 args with
  | some (.fn (.yield k) [] []),some vs=>asr (Nat.beq k E.yn) (yk vs H1 fun r H2=>match r with
   | none=>CI (fdels (bJ (bJ F1 d (.v (.bool true))) e (.v (.bool false))) fgt) H2 fun F' H'=>Q .norm F' H'
   | some i=>Q (.brk k i) (bJ (bJ F1 d (.v (.bool false))) e (.v (.bool true))) H2)
  | _,_=>False)
abbrev Qx:Type:=Ex→aF→Hp→Prop
abbrev G7 (R:aF→Hp→Prop) (Q:Qx):Qx:=fun x F' H'=>match x with | .norm=>R F' H' | .exit i=>Q (.exit i) F' H' | .ret=>Q .ret F' H' | .brk k i=>Q (.brk k i) F' H'
def Io (E:Env) (callK:CK) (lp:LP) (fn:TFn) (args:List PV) (H:Hp) (K:PV→Hp→Prop):Prop:=
 asr (decide (args.length=fn.nparams)) (WC E callK lp [] dB fn.body (kX 0 args) H fun x F' H'=>match x with
  | .exit _ | .brk _ _=>False
  | .norm | .ret=>(match yjz F' H' fn.results with | some ps=>K (sN ps) H' | none=>False))
structure SE where
 E:Env
 sumK:Nat→Option (List PV→(PV→Prop)→Prop)
 inl:Nat→Option TFn
 lp:LP
 sumL:Nat→Option (List PV→HB→(PV→List PV→Prop)→Prop)
def Ip (wp:List PV→HB→(PV→List PV→Prop)→Prop) (x:LocC) (H:Hp) (K:PV→Hp→Prop):Prop:=
 EQ H (x.all.set x.j (.int .i64 0)) fun az H'=>match H'[x.id]? with
  | some b=>asr (!b.fz&&b.pu) (wp (az.set x.j x.y) b fun q rows=>K q (H'.set x.id { b with rows:=rows }))
  | none=>False
def jO (S:SE):Nat→CK
 | 0,_,_,_,_=>False
 | d+1,f,args,H,K=>
  match f with
  | .fn (.func n) first captured=>
   (match yld S.E f args with
   | some x=>(match S.sumL x.n with | some wp=>Ip wp x H K | none=>False)
   | none=>
   match S.sumK n with
    | some wp=>(bif S.E.rb n then LJ (jM H) (first++args++captured) fun az=>wp az fun r=>asr r.scalar (K r H)
     else EQ H (first++args++captured) fun az H'=>wp az fun r=>K r (bif r.scalar then H else H'))
    | none=>(match S.inl n with
     | some fn=>(bif S.E.rb n then False else Io S.E (jO S d) S.lp fn (first++args++captured) H K)
     | none=>(match S.E.eff n (first++args++captured) H with
      | some (c,t,x,y)=>asr c (aB t (K x.1 x.2) (K y.1 y.2))
      | none=>False)))
  | _=>False
@[irreducible] def WP (S:SE) (d:Nat) (fn:TFn) (args:List PV) (K:PV→Prop):Prop:=
 Io S.E (jO S d) S.lp fn args [] fun r H=>LH H r K
abbrev EP:=Nat→Env→Prop
def gD (E e:Env):Prop:=e={ E with yn:=e.yn,ctx:=e.ctx,yl:=e.yl }
def aZ (E:Env):EP:=fun _ e=>gD E e
def gN (E:Env):EP:=fun _ e=>e=E
def Iq (E:Env):EP:=fun _ e=>e=E.ats (E.yn+1)
def aM (P:EP) (E:Env):Prop:=∀ n e,P n e→gD E e
theorem aM.uni (E:Env):aM (aZ E) E:=fun _ _ h=>h
theorem aM.solo (E:Env):aM (gN E) E:=fun _ e h=>by cases h;rfl
theorem aM.ats (E:Env):aM (Iq E) E:=fun _ e h=>by cases h;rfl
def hnd (E:Env) (G:aF) (ps:List Nat) (az bd:AC) (n:Nat):Nat→List PV→Hp→Option (Option Nat×Hp):=fun y vs H=>(match yoD G ps vs with
 | some F1=>(match exec (E.ats y) n az F1 H with
  | some (.norm,F2,H2)=>(match exec (E.ats y) n bd F2 H2 with
   | some (.norm,_,H3)=>some (none,H3)
   | some (.exit i,_,H3)=>some (some i,H3)
   | _=>none)
  | _=>none)
 | none=>none)
def Ir (E:Env) (G:aF) (ps:List Nat) (az bd:AC):EP:=fun n e=>e=E.push ⟨G,ps,az,bd⟩ (hnd E G ps az bd n)
theorem aM.rng (E:Env) (G:aF) (ps:List Nat) (az bd:AC):aM (Ir E G ps az bd) E:=fun _ e h=>by cases h;rfl
def Good (P:EP) (callK:CK):Prop:=
 ∀ f args H K,callK f args H K→∃ r H',K r H'∧∃ m0,∀ n e m,m0≤n→P n e→m0≤m→yjl e (yaD e m) f args H=some (r,H')
theorem Good.sub {E:Env} {P:EP} {callK:CK} (h:Good (aZ E) callK) (hP:aM P E):Good P callK:=fun f args H K hk=>by obtain ⟨r,H',k,m0,hm⟩:=h f args H K hk;exact ⟨r,H',k,m0,fun n e m h1 h2 h3=>hm n e m h1 (hP n e h2) h3⟩
section
variable {E:Env} {y:Nat} {cx:Nat→Option LCtx} {yl:Nat→Nat→List PV→Hp→Option (Option Nat×Hp)}
theorem LM (F:aF) (x:Opd):ev { E with yn:=y,ctx:=cx,yl:=yl } F x=ev E F x:=by cases x<;>rfl
theorem wZ (F:aF) (x:Opd):evV { E with yn:=y,ctx:=cx,yl:=yl } F x=evV E F x:=by simp only [evV,LM]
theorem EU (F:aF):∀ l:List Opd,evs { E with yn:=y,ctx:=cx,yl:=yl } F l=evs E F l
 | []=>rfl
 | x::r=>by simp only [evs,wZ,EU F r]
theorem G8 (F:aF) (x:Opd):yf0 { E with yn:=y,ctx:=cx,yl:=yl } F x=yf0 E F x:=by simp only [yf0,wZ]
theorem yMo (F:aF) (x:Option Opd):pA { E with yn:=y,ctx:=cx,yl:=yl } F x=pA E F x:=by cases x<;>simp only [pA,G8]
theorem G9 (F:aF):∀ (l:List (Nat×Nat×Opd)) (cs:List PV),ylc { E with yn:=y,ctx:=cx,yl:=yl } F cs l=ylc E F cs l
 | [],_=>rfl
 | (_,_,x)::r,cs=>by simp only [ylc,wZ,G9 F r]
theorem H8 (F:aF) (pu:Bool) (esz:Nat):∀ (l:List (Nat×Opd)) (rows:List PV) (H:Hp),yhu { E with yn:=y,ctx:=cx,yl:=yl } F pu esz rows H l=yhu E F pu esz rows H l
 | [],_,_=>rfl
 | (_,x)::r,rows,H=>by simp only [yhu,wZ,H8 F pu esz r]
theorem H9 (F:aF) (x:Opd):mM { E with yn:=y,ctx:=cx,yl:=yl } F x=mM E F x:=by simp only [mM,LM]
theorem yId (F:aF) (x:Opd):sM { E with yn:=y,ctx:=cx,yl:=yl } F x=sM E F x:=by simp only [sM,LM]
theorem I0 (F:aF):∀ l:List (Nat×Opd),oM { E with yn:=y,ctx:=cx,yl:=yl } F l=oM E F l
 | []=>rfl
 | (_,x)::r=>by simp only [oM,H9,I0 F r]
theorem yAU (F:aF) (f:Opd) (az:List Opd):rE { E with yn:=y,ctx:=cx,yl:=yl } F f az=rE E F f az:=by simp only [rE,wZ,EU]
theorem yKW (F:aF) (H:Hp) (o:AOp):aQ { E with yn:=y,ctx:=cx,yl:=yl } F H o=aQ E F H o:=by
 cases o<;>simp only [aQ,H9,yId,I0,yAU]
theorem yIe {F:aF} {H:Hp} {o:AOp} (h:pG o=false) (c1 c2:Nat→List PV→Hp→Option (PV×Hp)):yap { E with yn:=y,ctx:=cx,yl:=yl } c1 F H o=yap E c2 F H o:=by
 cases o<;>first | (simp [pG] at h;done) | simp only [yap,LM,wZ,EU,G8,yMo,G9,H8]
end
def I1 (E:Env) (F:aF) (H:Hp) (o:AOp) (K:OK):Prop:=
 ∃ out:Out,K out.x out.bx out.h∧∃ m0,∀ m,m0≤m→yap E (yaD E m) F H o=some out
def yQr (P:EP) (F:aF) (H:Hp) (o:AOp) (K:OK):Prop:=
 ∃ out:Out,K out.x out.bx out.h∧∃ m0,∀ n e m,m0≤n→P n e→m0≤m→yap e (yaD e m) F H o=some out
section
variable {E:Env} {callK:CK} {F:aF} {H:Hp} {K:OK}
theorem I2 {o:AOp} (h:pG o=false) (c1 c2:Nat→List PV→Hp→Option (PV×Hp)):yap E c1 F H o=yap E c2 F H o:=by
 cases o<;>first | rfl | simp [pG] at h
theorem Ql {o:AOp} (hc:pG o=false) (h:match yap E Ii F H o with | some ⟨x,bx,H'⟩=>K x bx H' | none=>False):I1 E F H o K:=by
 split at h
 ·rename_i x bx H' he;exact ⟨⟨x,bx,H'⟩,h,0,fun m _=>by rw [I2 hc (yaD E m) Ii,he]⟩
 ·exact h.elim
theorem Qm {H:Hp} {x:PV} {K:PV→Hp→Prop} (h:Ij H x K):∃ y H',K y H'∧yfT H x=some (y,H'):=by
 unfold Ij at h;split at h
 ·exact ⟨_,_,h,rfl⟩
 ·exact ⟨_,_,h,rfl⟩
 ·exact ⟨_,_,h,rfl⟩
 ·exact ⟨_,_,h,rfl⟩
 ·exact ⟨_,_,h,rfl⟩
 ·split at h
  ·rename_i b hb;obtain ⟨h1,h⟩:=bP.1 h;obtain ⟨h2,h⟩:=bP.1 h;obtain ⟨h3,h⟩:=bP.1 h;exact ⟨_,_,h,by simp only [yfT,hb];rw [YQ ⟨by simpa using h1,by simpa using h2,h3⟩]⟩
  ·exact h.elim
 ·exact h.elim
theorem I3:∀ (l:List PV) (H:Hp) (K:List PV→Hp→Prop),LG H l K→∃ ys H',K ys H'∧yeY H l=some (ys,H')
 | [],H,K,h=>⟨_,_,h,rfl⟩
 | x::r,H,K,h=>by simp only [LG] at h;obtain ⟨y,H1,h,e1⟩:=Qm h;obtain ⟨ys,H2,h,e2⟩:=I3 r H1 _ h;exact ⟨_,_,h,by simp only [yeY,e1,e2]⟩
theorem Is {H:Hp} {x:PV} {K:PV→Hp→Prop} (h:yS H x K):∃ y H',K y H'∧yck H x=some (y,H'):=by
 cases x with
 | agg cs =>simp only [yS] at h;obtain ⟨ys,H',h,e⟩:=I3 cs H _ h;exact ⟨_,_,h,by simp only [yck,e,Option.map]⟩
 | _ =>simp only [yS] at h;obtain ⟨y,H',h,e⟩:=Qm h;exact ⟨_,_,h,by simp only [yck,e]⟩
theorem LN:∀ (l:List PV) (H:Hp) (K:List PV→Hp→Prop),EQ H l K→∃ ys H',K ys H'∧yaT H l=some (ys,H')
 | [],H,K,h=>⟨_,_,h,rfl⟩
 | x::r,H,K,h=>by simp only [EQ] at h;obtain ⟨y,H1,h,e1⟩:=Is h;obtain ⟨ys,H2,h,e2⟩:=LN r H1 _ h;exact ⟨_,_,h,by simp only [yaT,e1,e2]⟩
theorem yMp {H:Hp} {x:PV} {K:PV→Prop} (h:LI H x K):∃ y,K y∧purP H x=some y:=by
 have base:∀ {x:PV},yS H x (fun q _=>K q)→∃ y,K y∧(match yck H x with | some (q,_)=>some q | none=>none)=some y:=fun h=>by
  obtain ⟨y,H',h,e⟩:=Is h;exact ⟨y,h,by simp only [e]⟩
 cases x with
 | ptr id ext i off=>
  simp only [LI] at h;split at h
  ·rename_i b hb;obtain ⟨h1,h⟩:=bP.1 h;split at h
   ·rename_i row hrow;obtain ⟨y,H',h,e⟩:=Is h;exact ⟨_,h,by simp only [purP,hb,hrow,e];rw [YQ (by simpa using h1)]⟩
   ·exact h.elim
  ·exact h.elim
 | eptr rows i off=>exact ⟨_,h,rfl⟩
 | _=>simp only [LI] at h;exact base h
theorem I4 {H:Hp}:∀ (l:List PV) (K:List PV→Prop),LJ H l K→∃ ys,K ys∧yuK H l=some ys
 | [],K,h=>⟨_,h,rfl⟩
 | x::r,K,h=>by simp only [LJ] at h;obtain ⟨y,h,e1⟩:=yMp h;obtain ⟨ys,h,e2⟩:=I4 r _ h;exact ⟨_,h,by simp only [yuK,e1,e2]⟩
theorem yMq {H:Hp} {x:PV} {K:PV→Prop} (h:LH H x K):∃ q,K q∧purR H x=some q:=by
 cases x with
 | tup ps =>simp only [LH] at h;obtain ⟨ys,H',h,e⟩:=LN ps H _ h;exact ⟨_,h,by simp only [purR,e]⟩
 | _ =>simp only [LH] at h;obtain ⟨y,H',h,e⟩:=Is h;exact ⟨_,h,by simp only [purR,e]⟩
theorem Qn {pu:Bool} {H:Hp} {x:PV} {K:PV→Hp→Prop} (h:Ik pu H x K):∃ y H',K y H'∧(if pu then yck H x else some (x,H))=some (y,H'):=by
 cases pu with
 | true=>simp only [Ik] at h;obtain ⟨y,H',h,e⟩:=Is h;exact ⟨y,H',h,by simpa using e⟩
 | false=>exact ⟨_,_,h,by simp⟩
theorem LO {pu:Bool} {esz:Nat}:∀ (l:List (Nat×Opd)) (rows:List PV) (H:Hp) (K:List PV→Hp→Prop),ER E F pu esz rows H l K →
  ∃ rows' H',K rows' H'∧yhu E F pu esz rows H l=some (rows',H')
 | [],rows,H,K,h=>⟨_,_,h,rfl⟩
 | (i,x)::r,rows,H,K,h=>by
  simp only [ER] at h;split at h
  ·rename_i p hp;obtain ⟨q,H',h,e⟩:=Qn h;obtain ⟨h1,h⟩:=bP.1 h;simp only [bO] at h1;obtain ⟨rows',H2,h,e2⟩:=LO r _ H' K h;refine ⟨rows',H2,h,?_⟩;simp only [yhu,hp,e];rw [YQ ⟨gA h1.1.1,(show i+1≤rows.length from AN h1.1.2),h1.2⟩];exact e2
  ·exact h.elim
theorem yOH {op:BinOp} {k k':IntKind} {a b:Int} {K:PV→Prop} (h:CD op k k' a b K):∃ r,K r∧binV op (.int k a) (.int k' b)=some r:=by
 cases op<;>simp only [CD] at h
 case quo=>
  obtain ⟨h1,h2⟩:=bP.1 h;obtain ⟨h3,h4⟩:=bP.1 h2;have e1:k=k':=by simpa using h1
  have e2:¬b=0:=by simpa using h3
  exact ⟨_,h4,by simp [binV,e1,binI,e2]⟩
 case rem=>
  obtain ⟨h1,h2⟩:=bP.1 h;obtain ⟨h3,h4⟩:=bP.1 h2;have e1:k=k':=by simpa using h1
  have e2:¬b=0:=by simpa using h3
  exact ⟨_,h4,by simp [binV,e1,binI,e2]⟩
 case shl=>
  obtain ⟨h1,h2⟩:=bP.1 h;have e1:¬b<0:=by simpa using h1
  exact ⟨_,h2,by simp only [binV,Eo,e1,if_false]⟩
 case shr=>
  obtain ⟨h1,h2⟩:=bP.1 h;have e1:¬b<0:=by simpa using h1
  exact ⟨_,h2,by simp only [binV,Eo,e1,if_false]⟩
 all_goals
  obtain ⟨h1,h2⟩:=bP.1 h;have e1:k=k':=by simpa using h1
  split at h2
  ·rename_i r hr;exact ⟨r,h2,by simp only [binV,e1,if_true];rw [← e1];exact hr⟩
  ·exact h2.elim
theorem EV {n:Nat} {j:Int} {K:Nat→Prop}:∀ m,m≤n→Bl n j K m→∃ k:Nat,K k∧j=(k:Int)∧k<n
 | 0,_,h=>h.elim
 | m+1,hm,h=>by
  simp only [Bl] at h;obtain ⟨h1,h2⟩:=rJ.1 h
  by_cases hj:j=((n-(m+1):Nat):Int)
  ·exact ⟨_,h1 (by simpa using hj),hj,by omega⟩
  ·exact EV m (by omega) (h2 (by simpa using hj))
theorem I5:∀ (cs:List PV) (i:Nat),Il cs=true→i<cs.length→cs[i]?=some (.int .u8 (aK (cs.getD i .nils)))
 | [],i,_,h=>by simp at h
 | x::r,i,hu,hi=>by
  cases x with
  | int k n=>
   cases k<;>simp only [Il,gL] at hu
   cases i with
   | zero=>simp [aK]
   | succ i=>have:=I5 r i hu (by simpa using hi);simpa using this
  | _=>simp [Il] at hu
theorem yMr {x:PV} {K:List PV→Prop} (h:Qj H x K):∃ ys,K ys∧yiu H x=some ys:=by
 unfold Qj at h;split at h
 ·exact ⟨_,h,rfl⟩
 ·exact ⟨_,h,rfl⟩
 ·exact ⟨_,h,rfl⟩
 ·split at h
  ·rename_i b hb;obtain ⟨h1,h2⟩:=bP.1 h;obtain ⟨h3,h4⟩:=bP.1 h2;exact ⟨_,h4,by simp only [yiu,hb];rw [YQ ⟨by simpa using h1,by simpa using h3⟩]⟩
  ·exact h.elim
 ·exact h.elim
theorem LQ {pu:Bool} {esz bytes:Nat} {rows:List PV} {K:PV→Hp→Prop} (h:ES H pu esz bytes rows K):∃ r H',K r H'∧ydF H pu esz bytes rows=some (r,H'):=by obtain ⟨h1,h2⟩:=bP.1 h;exact ⟨_,_,h2,by simp only [ydF];rw [YQ (by simpa using h1)]⟩
def pH (H:Hp) (pu:Bool) (esz bytes:Nat) (ys:List PV):PV→Option (PV×Hp)
 | .nils=>if ys.isEmpty then some (.nils,H) else ydF H pu esz bytes ys
 | .emp=>if ys.isEmpty then some (.emp,H) else ydF H pu esz bytes ys
 | .own id lo len ext cap=>
  (match H[id]? with
   | some b=>if b.rows.length=ext∧b.pu=pu∧b.esz=esz∧lo+len≤ext then
    (if ys.isEmpty then some (.own id lo len ext cap,H) else oK H pu esz bytes ys id lo len ext cap b) else none
   | none=>none)
 | _=>none
theorem yOI {md:Nat} {pu:Bool} {esz bytes:Nat} {s x:PV} {ys:List PV} {K:PV→Hp→Prop} (hy:yiu H x=some ys) (hh:nN esz ys=true) (hs:wQ H pu x=true) (h:CE md H pu esz bytes s ys K) :
  ∃ r H',K r H'∧appV H pu esz bytes s x=some (r,H'):=by
 have e0:appV H pu esz bytes s x=pH H pu esz bytes ys s:=by simp only [appV,hy];rw [YQ ⟨hh,hs⟩];cases s<;>rfl
 rw [e0];clear e0 hy hs;unfold CE at h;split at h
 ·obtain ⟨h1,h2⟩:=rJ.1 h
  cases hE:ys.isEmpty with
  | true=>exact ⟨_,_,h1 hE,by simp [pH,hE]⟩
  | false =>obtain ⟨r,H',hk,hf⟩:=LQ (h2 hE);exact ⟨r,H',hk,by simp [pH,hE,hf]⟩
 ·obtain ⟨h1,h2⟩:=rJ.1 h
  cases hE:ys.isEmpty with
  | true=>exact ⟨_,_,h1 hE,by simp [pH,hE]⟩
  | false =>obtain ⟨r,H',hk,hf⟩:=LQ (h2 hE);exact ⟨r,H',hk,by simp [pH,hE,hf]⟩
 ·rename_i id lo len ext cap;split at h
  ·rename_i b hb;obtain ⟨h1,h⟩:=bP.1 h;obtain ⟨h2,h⟩:=bP.1 h;obtain ⟨h3,h⟩:=bP.1 h;simp only [bO,decide_eq_true_eq] at h1 h2 h3;obtain ⟨k1,k2⟩:=rJ.1 h;have hc:b.rows.length=ext∧b.pu=pu∧b.esz=esz∧lo+len≤ext:=⟨h1,h2.1,h2.2,h3⟩
   cases hE:ys.isEmpty with
   | true=>exact ⟨_,_,k1 hE,by simp only [pH,hb];rw [YQ hc];simp [hE]⟩
   | false=>
    have h:=k2 hE
    suffices ∃ r H',K r H'∧oK H pu esz bytes ys id lo len ext cap b=some (r,H') by obtain ⟨r,H',hk,hf⟩:=this;exact ⟨r,H',hk,by simp only [pH,hb];rw [YQ hc];simp [hE,hf]⟩
    cases cap with
    | some c=>
     simp only at h;have key1:decide (len+ys.length≤c)=true→asr (!b.fz) (K (.own id lo (len+ys.length) ext (some c)) (H.set id { b with rows:=b.rows.take (lo+len)++(ys++b.rows.drop (lo+len+ys.length)) })) →
       ∃ r H',K r H'∧oK H pu esz bytes ys id lo len ext (some c) b=some (r,H'):=by
      intro e1 e2;obtain ⟨e3,e4⟩:=bP.1 e2;refine ⟨_,_,e4,?_⟩;simp only [oK];rw [YQ (by simpa using e1),YQ (by simpa using e3)]
     have key2:decide (len+ys.length≤c)=false→ES H pu esz bytes ((b.rows.drop lo).take len++ys) K →
       ∃ r H',K r H'∧oK H pu esz bytes ys id lo len ext (some c) b=some (r,H'):=by
      intro e1 e2;obtain ⟨r,H',hk,hf⟩:=LQ e2;refine ⟨r,H',hk,?_⟩;simp only [oK];rw [YR (by simpa using e1)];exact hf
     split at h
     ·obtain ⟨a1,a2⟩:=rJ.1 h
      cases hd:decide (len+ys.length≤c) with
      | true=>exact key1 hd (a1 hd)
      | false=>exact key2 hd (a2 hd)
     ·obtain ⟨a1,a2⟩:=rJ.1 h
      cases hd:decide (len+ys.length≤c) with
      | true=>exact key1 hd (a1 hd)
      | false=>exact key2 hd (a2 hd)
     ·obtain ⟨a1,a2⟩:=bP.1 h;exact key2 (by simpa using a1) a2
     ·obtain ⟨a1,a2⟩:=bP.1 h;exact key1 a1 a2
    | none=>
     simp only at h;obtain ⟨hfz,h⟩:=bP.1 h;have hfz':¬b.fz=true:=by simpa using hfz
     have key1:decide (lo+len+ys.length≤ext)=true→K (.own id lo (len+ys.length) ext none) (H.set id { b with rows:=b.rows.take (lo+len)++(ys++b.rows.drop (lo+len+ys.length)) }) →
       ∃ r H',K r H'∧oK H pu esz bytes ys id lo len ext none b=some (r,H'):=by
      intro e1 e2;refine ⟨_,_,e2,?_⟩;simp only [oK];rw [YR hfz',YQ (by simpa using e1)]
     have key3:decide (lo+len+ys.length≤ext)=false→asr (decide (lo=0)) (asr (decide (len=ext)) (asr (decide ((ext+ys.length+64)*(bytes+1)≤room))
        (K (.own id 0 (b.rows++ys).length (b.rows++ys).length none) (H.set id { b with rows:=b.rows++ys })))) →
       ∃ r H',K r H'∧oK H pu esz bytes ys id lo len ext none b=some (r,H'):=by
      intro e1 e2;obtain ⟨e3,e2⟩:=bP.1 e2;obtain ⟨e4,e2⟩:=bP.1 e2;obtain ⟨e5,e2⟩:=bP.1 e2;simp only [decide_eq_true_eq] at e3 e4 e5;refine ⟨_,_,e2,?_⟩;simp only [oK];rw [YR hfz',YR (by simpa using e1),YQ ⟨e3,by omega,by rw [e4];exact e5⟩];have e6:b.rows.take len=b.rows:=yC (by omega);have e7:(b.rows++ys).length=len+ys.length:=by rw [kP,h1,e4]
      rw [e6,e7]
     have key4:decide (lo+len+ys.length≤ext)=false→asr (decide (lo=0)) (asr (decide (len≤ext)) (asr (decide ((len+ys.length+64)*(bytes+1)≤room))
        (K (.own id 0 (len+ys.length) (len+ys.length) none) (H.set id { b with rows:=b.rows.take len++ys })))) →
       ∃ r H',K r H'∧oK H pu esz bytes ys id lo len ext none b=some (r,H'):=by
      intro e1 e2;obtain ⟨e3,e2⟩:=bP.1 e2;obtain ⟨e4,e2⟩:=bP.1 e2;obtain ⟨e5,e2⟩:=bP.1 e2;simp only [decide_eq_true_eq] at e3 e4 e5;refine ⟨_,_,e2,?_⟩;simp only [oK];rw [YR hfz',YR (by simpa using e1),YQ ⟨e3,e4,e5⟩]
     split at h
     ·obtain ⟨a1,a2⟩:=rJ.1 h
      cases hd:decide (lo+len+ys.length≤ext) with
      | true=>exact key1 hd (a1 hd)
      | false=>exact key3 hd (a2 hd)
     ·obtain ⟨a1,a2⟩:=rJ.1 h
      cases hd:decide (lo+len+ys.length≤ext) with
      | true=>exact key1 hd (a1 hd)
      | false=>exact key4 hd (a2 hd)
     ·obtain ⟨a1,a2⟩:=bP.1 h;exact key1 a1 a2
     ·obtain ⟨a1,a2⟩:=bP.1 h;exact key3 (by simpa using a1) a2
  ·exact h.elim
 ·exact h.elim
theorem yKX {esz:Nat} {lo hi mx:Option Int} {x:PV} {K:PV→Prop} (h:Qk H esz lo hi mx x K):∃ r,K r∧yiv H esz lo hi mx x=some r:=by
 unfold Qk at h;split at h
 ·obtain ⟨h1,h2⟩:=bP.1 h;simp only [bO,decide_eq_true_eq] at h1;exact ⟨_,h2,by simp only [yiv];rw [YQ h1]⟩
 ·obtain ⟨h1,h2⟩:=bP.1 h;simp only [bO,decide_eq_true_eq] at h1;exact ⟨_,h2,by simp only [yiv];rw [YQ h1]⟩
 ·rename_i rows;simp only at h;split at h
  ·obtain ⟨h1,h⟩:=bP.1 h;obtain ⟨h2,h⟩:=bP.1 h;obtain ⟨h3,h⟩:=bP.1 h;obtain ⟨h4,h⟩:=bP.1 h;simp only [tV,decide_eq_true_eq] at h1 h2 h3 h4;exact ⟨_,h,by simp only [yiv];rw [YQ ⟨h1,h2,h3,h4⟩]⟩
  ·rename_i m;obtain ⟨h1,h⟩:=bP.1 h;obtain ⟨h2,h⟩:=bP.1 h;obtain ⟨h3,h⟩:=bP.1 h;obtain ⟨h4,h⟩:=bP.1 h;obtain ⟨h5,h⟩:=bP.1 h;obtain ⟨k1,k2⟩:=rJ.1 h;simp only [tV,decide_eq_true_eq] at h1 h2 h3 h4 h5
   by_cases hl:lo.getD 0=m
   ·exact ⟨_,k1 (by simpa using hl),by simp only [yiv];rw [YQ ⟨h1,h2,h3,h4,h5⟩,YQ hl]⟩
   ·exact ⟨_,k2 (by simpa using hl),by simp only [yiv];rw [YQ ⟨h1,h2,h3,h4,h5⟩,YR hl]⟩
 ·rename_i id lo0 len ext cap;simp only at h;split at h
  ·rename_i b hb;obtain ⟨h0,h⟩:=bP.1 h;split at h
   ·obtain ⟨h1,h⟩:=bP.1 h;obtain ⟨h2,h⟩:=bP.1 h;obtain ⟨h3,h⟩:=bP.1 h;simp only [tV,decide_eq_true_eq] at h1 h2 h3;exact ⟨_,h,by simp only [yiv,hb,h0,Bool.true_eq_false,if_false];rw [YQ ⟨h1,h2,h3⟩]⟩
   ·obtain ⟨h1,h⟩:=bP.1 h;obtain ⟨h2,h⟩:=bP.1 h;obtain ⟨h3,h⟩:=bP.1 h;obtain ⟨h4,h⟩:=bP.1 h;simp only [tV,decide_eq_true_eq] at h1 h2 h3 h4;exact ⟨_,h,by simp only [yiv,hb,h0,Bool.true_eq_false,if_false];rw [YQ ⟨h1,h2,h3,h4⟩]⟩
  ·exact h.elim
 ·exact h.elim
theorem I6 {sh:Sh} {rows:List PV} {i:Nat} {K:PV→Prop} (h:yT sh rows i K):∃ r,K r∧rows[i]?=some r:=by
 have key:asr (decide (i<rows.length)) (asr (aG sh (rows.getD i .nils)) (K (rK sh (rows.getD i .nils))))→∃ r,K r∧rows[i]?=some r:=by
  intro h;obtain ⟨h1,h⟩:=bP.1 h;obtain ⟨h2,h⟩:=bP.1 h;have hi:i<rows.length:=by simpa using h1
  rw [F6 _ _ h2] at h;refine ⟨_,h,?_⟩;rw [bY hi,cN,bY hi];rfl
 unfold yT at h;split at h
 ·split at h
  ·rename_i r hr;exact ⟨r,h,hr⟩
  ·exact h.elim
 ·exact key h
theorem yOJ {a:An} {o:AOp} (hc:pG o=false) (h:lA E callK a F H o K):I1 E F H o K:=by
 cases o
 case pick c x y=>
  simp only [lA] at h;split at h
  ·rename_i t ht;obtain ⟨h1,h2⟩:=rJ.1 h
   cases t with
   | true=>
    have h:=h1 rfl;split at h
    ·rename_i p hp;exact ⟨⟨some (.v p),none,H⟩,h,0,fun m _=>by simp only [yap,ht,hp];rfl⟩
    ·exact h.elim
   | false=>
    have h:=h2 rfl;split at h
    ·rename_i p hp;exact ⟨⟨some (.v p),none,H⟩,h,0,fun m _=>by simp only [yap,ht,hp];rfl⟩
    ·exact h.elim
  ·exact h.elim
 case bin op x y=>
  simp only [lA] at h;split at h
  ·rename_i k p k' q hx hy;obtain ⟨r,hk,hr⟩:=yOH h;exact ⟨⟨some (.v r),none,H⟩,hk,0,fun m _=>by simp only [yap,hx,hy,hr];rfl⟩
  ·exact h.elim
 case eqN neg x=>
  simp only [lA] at h;split at h
  ·rename_i hx;exact ⟨⟨some (.v (.bool (bif neg then false else true))),none,H⟩,h,0,fun m _=>by simp only [yap,hx];cases neg<;>rfl⟩
  ·rename_i b hx;exact ⟨⟨some (.v (.bool (bif neg then !b else b))),none,H⟩,h,0,fun m _=>by simp only [yap,hx];cases neg<;>rfl⟩
  ·rename_i rows hx;obtain ⟨h1,h⟩:=bP.1 h
   cases rows with
   | nil=>simp at h1
   | cons q l=>exact ⟨⟨some (.v (.bool neg)),none,H⟩,h,0,fun m _=>by simp only [yap,hx];cases neg<;>rfl⟩
  ·rename_i hx;exact ⟨⟨some (.v (.bool neg)),none,H⟩,h,0,fun m _=>by simp only [yap,hx];cases neg<;>rfl⟩
  ·exact h.elim
 case load agg sz x=>
  simp only [lA] at h;split at h
  ·rename_i id ext i off hx;split at h
   ·rename_i b hb;obtain ⟨h1,h⟩:=bP.1 h;obtain ⟨row,h,hr⟩:=I6 h;split at h
    ·rename_i p hp;exact ⟨⟨some (.v p),none,H⟩,h,0,fun m _=>by simp only [yap,hx,hb];rw [YQ (by simpa using h1)];simp only [hr,hp];rfl⟩
    ·exact h.elim
   ·exact h.elim
  ·exact Ql rfl h
 case store sz x y=>
  simp only [lA] at h;split at h
  ·rename_i id ext i off hx;split at h
   ·rename_i p hp;split at h
    ·rename_i b0 hb0;obtain ⟨q,H',h,hq⟩:=Qn h;split at h
     ·rename_i b hb;obtain ⟨h1,h⟩:=bP.1 h;obtain ⟨h2,h⟩:=bP.1 h;obtain ⟨row,h,hr⟩:=I6 h;split at h
      ·rename_i row' hrow;refine ⟨⟨none,none,H'.set id { b with rows:=b.rows.set i row' }⟩,h,0,fun m _=>?_⟩;have e1:b.rows.length=ext:=by simpa using h1
       have e2:b.fz=false:=by simpa using h2
       simp only [yap,hp,hx,hb0,hq,hb,hr,hrow];rw [YQ ⟨e1,e2⟩]
      ·exact h.elim
     ·exact h.elim
    ·exact h.elim
   ·exact h.elim
  ·exact Ql rfl h
 case iad esz x i=>
  simp only [lA] at h;split at h
  ·rename_i rows n hx hi;obtain ⟨h1,h⟩:=bP.1 h;obtain ⟨h2,h⟩:=bP.1 h;obtain ⟨h3,h⟩:=bP.1 h;obtain ⟨h4,h⟩:=bP.1 h;simp only [decide_eq_true_eq] at h1 h2;rw [F6 _ _ h3] at h h4;have hlt:n.toNat<rows.length:=by omega
   have e:rows[n.toNat]?=some (rows.getD n.toNat .nils):=by rw [bY hlt,cN,bY hlt];rfl
   refine ⟨⟨_,_,_⟩,h,0,fun m _=>?_⟩;simp only [yap,hx,hi];rw [YQ ⟨h1,h2⟩];simp only [e];rw [YQ (by simpa using h4)];rfl
  ·rename_i id lo len ext cap n hx hi;split at h
   ·rename_i b hb;obtain ⟨h1,h⟩:=bP.1 h;obtain ⟨h2,h⟩:=bP.1 h;obtain ⟨h3,h⟩:=bP.1 h;simp only [decide_eq_true_eq] at h1 h2 h3;refine ⟨⟨_,_,_⟩,h,0,fun m _=>?_⟩;simp only [yap,hx,hi];rw [YQ ⟨h1,h2⟩];simp only [hb];rw [YQ h3];rfl
   ·exact h.elim
  ·rename_i id ext r off mm e j hx hi;obtain ⟨h1,h⟩:=bP.1 h;have h1:e=esz:=gA h1;subst h1;obtain ⟨k,h',rfl,hk⟩:=EV mm (bX _) h;clear h;refine ⟨⟨_,_,_⟩,h',0,fun m _=>?_⟩;simp only [yap,hx,hi];rw [YQ ⟨by omega,by omega,by trivial⟩];simp [outV]
  ·exact h.elim
 case iadA n esz x i=>
  simp only [lA] at h;split at h
  ·rename_i s o j hx hi;obtain ⟨k,h',rfl,hk⟩:=EV n (bX _) h;clear h;refine ⟨⟨_,_,_⟩,h',0,fun m _=>?_⟩;simp only [yap,hx,hi];rw [YQ ⟨by omega,by omega⟩];simp
  ·rename_i id e r o j hx hi;obtain ⟨k,h',rfl,hk⟩:=EV n (bX _) h;clear h;refine ⟨⟨_,_,_⟩,h',0,fun m _=>?_⟩;simp only [yap,hx,hi];rw [YQ ⟨by omega,by omega⟩];simp [outV]
  ·rename_i rows r o j hx hi;obtain ⟨k,h',rfl,hk⟩:=EV n (bX _) h;clear h;refine ⟨⟨_,_,_⟩,h',0,fun m _=>?_⟩;simp only [yap,hx,hi];rw [YQ ⟨by omega,by omega⟩];simp [outV]
  ·exact h.elim
 case idx agg n esz x i=>
  simp only [lA] at h;split at h
  ·rename_i cs j hx hi;split at h
   ·obtain ⟨h0,k0⟩:=bP.1 h;obtain ⟨h1,k1⟩:=bP.1 k0;obtain ⟨h2,k2⟩:=bP.1 k1;clear h k0 k1;simp only [bO,decide_eq_true_eq,nL] at h0 h1 h2;obtain ⟨ha,he,hn,hu⟩:=h0;have he:=gA he;have hn:=gA hn;subst ha;subst he;refine ⟨⟨_,_,_⟩,k2,0,fun m _=>?_⟩;simp only [yap,hx,hi];rw [YQ ⟨h1,h2⟩];have hlt:j.toNat<cs.length:=by omega
    have hcell:cs[j.toNat]?=some (.int .u8 (aK (cs.getD j.toNat .nils))):=I5 cs _ hu hlt;simp only [ygE,Nat.mul_one,PV.cells,gL,if_false,hcell];rfl
   obtain ⟨k,h',rfl,hk⟩:=EV n (bX _) h;clear h;split at h'
   ·rename_i p hp;refine ⟨⟨_,_,_⟩,h',0,fun m _=>?_⟩;simp only [yap,hx,hi];rw [YQ ⟨by omega,by omega⟩];simp only [cH,hp];rfl
   ·exact h'.elim
  ·exact h.elim
 case slc esz x lo hi mx=>
  simp only [lA] at h;split at h
  ·rename_i p l hh m hx hl hhi hm;split at h
   ·exact h.elim
   ·rename_i hb;obtain ⟨r,h,hr⟩:=yKX h;refine ⟨⟨_,_,_⟩,h,0,fun _ _=>?_⟩;simp only [yap,hx,hl,hhi,hm];rw [YR (by rw [hb];exact HE)];simp only [hr];rfl
  ·exact h.elim
 case mkSl pu esz bytes z l c=>
  simp only [lA] at h;split at h
  ·rename_i l c hl hc;obtain ⟨h1,h⟩:=bP.1 h;obtain ⟨h2,h⟩:=bP.1 h;obtain ⟨h3,h⟩:=bP.1 h;simp only [decide_eq_true_eq] at h1 h2 h3;refine ⟨⟨_,_,_⟩,h,0,fun _ _=>?_⟩;simp only [yap,hl,hc];rw [YQ ⟨h1,h2,h3⟩];rfl
  ·exact h.elim
 case app pu esz bytes s x=>
  simp only [lA] at h;split at h
  ·rename_i s x hs hx;obtain ⟨ys,h,hy⟩:=yMr h;obtain ⟨h1,h⟩:=bP.1 h;obtain ⟨h2,h⟩:=bP.1 h;obtain ⟨r,H',h,hr⟩:=yOI hy h1 h2 h;refine ⟨⟨_,_,_⟩,h,0,fun _ _=>?_⟩;simp only [yap,hs,hx,hr];rfl
  ·exact h.elim
 case appZ pu esz bytes z s n=>
  simp only [lA] at h;split at h
  ·rename_i k hs hk;obtain ⟨h1,h⟩:=bP.1 h;have h1:0≤k:=by simpa using h1
   obtain ⟨ha,hb⟩:=rJ.1 h
   cases h0:decide (k.toNat=0) with
   | true=>
    refine ⟨⟨_,_,_⟩,ha h0,0,fun _ _=>?_⟩;have h0:k.toNat=0:=by simpa using h0
    simp only [yap,hs,hk,appZ];rw [YQ h1,YQ h0];rfl
   | false=>
    obtain ⟨r,H',h2,hr⟩:=LQ (hb h0);refine ⟨⟨_,_,_⟩,h2,0,fun _ _=>?_⟩;have h0:¬k.toNat=0:=by simpa using h0
    simp only [yap,hs,hk,appZ];rw [YQ h1,YR h0,hr];rfl
  ·exact h.elim
 case clr pu esz z x=>
  simp only [lA] at h;split at h
  ·rename_i hx;exact ⟨⟨_,_,_⟩,h,0,fun _ _=>by simp only [yap,hx,clrV];rfl⟩
  ·rename_i hx;exact ⟨⟨_,_,_⟩,h,0,fun _ _=>by simp only [yap,hx,clrV];rfl⟩
  ·rename_i hx;exact ⟨⟨_,_,_⟩,h,0,fun _ _=>by simp only [yap,hx,clrV];rfl⟩
  ·rename_i id lo len ext cap hx;split at h
   ·rename_i b hb;obtain ⟨ha,hb2⟩:=rJ.1 h
    cases len with
    | zero=>exact ⟨⟨_,_,_⟩,ha rfl,0,fun _ _=>by simp only [yap,hx,clrV];rfl⟩
    | succ len =>have h:=hb2 (by simp);obtain ⟨h1,h⟩:=bP.1 h;obtain ⟨h2,h⟩:=bP.1 h;obtain ⟨h3,h⟩:=bP.1 h;obtain ⟨h4,h⟩:=bP.1 h;obtain ⟨h5,h⟩:=bP.1 h;simp only [decide_eq_true_eq,nL,beq_iff_eq] at h1 h2 h3 h4;have h5:=gA h5;refine ⟨⟨_,_,_⟩,h,0,fun _ _=>?_⟩;simp only [yap,hx,clrV,hb];rw [YQ ⟨h1,h2,h3,h4,h5⟩];rfl
   ·exact h.elim
  ·exact h.elim
 case boxH pu esz x=>
  simp only [lA] at h;split at h
  ·rename_i p hp;obtain ⟨q,H',h,hq⟩:=Qn h;obtain ⟨h1,h⟩:=bP.1 h;simp only [bO] at h1;refine ⟨⟨_,_,_⟩,h,0,fun _ _=>?_⟩;simp only [yap,hp,hq];rw [YQ ⟨gA h1.1,h1.2⟩]
  ·exact h.elim
 case bSl pu esz z len parts=>
  simp only [lA] at h;split at h
  ·exact ⟨⟨_,_,_⟩,h,0,fun _ _=>by simp only [yap,if_true];rfl⟩
  ·obtain ⟨rows,H',h,e⟩:=LO _ _ _ _ h;refine ⟨⟨_,_,_⟩,h,0,fun _ _=>?_⟩;simp only [yap,e];rfl
 case buildN pu esz z len parts=>
  simp only [lA] at h;split at h
  ·exact ⟨⟨_,_,_⟩,h,0,fun _ _=>by simp only [yap,if_true];rfl⟩
  ·obtain ⟨rows,H',h,e⟩:=LO _ _ _ _ h;refine ⟨⟨_,_,_⟩,h,0,fun _ _=>?_⟩;simp only [yap,e];rfl
 case bD esz z len parts=>
  simp only [lA] at h;split at h
  ·exact ⟨⟨_,_,_⟩,h,0,fun _ _=>by simp only [yap,if_true];rfl⟩
  ·obtain ⟨rows,H',h,e⟩:=LO _ _ _ _ h;refine ⟨⟨_,_,_⟩,h,0,fun _ _=>?_⟩;simp only [yap,e];rfl
 case mvD x=>
  simp only [lA] at h;split at h
  ·rename_i p hp;obtain ⟨y,H',h,e⟩:=Qm h;split at h
   ·exact ⟨⟨_,_,_⟩,h,0,fun _ _=>by simp only [yap,hp,e];rfl⟩
   ·exact h.elim
  ·exact h.elim
 case call f args=>simp [pG] at hc
 all_goals exact Ql rfl h
theorem I7 {P:EP} (hP:aM P E) (hG:Good P callK) {a:An} {o:AOp} (h:lA E callK a F H o K):yQr P F H o K:=by
 cases hc:pG o with
 | false =>obtain ⟨out,hk,m0,hm⟩:=yOJ hc h;refine ⟨out,hk,0,fun n e m _ hp _=>?_⟩;have hl:=hP n e hp;unfold gD at hl;rw [hl,yIe hc _ (yaD E m0)];exact hm m0 (bX _)
 | true=>
  cases o with
  | call f args=>
   simp only [lA] at h;split at h
   ·rename_i g vs hg hvs;obtain ⟨r,H',h,m0,hm⟩:=hG _ _ _ _ h;refine ⟨⟨_,_,_⟩,h,m0,fun n e m hn hp hle=>?_⟩;have hl:=hP n e hp;have e1:evV e F f=some g:=by unfold gD at hl;rw [hl,wZ];exact hg
    have e2:evs e F args=some vs:=by unfold gD at hl;rw [hl,EU];exact hvs
    simp only [yap,e1,e2,hm n e m hn hp hle];rfl
   ·exact h.elim
  | _=>simp [pG] at hc
theorem EW:∀ (F:aF) (s:Nat) (x:FV),fget F s=some x→kG F s x=F
 | [],_,_,h=>by simp [fget] at h
 | (k,y)::r,s,x,h=>by
  simp only [fget] at h;simp only [kG]
  by_cases hk:k=s
  ·subst hk;simp only [if_true,bZ] at h;subst h;simp
  ·rw [YR hk] at h;have:Nat.beq k s=false:=by
    cases e:Nat.beq k s with
    | true=>exact absurd (gA e) hk
    | false=>rfl
   rw [this,EW r s x h];rfl
theorem I8 {c:Opd} {b:Bool} (h:evV E F c=some (.bool b)):yU F c b=F:=by
 cases c with
 | t s=>
  simp only [evV,ev] at h;simp only [yU];apply EW
  cases e:fget F s with
  | none=>simp [e] at h
  | some fv=>cases fv<;>simp [e] at h;rw [h]
 | _=>rfl
theorem yDO {g:Option (Nat×Bool)} {yes no:aF→Prop} (h:LK F g yes no):(yef F g=some true∧yes F)∨(yef F g=some false∧no F):=by
 unfold LK at h;split at h
 ·exact .inl ⟨rfl,h⟩
 ·rename_i s want;split at h
  ·rename_i b hb;have e:yef F (some (s,want))=some (b==want):=by simp only [yef,hb]
   split at h
   ·cases b with
    | true=>have h:yes (kG F s (.v (.bool true))):=h;rw [EW _ _ _ hb] at h;exact .inl ⟨by rw [e];rfl,h⟩
    | false=>have h:no (kG F s (.v (.bool false))):=h;rw [EW _ _ _ hb] at h;exact .inr ⟨by rw [e];rfl,h⟩
   ·cases b with
    | true=>have h:no (kG F s (.v (.bool true))):=h;rw [EW _ _ _ hb] at h;exact .inr ⟨by rw [e];rfl,h⟩
    | false=>have h:yes (kG F s (.v (.bool false))):=h;rw [EW _ _ _ hb] at h;exact .inl ⟨by rw [e];rfl,h⟩
  ·rename_i hb;exact .inr ⟨by simp only [yef,hb],h⟩
  ·exact h.elim
theorem LR {P:EP} (hP:aM P E) (hG:Good P callK) {an:List An}:∀ (l:List AO) (i:Nat) (F:aF) (H:Hp) (K:aF→Hp→Prop),rL E callK an l i F H K →
  ∃ F' H',K F' H'∧∃ m0,∀ n e m,m0≤n→P n e→m0≤m→mS e (yaD e m) l F H=some (F',H')
 | [],i,F,H,K,h=>⟨F,H,h,0,fun _ _ _ _ _ _=>rfl⟩
 | o::r,i,F,H,K,h=>by
  simp only [rL] at h;rcases yDO h with ⟨hg,h⟩ | ⟨hg,h⟩
  ·obtain ⟨out,h,m0,hm⟩:=I7 hP hG h;split at h
   ·exact h.elim
   ·rename_i F' hF';rw [Im] at h;obtain ⟨F2,H2,hk,m1,hm1⟩:=LR hP hG r (i+1) F' out.h K h;refine ⟨F2,H2,hk,max m0 m1,fun n e m hn hp hle=>?_⟩;have e0:yhb e (yaD e m) F H o=some (F',out.h):=by
     simp only [yhb,hg,hm n e m (by omega) hp (by omega),hF',Option.map]
    simp only [mS,e0];exact hm1 n e m (by omega) hp (by omega)
  ·obtain ⟨F2,H2,hk,m1,hm1⟩:=LR hP hG r (i+1) (ET F o.dst) H K h;refine ⟨F2,H2,hk,m1,fun n e m hn hp hle=>?_⟩;have e0:yhb e (yaD e m) F H o=some (ET F o.dst,H):=by
    simp only [yhb,hg]
    cases o.dst<;>rfl
   simp only [mS,e0];exact hm1 n e m hn hp hle
structure Cov (p q:FP):Prop where
 rd:q.rd=p.rd
 wr:q.wr=p.wr
 h:p.all=true∨((∀ x,x∈q.hr→x∈p.hr)∧(∀ x,x∈q.hw→x∈p.hw)∧(q.push=true→p.push=true)∧q.all=false)
theorem Cov.tight (p:FP) (H H1:Hp):Cov p (p.tight H H1):=by
 unfold FP.tight
 cases h:p.all with
 | true=>exact ⟨rfl,rfl,.inl h⟩
 | false=>exact ⟨rfl,rfl,.inr ⟨fun _ h=>h,fun _ h=>h,fun h=>h,h⟩⟩
def yES:List FP→List FP→Prop
 | [],[]=>True
 | p::r,q::s=>Cov p q∧yES r s
 | _,_=>False
theorem yES.get:∀ (l l':List FP),yES l l'→∀ (i:Nat) (p:FP),l[i]?=some p→∃ q:FP,l'[i]?=some q∧Cov p q
 | [],_,_,i,p,e=>by simp at e
 | p::r,[],h,_,_,_=>h.elim
 | p::r,q::s,h,i,x,e=>by
  obtain ⟨h1,h2⟩:=h
  cases i with
  | zero=>simp at e;subst e;exact ⟨q,rfl,h1⟩
  | succ i=>simp at e;simpa using yES.get r s h2 i x e
theorem Qo:∀ l:List Nat,meets l []=false
 | []=>rfl
 | x::r=>by simp only [meets,Qo r];rfl
theorem Qp:∀ (l m:List Nat),meets l m=true↔∃ x,x∈l∧x∈m
 | [],m=>by simp [meets]
 | y::r,m=>by
  simp only [meets,tV,Qp r m,List.elem_eq_mem,decide_eq_true_eq,qAn];constructor
  ·rintro (h | ⟨x,h1,h2⟩)
   ·exact ⟨y,.inl rfl,h⟩
   ·exact ⟨x,.inr h1,h2⟩
  ·rintro ⟨x,rfl | h1,h2⟩
   ·exact .inl h2
   ·exact .inr ⟨x,h1,h2⟩
theorem Qq {a b a' b':List Nat} (h:meets a b=false) (ha:∀ x,x∈a'→x∈a) (hb:∀ x,x∈b'→x∈b):meets a' b'=false:=by
 cases e:meets a' b' with
 | false=>rfl
 | true=>
  obtain ⟨x,h1,h2⟩:=(Qp _ _).1 e;have:meets a b=true:=(Qp _ _).2 ⟨x,ha x h1,hb x h2⟩;rw [h] at this
  cases this
theorem I9 {a:List Nat} (h:∀ x,x∈a→x∈([]:List Nat)):a=[]:=by
 cases a with
 | nil=>rfl
 | cons x r=>exact absurd (h x eU) (by simp)
theorem yKY {p q p' q':FP} (h:wS p q=false) (hp:Cov p p') (hq:Cov q q'):wS p' q'=false:=by
 have hpx:∀ {x x':FP},x.heapy=false→Cov x x'→x'.push=false∧x'.all=false∧x'.hr=[]∧x'.hw=[]:=by
  intro x x' hx hc;simp only [FP.heapy,AP,Bool.not_eq_false',List.isEmpty_iff] at hx;obtain ⟨⟨⟨h1,h2⟩,h3⟩,h4⟩:=hx;rcases hc.h with h | ⟨k1,k2,k3,k4⟩
  ·rw [h2] at h;cases h
  ·rw [h3] at k1;rw [h4] at k2;refine ⟨?_,k4,I9 k1,I9 k2⟩
   cases e:x'.push with
   | false=>rfl
   | true=>rw [k3 e] at h1;cases h1
 simp only [wS,AP] at h;obtain ⟨⟨⟨⟨⟨⟨⟨⟨A,B⟩,C⟩,D⟩,E⟩,G⟩,I⟩,J⟩,K⟩:=h;have A':meets p'.wr q'.rd=false:=by rw [hp.wr,hq.rd];exact A
 have B':meets p'.wr q'.wr=false:=by rw [hp.wr,hq.wr];exact B
 have C':meets q'.wr p'.rd=false:=by rw [hp.rd,hq.wr];exact C
 cases ea:p.all with
 | true =>rw [ea,jK] at D;obtain ⟨h1,h2,h3,h4⟩:=hpx D hq;simp [wS,A',B',C',h1,h2,h3,h4,Qo,meets,FP.heapy]
 | false=>
  cases eb:q.all with
  | true =>rw [eb,jK] at E;obtain ⟨h1,h2,h3,h4⟩:=hpx E hp;simp [wS,A',B',C',h1,h2,h3,h4,Qo,meets,FP.heapy]
  | false=>
   rcases hp.h with h|⟨k1,k2,k3,k4⟩
   ·rw [ea] at h;cases h
   rcases hq.h with h|⟨l1,l2,l3,l4⟩
   ·rw [eb] at h;cases h
   have G':(p'.push&&q'.push)=false:=by
    cases e1:p'.push with
    | false=>rfl
    | true=>
     cases e2:q'.push with
     | false=>rfl
     | true=>rw [k3 e1,l3 e2] at G;cases G
   simp only [wS,A',B',C',k4,l4,kU,G',Qq I k2 l1,Qq J k2 l2,Qq K l2 k1,Bool.or_self]
theorem J0 {l l':List FP} (ht:yES l l'):∀ (pairs:List (Nat×Nat)),ykk l pairs=true→ykk l' pairs=true
 | [],_=>rfl
 | (i,j)::r,h=>by
  simp only [ykk,bO] at h ⊢;refine ⟨?_,J0 ht r h.2⟩;have h1:=h.1;split at h1
  ·rename_i p q e1 e2;obtain ⟨p',k1,c1⟩:=yES.get l l' ht i p e1;obtain ⟨q',k2,c2⟩:=yES.get l l' ht j q e2;rw [k1,k2];simp only [nL] at h1 ⊢;exact yKY h1 c1 c2
  ·cases h1
theorem LS {E e:Env} (h:gD E e) (f:PV) (args:List PV):yld e f args=yld E f args:=by unfold gD at h;rw [h];rfl
theorem yIf {p q:PV} {H H1:Hp} (h:yck H p=some (q,H1)):EffI (dA p) H H1 H H1:=by
 obtain ⟨H1',e,k⟩:=EK (H':=H) (fun _ _=>rfl) h;rw [h] at e
 cases e
 exact k
theorem Qr:∀ (l ps:List PV) (H H1:Hp),yaT H l=some (ps,H1)→H1.length=H.length∧∀ id,id∉fM l→H1[id]?=H[id]?
 | [],ps,H,H1,h=>by simp only [yaT,bZ,Prod.mk.injEq] at h;rw [← h.2];exact ⟨rfl,fun _ _=>rfl⟩
 | x::r,ps,H,H1,h=>by
  simp only [yaT] at h;split at h
  ·rename_i y H2 hy;split at h
   ·rename_i ys H3 hys;simp only [bZ,Prod.mk.injEq] at h;obtain ⟨_,rfl⟩:=h;obtain ⟨l1,o1⟩:=Qr r ys H2 _ hys;have k:=yIf hy;refine ⟨l1.trans k.len.1,fun id hid=>?_⟩;simp only [fM,qA3,not_or] at hid;rw [o1 id hid.2,(k.out id hid.1).1]
   ·cases h
  ·cases h
theorem yIg {call:Nat→List PV→Hp→Option (PV×Hp)} {x:LocC} {H H1:Hp} {r:PV} (h:uD call x H=some (r,H1)):∀ id,id∈dK 0 H H1→id∈x.id::fM (x.all.set x.j (.int .i64 0)):=by
 intro id hm;unfold uD at h;split at h
 ·rename_i az H' hp;split at h
  ·rename_i b hb;split at h
   ·split at h
    ·rename_i q rows hq;simp only [bZ,Prod.mk.injEq] at h;obtain ⟨_,rfl⟩:=h;obtain ⟨l1,o1⟩:=Qr _ _ _ _ hp
     by_cases hi:id=x.id
     ·rw [hi];exact eU
     ·by_cases hj:id∈fM (x.all.set x.j (.int .i64 0))
      ·exact eF _ hj
      ·refine absurd hm ?_;have:=Qb 0 H (H'.set x.id { b with rows:=rows }) (by simp [l1]) id (by
        rw [yE (fun e=>hi e.symm),o1 id hj])
       simpa using this
    ·cases h
   ·cases h
  ·cases h
 ·cases h
theorem Qs {H H1:Hp} {l:List Nat} (h1:H1.length=H.length) (h2:∀ id,id∉l→H1[id]?=H[id]?):∀ id,id∈dK 0 H H1→id∈l:=by
 intro id hm
 by_cases hj:id∈l
 ·exact hj
 ·refine absurd hm ?_;have:=Qb 0 H H1 h1 id (h2 id hj);simpa using this
theorem yKZ {e:Env} {call:Nat→List PV→Hp→Option (PV×Hp)} {n:Nat} {first captured vs:List PV} {H H1:Hp} {r:PV} (hq:e.qui n=true) (h:pB e call (.fn (.func n) first captured) vs H=some (r,H1)):∀ id,id∈dK 0 H H1→id∈fM (first++vs++captured):=by
 simp only [pB,hq,if_true] at h;split at h
 ·split at h
  ·split at h
   ·split at h
    ·cases h
     exact Qs rfl fun _ _=>rfl
    ·cases h
   ·cases h
  ·cases h
 ·split at h
  ·rename_i x hx
   cases h
   split at hx
   ·rename_i az H' hp;obtain ⟨l1,o1⟩:=Qr _ _ _ _ hp;split at hx
    ·split at hx
     ·cases hx
      exact Qs rfl fun _ _=>rfl
     ·cases hx
      exact Qs l1 o1
    ·cases hx
   ·cases hx
  ·cases h
theorem yOK {e:Env} (hl:gD E e) {call:Nat→List PV→Hp→Option (PV×Hp)} {F:aF} {H:Hp} {o:AOp} {out:Out} (h:yap e call F H o=some out) (a b _ _:List Nat) :
  Cov ⟨a++(Bm E F H o).rd,b++(Bm E F H o).wr,(Bm E F H o).hr,(Bm E F H o).hw,(Bm E F H o).push,(Bm E F H o).all⟩
   ((⟨a++(aQ E F H o).rd,b++(aQ E F H o).wr,(aQ E F H o).hr,(aQ E F H o).hw,(aQ E F H o).push,(aQ E F H o).all⟩:FP).tight H out.h):=by
 unfold Bm;split
 ·rename_i f az
  cases hq:rE E F f az with
  | true=>exact Cov.tight _ _ _
  | false=>
  rw [cond_false];split
  ·rename_i l hli;unfold yMn at hli;split at hli
   ·rename_i g vs hg hvs;have hg':evV e F f=some g:=by unfold gD at hl;rw [hl,wZ];exact hg
    have hv':evs e F az=some vs:=by unfold gD at hl;rw [hl,EU];exact hvs
    simp only [yap,hg',hv'] at h;split at h
    ·rename_i r H1 hr
     cases h
     have key:∀ id,id∈dK 0 H H1→id∈l:=by
      split at hli
      ·rename_i x hx
       cases hli
       simp only [yjl,(LS hl g vs).trans hx] at hr;exact yIg hr
      ·rename_i hx;simp only [yjl,(LS hl g vs).trans hx] at hr;split at hli
       ·rename_i n first captured
        cases hqu:E.qui n with
        | false=>rw [hqu] at hli;cases hli
        | true=>
         rw [hqu] at hli
         cases hli
         have:e.qui n=true:=by unfold gD at hl;rw [hl];exact hqu
         exact yKZ this hr
       ·cases hli
     simp only [aQ,hq,qI,FP.tight,if_true];exact ⟨rfl,rfl,.inr ⟨fun _ h=>h,key,fun h=>h,rfl⟩⟩
    ·cases h
   ·cases hli
  ·exact Cov.tight _ _ _
 ·exact Cov.tight _ _ _
theorem Qt {P:EP} (hP:aM P E) (hG:Good P callK) {an:List An} {F0:aF} {l0:List AO} {pairs:List (Nat×Nat)}:∀ (l:List AO) (i:Nat) (F:aF) (H:Hp) (ps:List FP) (K:aF→Hp→Prop),rM E callK an F0 l0 pairs l i F H ps K →
  ∃ F' H' qs,K F' H'∧ykk (ps.reverse++qs) pairs=true∧Et F0 l0 l0=true∧∃ m0,∀ n e m,m0≤n→P n e→m0≤m→∃ qt,yES qs qt∧yiw e (yaD e m) l F H=some (F',H',qt)
 | [],i,F,H,ps,K,h=>by simp only [rM] at h;obtain ⟨h1,h⟩:=bP.1 h;simp only [bO] at h1;exact ⟨F,H,[],h,by simpa using h1.1,h1.2,0,fun _ _ _ _ _ _=>⟨[],trivial,rfl⟩⟩
 | o::r,i,F,H,ps,K,h=>by
  simp only [rM] at h;have hfp:∀ n e,P n e→∀ F H,yeQ e F H o=yeQ E F H o:=by
   intro n e hp F H;have hl:=hP n e hp;unfold gD at hl;rw [hl];simp only [yeQ,yKW]
  rcases yDO h with ⟨hg,h⟩|⟨hg,h⟩
  ·obtain ⟨out,h,m0,hm⟩:=I7 hP hG h;split at h
   ·exact h.elim
   ·rename_i F' hF';rw [Im] at h;obtain ⟨F2,H2,qs,hk,ha,hb,m1,hm1⟩:=Qt hP hG r (i+1) F' out.h (yJG E F H o::ps) K h;refine ⟨F2,H2,yJG E F H o::qs,hk,by simpa using ha,hb,max m0 m1,fun n e m hn hp hle=>?_⟩;obtain ⟨qt,ht,hq⟩:=hm1 n e m (by omega) hp (by omega);have ho:=hm n e m (by omega) hp (by omega);have e0:yhv e (yaD e m) o (F,H)=some (F',out.h):=by
     simp only [yhv,hg,ho,hF',Option.map]
    refine ⟨(yeQ E F H o).tight H out.h::qt,⟨?_,ht⟩,?_⟩
    ·simp only [yeQ,hg,yJG];exact yOK (hP n e hp) ho _ _ [] []
    ·simp only [yiw,e0,hq,hfp n e hp]
  ·obtain ⟨F2,H2,qs,hk,ha,hb,m1,hm1⟩:=Qt hP hG r (i+1) (ET F o.dst) H (fpNo o::ps) K h;refine ⟨F2,H2,fpNo o::qs,hk,by simpa using ha,hb,m1,fun n e m hn hp hle=>?_⟩;obtain ⟨qt,ht,hq⟩:=hm1 n e m hn hp hle;have e0:yhv e (yaD e m) o (F,H)=some (ET F o.dst,H):=by
    simp only [yhv,hg]
    cases o.dst<;>rfl
   have e2:yeQ E F H o=fpNo o:=by simp only [yeQ,hg,fpNo]
   refine ⟨(fpNo o).tight H H::qt,⟨Cov.tight _ _ _,ht⟩,?_⟩;simp only [yiw,e0,hq,hfp n e hp,e2]
def eP (P:EP) (c:AC) (F:aF) (H:Hp) (Q:Ex→aF→Hp→Prop):Prop:=
 ∃ x F' H',Q x F' H'∧∃ m0,∀ n e m,m0≤n→P n e→m0≤m→exec e m c F H=some (x,F',H')
theorem eP.sub {P P':EP} {c:AC} {F:aF} {H:Hp} {Q:Ex→aF→Hp→Prop} (h:eP P c F H Q) (hs:∀ n e,P' n e→P n e):eP P' c F H Q:=by obtain ⟨x,F',H',h1,m0,h2⟩:=h;exact ⟨x,F',H',h1,m0,fun n e m k1 k2 k3=>h2 n e m k1 (hs n e k2) k3⟩
def bV (P:EP) (c:TC) (F:aF) (H:Hp) (Q:Ex→aF→Hp→Prop):Prop:=eP P (bI c) F H Q
def gE:TC→Bool
 | .seq a b | .cond _ a b=>gE a&&gE b
 | .block _ b=>gE b
 | .loop _ b=>gE b
 | .lG _ b=>gE b
 | .join _ b=>gE b
 | .rangeF _ _ _ _ _ _ _=>false
 | _=>true
def LpOk (P:EP) (E:Env) (lp:LP) (G:aF):TC→Prop
 | .seq a b=>LpOk P E lp G a∧LpOk P E lp G b
 | .cond _ a b=>LpOk P E lp G a∧LpOk P E lp G b
 | .block _ b=>LpOk P E lp G b
 | .loop id b=>LpOk P E lp G b∧∀ F H Q,lp id G F H Q→bV P (.loop id b) F H Q
 | .lG id b=>LpOk P E lp G b∧∀ F H Q,lp id G F H Q→bV P (.lG id b) F H Q
 | .join id b=>LpOk P E lp G b∧∀ F H Q,lp id G F H Q→bV P (.join id b) F H Q
 | .rangeF _ f np ib ps az bd=>(∃ rs,E.fns f=some ⟨np,rs,bI ib⟩∧rs.length=0)∧(gE ib=true∧gE az=true∧gE bd=true)∧(∀ G,LpOk (Ir E G ps (bI az) (bI bd)) E lp G ib)∧LpOk (Iq E) E lp [] az∧LpOk (Iq E) E lp [] bd
 | _=>True
def mN:TC→List (Nat×TC)
 | .seq a b | .cond _ a b=>mN a++mN b
 | .block _ b=>mN b
 | .loop id b=>mN b++[(id,.loop id b)]
 | .lG id b=>mN b++[(id,.lG id b)]
 | .join id b=>mN b++[(id,.join id b)]
 | _=>[]
theorem yY {P:EP} {E:Env} {lp:LP} {G:aF}:∀ (c:TC),gE c=true→(∀ p∈mN c,∀ F H Q,lp p.1 G F H Q→bV P p.2 F H Q)→LpOk P E lp G c
 | .skip,_,_ | .ops _ _ _ _,_,_ | .exit _,_,_ | .ret,_,_ | .bad,_,_ | .yret _ _ _ _ _ _ _,_,_ | .cut _,_,_=>trivial
 | .rangeF _ _ _ _ _ _ _,hf,_=>by simp [gE] at hf
 | .seq a b,hf,h=>by simp only [gE,bO] at hf;exact ⟨yY a hf.1 fun p hp=>h p (by simp only [mN,qA3];exact .inl hp),yY b hf.2 fun p hp=>h p (by simp only [mN,qA3];exact .inr hp)⟩
 | .cond _ a b,hf,h=>by simp only [gE,bO] at hf;exact ⟨yY a hf.1 fun p hp=>h p (by simp only [mN,qA3];exact .inl hp),yY b hf.2 fun p hp=>h p (by simp only [mN,qA3];exact .inr hp)⟩
 | .block _ b,hf,h=>yY b hf h
 | .loop id b,hf,h=>⟨yY b hf fun p hp=>h p (by simp only [mN,qA3];exact .inl hp),h (id,.loop id b) (by simp [mN])⟩
 | .lG id b,hf,h=>⟨yY b hf fun p hp=>h p (by simp only [mN,qA3];exact .inl hp),h (id,.lG id b) (by simp [mN])⟩
 | .join id b,hf,h=>⟨yY b hf fun p hp=>h p (by simp only [mN,qA3];exact .inl hp),h (id,.join id b) (by simp [mN])⟩
def cS (P:EP) (E:Env) (yk:YK):Prop:=∀ vs H K,yk vs H K→∃ r H',K r H'∧∃ m0,∀ n e,m0≤n→P n e→e.yl e.yn E.yn vs H=some (r,H')
theorem cS.no (P:EP) (E:Env):cS P E dB:=fun _ _ _ h=>h.elim
def bE (P:EP) (E:Env) (callK:CK) (c:TC):Prop:=gE c=false→Good (aZ E) callK∧∀ n e,P n e→e=E
theorem eP.up {P:EP} {c:AC} {F:aF} {H:Hp} {Q:Ex→aF→Hp→Prop} {x:Ex} {F':aF} {H':Hp} {m0:Nat} (hk:Q x F' H') (h:∀ n e k,m0≤n→P n e→m0≤k→exec e (k+1) c F H=some (x,F',H')):eP P c F H Q:=
 ⟨x,F',H',hk,m0+1,fun n e m hn hp hm=>by
  obtain ⟨k,rfl⟩:∃ k,m=k+1:=⟨m-1,by omega⟩;exact h n e k (by omega) hp (by omega)⟩
def EX (E:Env) (F:aF) (H:Hp):Option (Ex×aF×Hp)→Option (Ex×aF×Hp)
 | some (.norm,_,H') | some (.ret,_,H')=>(match clrY E.yn H.length H' with | some H2=>some (.norm,F,H2) | none=>none)
 | some (.brk k i,_,H')=>if k=E.yn then (match clrY E.yn H.length H' with | some H2=>some (.exit i,F,H2) | none=>none) else none
 | _=>none
theorem Qu {E:Env} {n:Nat} {g:Opd} {ps:List Nat} {az bd:AC} {F:aF} {H:Hp} {f:Nat} {first cap:List PV} {fn:AFn} (hg:evV E F g=some (.fn (.func f) first cap)) (hf:E.fns f=some fn) (hc:(first++[PV.fn (.yield E.yn) [] []]++cap).length=fn.nparams∧fn.results.length=0) :
  exec E (n+1) (.rangeF g ps az bd) F H=EX E F H (exec (E.push ⟨gR F,ps,az,bd⟩ (hnd E (gR F) ps az bd n)) n fn.body (kX 0 (first++[PV.fn (.yield E.yn) [] []]++cap)) H):=by
 simp only [exec,hg];simp only [hf];rw [YQ hc];rfl
theorem J1 {K n0:Nat}:∀ (H:Hp) (i:Nat),kC (noY K) (fun _=>true) H=true→badY K n0 [] i H=[]
 | [],_,_=>rfl
 | b::r,i,h=>by simp only [kC,bO] at h;have h1:ycv (noY K) (fun id=>!memB [] id) b.rows=true:=h.1;simp only [badY,h1,tW,Bool.and_false,cond_false];exact J1 r (i+1) h.2
theorem yOL {K n0:Nat} {H:Hp} (h:kC (noY K) (fun _=>true) H=true):clrY K n0 H=some H:=by simp only [clrY,J1 H 0 h,h,cond_true]
theorem sZ {lp:LP}:∀ (c:TC) (P:EP) (_:aM P E) (_:Good P callK) (_:bE P E callK c) (G:aF) (yk:YK) (_:cS P E yk) (_:LpOk P E lp G c) (F:aF) (H:Hp) (Q:Ex→aF→Hp→Prop),WC E callK lp G yk c F H Q→eP P (bI c) F H Q
 | .skip,P,hP,hG,hR,G,yk,hY,_,F,H,Q,h=>by simp only [WC] at h;exact eP.up (m0:=0) h fun n e k _ _ _=>by simp only [bI,exec]
 | .exit id,P,hP,hG,hR,G,yk,hY,_,F,H,Q,h=>by simp only [WC] at h;exact eP.up (m0:=0) h fun n e k _ _ _=>by simp only [bI,exec]
 | .ret,P,hP,hG,hR,G,yk,hY,_,F,H,Q,h=>by simp only [WC] at h;exact eP.up (m0:=0) h fun n e k _ _ _=>by simp only [bI,exec]
 | .bad,P,hP,hG,hR,G,yk,hY,_,F,H,Q,h=>by simp only [WC] at h
 | .cut _,P,hP,hG,hR,G,yk,hY,_,F,H,Q,h=>by simp only [WC] at h
 | .ops l an ps fg,P,hP,hG,hR,G,yk,hY,_,F,H,Q,h=>by
  cases ps with
  | nil =>simp only [WC] at h;obtain ⟨F',H',hk,m0,hm⟩:=LR hP hG l 0 F H _ h;rw [Im] at hk;exact eP.up (m0:=m0) hk fun n e k hn hp hle=>by simp only [bI,exec,ygG,hm n e k hn hp hle]
  | cons p ps=>
   simp only [WC] at h;obtain ⟨F',H',qs,hk,ha,hb,m0,hm⟩:=Qt hP hG l 0 _ H [] _ h;rw [Im] at hk;refine eP.up (m0:=m0) hk fun n e k hn hp hle=>?_
   obtain ⟨qt,ht,hq⟩:=hm n e k hn hp hle;simp only [bI,exec,ygG,hq];rw [YQ ⟨J0 ht _ (by simpa using ha),hb⟩]
 | .seq a b,P,hP,hG,hR,G,yk,hY,hl,F,H,Q,h=>by
  simp only [WC] at h;simp only [LpOk] at hl;have hRa:bE P E callK a:=fun hf=>hR (by simp only [gE,hf,kU])
  have hRb:bE P E callK b:=fun hf=>hR (by simp only [gE,hf,Bool.and_false])
  obtain ⟨x,F',H',hk,m0,hm⟩:=sZ a P hP hG hRa G yk hY hl.1 F H _ h
  cases x with
  | norm =>obtain ⟨x2,F2,H2,hk2,m1,hm1⟩:=sZ b P hP hG hRb G yk hY hl.2 F' H' Q hk;exact eP.up (m0:=max m0 m1) hk2 fun n e k hn hp hle=>by simp only [bI,exec,hm n e k (by omega) hp (by omega),hm1 n e k (by omega) hp (by omega)]
  | exit i=>exact eP.up (m0:=m0) hk fun n e k hn hp hle=>by simp only [bI,exec,hm n e k hn hp hle]
  | ret=>exact eP.up (m0:=m0) hk fun n e k hn hp hle=>by simp only [bI,exec,hm n e k hn hp hle]
  | brk _ _=>exact eP.up (m0:=m0) hk fun n e k hn hp hle=>by simp only [bI,exec,hm n e k hn hp hle]
 | .cond c a b,P,hP,hG,hR,G,yk,hY,hl,F,H,Q,h=>by
  simp only [WC] at h;simp only [LpOk] at hl;have hRa:bE P E callK a:=fun hf=>hR (by simp only [gE,hf,kU])
  have hRb:bE P E callK b:=fun hf=>hR (by simp only [gE,hf,Bool.and_false])
  split at h
  ·rename_i t ht;have hte:∀ n e,P n e→evV e F c=some (.bool t):=fun n e hp=>by
    have hl:=hP n e hp;unfold gD at hl;rw [hl,wZ];exact ht
   obtain ⟨h1,h2⟩:=rJ.1 h
   cases t with
   | true =>obtain ⟨x,F',H',hk,m0,hm⟩:=sZ a P hP hG hRa G yk hY hl.1 F H Q (I8 ht ▸ h1 rfl);exact eP.up (m0:=m0) hk fun n e k hn hp hle=>by simp only [bI,exec,hte n e hp,hm n e k hn hp hle]
   | false =>obtain ⟨x,F',H',hk,m0,hm⟩:=sZ b P hP hG hRb G yk hY hl.2 F H Q (I8 ht ▸ h2 rfl);exact eP.up (m0:=m0) hk fun n e k hn hp hle=>by simp only [bI,exec,hte n e hp,hm n e k hn hp hle]
  ·exact h.elim
 | .block id b,P,hP,hG,hR,G,yk,hY,hl,F,H,Q,h=>by
  simp only [WC] at h;simp only [LpOk] at hl;have hRb:bE P E callK b:=fun hf=>hR (by simp only [gE,hf])
  obtain ⟨x,F',H',hk,m0,hm⟩:=sZ b P hP hG hRb G yk hY hl F H _ h
  cases x with
  | norm=>exact eP.up (m0:=m0) hk fun n e k hn hp hle=>by simp only [bI,exec,hm n e k hn hp hle]
  | exit i=>
   simp only at hk
   cases hb:Nat.beq i id with
   | true =>rw [hb] at hk;have e:=gA hb;subst e;exact eP.up (m0:=m0) (x:=.norm) hk fun n e k hn hp hle=>by simp only [bI,exec,hm n e k hn hp hle,if_true]
   | false=>
    rw [hb] at hk;have e:¬i=id:=fun e=>by subst e;rw [Nat.beq_refl] at hb;cases hb
    exact eP.up (m0:=m0) (x:=.exit i) hk fun n e' k hn hp hle=>by simp only [bI,exec,hm n e' k hn hp hle,e,if_false]
  | ret=>exact eP.up (m0:=m0) hk fun n e k hn hp hle=>by simp only [bI,exec,hm n e k hn hp hle]
  | brk _ _=>exact eP.up (m0:=m0) hk fun n e k hn hp hle=>by simp only [bI,exec,hm n e k hn hp hle]
 | .loop id b,P,hP,hG,hR,G,yk,hY,hl,F,H,Q,h=>by simp only [WC] at h;simp only [LpOk] at hl;exact hl.2 F H Q h
 | .lG id b,P,hP,hG,hR,G,yk,hY,hl,F,H,Q,h=>by simp only [WC] at h;simp only [LpOk] at hl;exact hl.2 F H Q h
 | .join id b,P,hP,hG,hR,G,yk,hY,hl,F,H,Q,h=>by simp only [WC] at h;simp only [LpOk] at hl;exact hl.2 F H Q h
 | .yret c pre d y args e0 fgt,P,hP,hG,hR,G,yk,hY,_,F,H,Q,h=>by
  simp only [WC] at h;obtain ⟨F1,H1,hk,m0,hm⟩:=LR hP hG pre 0 F H _ h;split at hk
  ·rename_i k vs hy hvs;obtain ⟨hb,hk⟩:=bP.1 hk;have hb:=gA hb;subst hb;obtain ⟨r,H2,hk,m1,hm1⟩:=hY _ _ _ hk;have hye:∀ n e,P n e→evV e F1 y=some (.fn (.yield E.yn) [] [])∧evs e F1 args=some vs:=fun n e hp=>by
    have hl:=hP n e hp;unfold gD at hl;rw [hl,wZ,EU];exact ⟨hy,hvs⟩
   cases r with
   | none=>
    simp only [Im] at hk;refine eP.up (m0:=max m0 m1) hk fun n e k hn hp hle=>?_
    simp only [bI,exec,ygG,hm n e k (by omega) hp (by omega),(hye n e hp).1,(hye n e hp).2,hm1 n e (by omega) hp]
   | some i=>
    refine eP.up (m0:=max m0 m1) hk fun n e k hn hp hle=>?_
    simp only [bI,exec,ygG,hm n e k (by omega) hp (by omega),(hye n e hp).1,(hye n e hp).2,hm1 n e (by omega) hp]
  ·exact hk.elim
 | .rangeF g f np ib ps az bd,P,hP,hG,hR,G,yk,hY,hl,F,H,Q,h=>by
  simp only [WC] at h;simp only [LpOk] at hl;obtain ⟨⟨rs,hfn,hrs⟩,hflat,hl1,hl2,hl3⟩:=hl;obtain ⟨hU,hE⟩:=hR rfl;split at h
  ·rename_i n first cap hg;obtain ⟨hc,h2⟩:=bP.1 h;clear h;simp only [bO,decide_eq_true_eq] at hc;have hn:=gA hc.1;subst hn;have hq:∀ (P':EP) (c:TC) (_:aM P' E),gE c=true→bE P' E callK c:=fun _ _ _ hf hf'=>by rw [hf] at hf';cases hf'
   have hyo:cS (Ir E (gR F) ps (bI az) (bI bd)) E (fun vs H K=>match yoD (gR F) ps vs with
      | some F1=>WC E callK lp [] dB az F1 H fun x F2 H2=>match x with
       | .norm=>WC E callK lp [] dB bd F2 H2 fun x _ H3=>match x with
        | .norm=>K none H3
        | .exit i=>K (some i) H3
        | .ret | .brk _ _=>False
       | .exit _ | .ret | .brk _ _=>False
      | none=>False):=by
    intro vs H K hk;simp only at hk;split at hk
    ·rename_i F1 hF1;obtain ⟨x,F2,H2,hk,m0,hm⟩:=sZ az (Iq E) (aM.ats E) (hU.sub (aM.ats E)) (hq _ _ (aM.ats E) hflat.2.1) [] dB (cS.no _ _) hl2 F1 H _ hk
     cases x with
     | norm=>
      simp only at hk;obtain ⟨x,F3,H3,hk,m1,hm1⟩:=sZ bd (Iq E) (aM.ats E) (hU.sub (aM.ats E)) (hq _ _ (aM.ats E) hflat.2.2) [] dB (cS.no _ _) hl3 F2 H2 _ hk;have key:∀ n e,max m0 m1≤n→Ir E (gR F) ps (bI az) (bI bd) n e→e.yl e.yn E.yn vs H=hnd E (gR F) ps (bI az) (bI bd) n (E.yn+1) vs H:=by
       intro n e hn he
       cases he
       simp only [Env.push,if_true]
      cases x with
      | norm =>refine ⟨none,H3,hk,max m0 m1,fun n e hn he=>?_⟩;rw [key n e hn he];simp only [hnd,hF1,hm n _ n (by omega) rfl (by omega),hm1 n _ n (by omega) rfl (by omega)]
      | exit i =>refine ⟨some i,H3,hk,max m0 m1,fun n e hn he=>?_⟩;rw [key n e hn he];simp only [hnd,hF1,hm n _ n (by omega) rfl (by omega),hm1 n _ n (by omega) rfl (by omega)]
      | ret=>exact hk.elim
      | brk _ _=>exact hk.elim
     | exit i=>exact hk.elim
     | ret=>exact hk.elim
     | brk _ _=>exact hk.elim
    ·exact hk.elim
   obtain ⟨x,F',H',hk,m0,hm⟩:=sZ ib (Ir E (gR F) ps (bI az) (bI bd)) (aM.rng E (gR F) ps (bI az) (bI bd)) (hU.sub (aM.rng E (gR F) ps (bI az) (bI bd))) (hq _ _ (aM.rng E (gR F) ps (bI az) (bI bd)) hflat.1) (gR F) _ hyo (hl1 _) _ H _ h2;have hclr:∀ {H':Hp} {Q':Hp→Prop},CJ E.yn H' Q'→Q' H'∧clrY E.yn H.length H'=some H':=fun hw=>by
    obtain ⟨h1,h2⟩:=bP.1 hw;exact ⟨h2,yOL h1⟩
   have run:∀ k,m0≤k→exec (E.push ⟨gR F,ps,bI az,bI bd⟩ (hnd E (gR F) ps (bI az) (bI bd) k)) k (bI ib) (kX 0 (first++[PV.fn (.yield E.yn) [] []]++cap)) H=some (x,F',H'):=fun k hle=>hm k _ k hle rfl hle
   cases x with
   | norm=>
    obtain ⟨hk,hcl⟩:=hclr hk;refine eP.up (m0:=m0) hk fun n e k hn hp hle=>?_
    cases hE n e hp
    simp only [bI];rw [Qu hg hfn ⟨hc.2,hrs⟩];simp only;rw [run k hle];simp only [EX,hcl]
   | ret=>
    obtain ⟨hk,hcl⟩:=hclr hk;refine eP.up (m0:=m0) hk fun n e k hn hp hle=>?_
    cases hE n e hp
    simp only [bI];rw [Qu hg hfn ⟨hc.2,hrs⟩];simp only;rw [run k hle];simp only [EX,hcl]
   | brk k0 i=>
    obtain ⟨hb,hk2⟩:=bP.1 hk;clear hk;have hb:=gA hb;subst hb;obtain ⟨hk,hcl⟩:=hclr hk2;refine eP.up (m0:=m0) hk fun n e k hn hp hle=>?_
    cases hE n e hp
    simp only [bI];rw [Qu hg hfn ⟨hc.2,hrs⟩];simp only;rw [run k hle];simp only [EX,if_true,hcl]
   | exit i=>exact hk.elim
  ·exact h.elim
theorem bV.intro {id:Nat} {P:EP} (hP:aM P E) (hG:Good P callK) {lp:LP} {b:TC} (hf:gE b=true) {G:aF} {yk:YK} (hY:cS P E yk) (hl:LpOk P E lp G b) {Q:Ex→aF→Hp→Prop} (R:Nat→aF→Hp→Prop) (h0:∀ F H,¬R 0 F H)
  (hs:∀ n F H,R (n+1) F H→WC E callK lp G yk b F H fun x F' H'=>match x with | .norm=>R n F' H' | .exit i=>Q (.exit i) F' H' | .ret=>Q .ret F' H' | .brk k i=>Q (.brk k i) F' H') :
  ∀ n F H,R n F H→bV P (.loop id b) F H Q
 | 0,F,H,h=>(h0 F H h).elim
 | n+1,F,H,h=>by
  obtain ⟨x,F',H',hk,m0,hm⟩:=sZ b P hP hG (fun hf'=>by rw [hf] at hf';cases hf') G yk hY hl F H _ (hs n F H h)
  cases x with
  | norm =>have hk:R n F' H':=hk;obtain ⟨x2,F2,H2,hk2,m1,hm1⟩:=bV.intro (id:=id) hP hG hf hY hl R h0 hs n F' H' hk;simp only [bI] at hm1;exact eP.up (m0:=max m0 m1) hk2 fun n e k hn hp hle=>by simp only [bI,exec,hm n e k (by omega) hp (by omega),hm1 n e k (by omega) hp (by omega)]
  | exit i=>exact eP.up (m0:=m0) hk fun n e k hn hp hle=>by simp only [bI,exec,hm n e k hn hp hle]
  | ret=>exact eP.up (m0:=m0) hk fun n e k hn hp hle=>by simp only [bI,exec,hm n e k hn hp hle]
  | brk _ _=>exact eP.up (m0:=m0) hk fun n e k hn hp hle=>by simp only [bI,exec,hm n e k hn hp hle]
theorem bV.introG {id:Nat} {P:EP} (hP:aM P E) (hG:Good P callK) {lp:LP} {b:TC} (hf:gE b=true) {G:aF} {yk:YK} (hY:cS P E yk) (hl:LpOk P E lp G b) {Q:Ex→aF→Hp→Prop} (R:Nat→aF→Hp→Prop) (h0:∀ F H,¬R 0 F H)
  (hs:∀ n F H,R (n+1) F H→WC E callK lp G yk b F H fun x F' H'=>match x with | .norm=>R n (fdels F' (gM (bI b))) (uI (fdels F' (gM (bI b))) H.length H') | .exit i=>Q (.exit i) F' H' | .ret=>Q .ret F' H' | .brk k i=>Q (.brk k i) F' H') :
  ∀ n F H,R n F H→bV P (.lG id b) F H Q
 | 0,F,H,h=>(h0 F H h).elim
 | n+1,F,H,h=>by
  obtain ⟨x,F',H',hk,m0,hm⟩:=sZ b P hP hG (fun hf'=>by rw [hf] at hf';cases hf') G yk hY hl F H _ (hs n F H h)
  cases x with
  | norm =>have hk:R n (fdels F' (gM (bI b))) (uI (fdels F' (gM (bI b))) H.length H'):=hk;obtain ⟨x2,F2,H2,hk2,m1,hm1⟩:=bV.introG (id:=id) hP hG hf hY hl R h0 hs n _ _ hk;simp only [bI] at hm1;exact eP.up (m0:=max m0 m1) hk2 fun n e k hn hp hle=>by simp only [bI,exec,hm n e k (by omega) hp (by omega),hm1 n e k (by omega) hp (by omega)]
  | exit i=>exact eP.up (m0:=m0) hk fun n e k hn hp hle=>by simp only [bI,exec,hm n e k hn hp hle]
  | ret=>exact eP.up (m0:=m0) hk fun n e k hn hp hle=>by simp only [bI,exec,hm n e k hn hp hle]
  | brk _ _=>exact eP.up (m0:=m0) hk fun n e k hn hp hle=>by simp only [bI,exec,hm n e k hn hp hle]
theorem bV.introC {id:Nat} {P:EP} {b:TC} {Q:Ex→aF→Hp→Prop} (R:Nat→aF→Hp→Prop) (h0:∀ F H,¬R 0 F H)
  (hs:∀ n F H,R (n+1) F H→eP P (bI b) F H fun x F' H'=>match x with | .norm=>R n (fdels F' (gM (bI b))) (uI (fdels F' (gM (bI b))) H.length H') | .exit i=>Q (.exit i) F' H' | .ret=>Q .ret F' H' | .brk k i=>Q (.brk k i) F' H') :
  ∀ n F H,R n F H→bV P (.lG id b) F H Q
 | 0,F,H,h=>(h0 F H h).elim
 | n+1,F,H,h=>by
  obtain ⟨x,F',H',hk,m0,hm⟩:=hs n F H h
  cases x with
  | norm =>have hk:R n (fdels F' (gM (bI b))) (uI (fdels F' (gM (bI b))) H.length H'):=hk;obtain ⟨x2,F2,H2,hk2,m1,hm1⟩:=bV.introC (id:=id) R h0 hs n _ _ hk;simp only [bI] at hm1;exact eP.up (m0:=max m0 m1) hk2 fun n e k hn hp hle=>by simp only [bI,exec,hm n e k (by omega) hp (by omega),hm1 n e k (by omega) hp (by omega)]
  | exit i=>exact eP.up (m0:=m0) hk fun n e k hn hp hle=>by simp only [bI,exec,hm n e k hn hp hle]
  | ret=>exact eP.up (m0:=m0) hk fun n e k hn hp hle=>by simp only [bI,exec,hm n e k hn hp hle]
  | brk _ _=>exact eP.up (m0:=m0) hk fun n e k hn hp hle=>by simp only [bI,exec,hm n e k hn hp hle]
end
def kH (P:EP) (n:Nat) (az:List PV) (r:PV):Prop:=∃ m0,∀ k e m,m0≤k→P k e→m0≤m→ybu e (yaD e m) n az=some r
def Ans (E:Env) (n:Nat) (az:List PV) (r:PV):Prop:=kH (aZ E) n az r
def lD (E:Env) (n:Nat) (az:List PV) (r:PV):Prop:=kH (gN E) n az r
theorem kH.sub {P P':EP} {n:Nat} {az:List PV} {r:PV} (h:kH P n az r) (hs:∀ k e,P' k e→P k e):kH P' n az r:=by obtain ⟨m0,hm⟩:=h;exact ⟨m0,fun k e m h1 h2 h3=>hm k e m h1 (hs k e h2) h3⟩
theorem Ans.solo {E:Env} {n:Nat} {az:List PV} {r:PV} (h:Ans E n az r):lD E n az r:=kH.sub h fun _ e h=>by cases h;rfl
def LT (E:Env):Prop:=∀ n az H x,E.eff n az H=some x→E.qui n=false∧E.frz n=false∧(∀ az,E.sum n az=none)∧E.rb n=false
def It (P:EP) (n:Nat) (az:List PV) (b:HB) (q:PV) (rows:List PV):Prop:=∃ m0,∀ k e m,m0≤k→P k e→m0≤m→ysP (yaD e m) n az b=some (q,rows)
structure SEOk (P:EP) (S:SE):Prop where
 sb:aM P S.E
 sum:∀ n wp,S.sumK n=some wp→∀ az K,wp az K→∃ r,K r∧kH P n az r
 inl:∀ n fn,S.inl n=some fn→S.E.fns n=some fn.fn∧S.E.qui n=false∧S.E.frz n=false∧(∀ az,S.E.sum n az=none)∧(∀ az H,S.E.eff n az H=none)∧gE fn.body=true∧LpOk P S.E S.lp [] fn.body
 eff:LT S.E
 sumL:∀ n wp,S.sumL n=some wp→∀ az b K,wp az b K→∃ q rows,K q rows∧It P n az b q rows
section
variable {S:SE} {P:EP} {callK:CK} {H:Hp}
theorem xA {E e:Env} (h:gD E e):e.fns=E.fns∧e.sum=E.sum∧e.qui=E.qui∧e.frz=E.frz∧e.rb=E.rb∧e.nl=E.nl∧e.eff=E.eff:=by unfold gD at h;rw [h];exact ⟨rfl,rfl,rfl,rfl,rfl,rfl,rfl⟩
theorem LU (hP:aM P S.E) (hG:Good P callK) {fn:TFn} (hR:bE P S.E callK fn.body) (hl:LpOk P S.E S.lp [] fn.body) {n:Nat} (hf:S.E.fns n=some fn.fn) (he:∀ az H,S.E.eff n az H=none) {args:List PV} {K:PV→Hp→Prop} (h:Io S.E callK S.lp fn args H K) :
  ∃ r H',K r H'∧∃ m0,∀ k e m,m0≤k→P k e→m0≤m→yaD e m n args H=some (r,H'):=by
 obtain ⟨h1,h⟩:=bP.1 h;have h1:args.length=fn.nparams:=by simpa using h1
 obtain ⟨x,F',H',hk,m0,hm⟩:=sZ fn.body P hP hG hR [] dB (cS.no _ _) hl _ H _ h;have key:(match yjz F' H' fn.results with | some ps=>K (sN ps) H' | none=>False)→(x=.norm∨x=.ret) →
   ∃ r H',K r H'∧∃ m0,∀ k e m,m0≤k→P k e→m0≤m→yaD e m n args H=some (r,H'):=by
  intro hk hx;split at hk
  ·rename_i ps hps;refine ⟨_,_,hk,m0+1,fun k e m hkl hp hle=>?_⟩;obtain ⟨q,rfl⟩:∃ q,m=q+1:=⟨m-1,by omega⟩;have e0:=hm k e q (by omega) hp (by omega);obtain ⟨l1,_,_,_,_,_,l7⟩:=xA (hP k e hp);simp only [yaD,Env.effx,uB,l7,l1,he,hf,TFn.fn,h1,if_true];rw [e0];rcases hx with rfl | rfl<;>simp only [hps]
  ·exact hk.elim
 cases x with
 | norm=>exact key hk (.inl rfl)
 | exit i=>exact hk.elim
 | brk _ _=>exact hk.elim
 | ret=>exact key hk (.inr rfl)
theorem Iu {e:Env} {call:Nat→List PV→Hp→Option (PV×Hp)} {f:PV} {args:List PV} (h:yld e f args=none):yjl e call f args H=pB e call f args H:=by simp only [yjl,h]
theorem cY (hS:SEOk P S):∀ d,Good P (jO S d)
 | 0,f,args,H,K,h=>h.elim
 | d+1,f,args,H,K,h=>by
  unfold jO at h;split at h
  ·rename_i n first captured;split at h
   ·rename_i x hx;split at h
    ·rename_i wp hwp;unfold Ip at h;obtain ⟨az,H',h,hp⟩:=LN _ _ _ h;split at h
     ·rename_i b hb;obtain ⟨hc,h⟩:=bP.1 h;simp only [bO,nL] at hc;obtain ⟨q,rows,hk,m0,hm⟩:=hS.sumL _ wp hwp _ _ _ h;refine ⟨q,_,hk,m0,fun k e m hkl he hle=>?_⟩;simp only [yjl,LS (hS.sb k e he),hx,uD,hp,hb];rw [YQ hc];simp only [hm k e m hkl he hle]
     ·exact h.elim
    ·exact h.elim
   rename_i hx;have hx':∀ k e,P k e→yld e (.fn (.func n) first captured) args=none:=fun k e he=>(LS (hS.sb k e he) _ _).trans hx
   split at h
   ·rename_i wp hwp
    cases hb:S.E.rb n with
    | true =>rw [hb,cond_true] at h;obtain ⟨az,h,hp⟩:=I4 _ _ h;obtain ⟨r,hk,m0,hm⟩:=hS.sum n wp hwp az _ h;obtain ⟨hs,hk⟩:=bP.1 hk;refine ⟨r,_,hk,m0,fun k e m hkl he hle=>?_⟩;obtain ⟨_,_,_,_,l5,_,_⟩:=xA (hS.sb k e he);rw [Iu (hx' k e he)];simp only [pB,l5,hb,if_true,hp,hm k e m hkl he hle,hs]
    | false=>
     rw [hb,cond_false] at h;obtain ⟨az,H',h,hp⟩:=LN _ _ _ h;obtain ⟨r,hk,m0,hm⟩:=hS.sum n wp hwp az _ h;refine ⟨r,_,hk,m0,fun k e m hkl he hle=>?_⟩;obtain ⟨_,_,_,_,l5,_,_⟩:=xA (hS.sb k e he);rw [Iu (hx' k e he)];simp only [pB,l5,hb,gL,if_false,hp,hm k e m hkl he hle]
     cases r.scalar<;>simp
   ·split at h
    ·rename_i fn hfn;obtain ⟨h1,h2,h3,h4,h6,h7,h5⟩:=hS.inl n fn hfn
     cases hb:S.E.rb n with
     | true =>rw [hb,cond_true] at h;exact h.elim
     | false=>
      rw [hb,cond_false] at h;obtain ⟨r,H',hk,m0,hm⟩:=LU hS.sb (cY hS d) (fun hf=>by rw [h7] at hf;cases hf) h5 h1 h6 h;refine ⟨r,H',hk,m0,fun k e m hkl he hle=>?_⟩;obtain ⟨_,l2,l3,l4,l5,_,_⟩:=xA (hS.sb k e he);have e0:∀ az,ybu e (yaD e m) n az=none:=by
       intro az;simp only [ybu,l2,l3,h4 az,h2];rfl
      rw [Iu (hx' k e he)];simp only [pB,e0,l3,l4,l5,h2,h3,hb]
      cases yaT H (first++args++captured)<;>simp only [gL,if_false,hm k e m hkl he hle]
    ·split at h
     ·rename_i c t x y he;obtain ⟨hc,h⟩:=bP.1 h;subst hc;obtain ⟨h2,h3,h4,h7⟩:=hS.eff n _ _ _ he;obtain ⟨r,H',h,hrt⟩:∃ r H',K r H'∧(bif t then x else y)=(r,H'):=by
       cases t with
       | true=>exact ⟨_,_,h,rfl⟩
       | false=>exact ⟨_,_,h,rfl⟩
      refine ⟨r,H',h,1,fun k e m hkl hp hle=>?_⟩;obtain ⟨k,rfl⟩:∃ k,m=k+1:=⟨m-1,by omega⟩;obtain ⟨_,l2,l3,l4,l5,_,l7⟩:=xA (hS.sb _ e hp);have e0:∀ az,ybu e (yaD e (k+1)) n az=none:=by
       intro az;simp only [ybu,l2,l3,h4 az,h2];rfl
      have hi:yaD e (k+1) n (first++args++captured) H=some (r,H'):=by simp only [yaD,Env.effx,uB,l7,he,hrt]
      rw [Iu (hx' _ e hp)];simp only [pB,e0,l3,l4,l5,h2,h3,h7]
      cases yaT H (first++args++captured)<;>simp only [gL,if_false,hi]
     ·exact h.elim
  ·exact h.elim
theorem J2 (hS:SEOk P S) {d:Nat} {fn:TFn} {n:Nat} (hR:bE P S.E (jO S d) fn.body) (hl:LpOk P S.E S.lp [] fn.body) (hf:S.E.fns n=some fn.fn) (hq:S.E.qui n=true) (hs:∀ az,S.E.sum n az=none) (he:∀ az H,S.E.eff n az H=none) {az:List PV} {K:PV→Prop} (h:WP S d fn az K) (hn:S.E.nl n=false:=by kernel_rfl) :
  ∃ r,K r∧kH P n az r:=by
 unfold WP at h;obtain ⟨r,H',hk,m0,hm⟩:=LU hS.sb (cY hS d) hR hl hf he h;obtain ⟨q,hk,hq'⟩:=yMq hk;refine ⟨q,hk,m0,fun k e m hkl hp hle=>?_⟩;obtain ⟨_,l2,l3,_,_,l6,_⟩:=xA (hS.sb k e hp);simp only [ybu,l2,l3,l6,hs az,hq,hm k e m hkl hp hle,hn,kA,cond_false,hq',if_true]
theorem bE.flat {E:Env} {c:TC} (h:gE c=true:=by kernel_rfl):bE P E callK c:=fun hf=>by rw [h] at hf;cases hf
end
def uN (P:EP) (lp:LP) (G:aF):List (Nat×TC)→Prop
 | []=>True
 | p::r=>(∀ F H Q,lp p.1 G F H Q→bV P p.2 F H Q)∧uN P lp G r
theorem uN.mem {P:EP} {lp:LP} {G:aF}:∀ {l:List (Nat×TC)},uN P lp G l→∀ p∈l,∀ F H Q,lp p.1 G F H Q→bV P p.2 F H Q
 | [],_,p,hp=>by cases hp
 | q::r,h,p,hp=>by
  rcases qAn.1 hp with rfl|hp
  ·exact h.1
  ·exact uN.mem h.2 p hp
theorem dI {P:EP} {E:Env} {lp:LP} {G:aF} {c:TC} {l:List (Nat×TC)} (h:uN P lp G l) (e:mN c=l) (hf:gE c=true:=by kernel_rfl):LpOk P E lp G c:=yY c hf (by rw [e];exact h.mem)
theorem aR {P:EP} {E:Env} {lp:LP} {G:aF} {c:TC} (e:mN c=[]) (hf:gE c=true:=by kernel_rfl):LpOk P E lp G c:=dI (l:=[]) trivial e hf
theorem LpOk.sub {P P':EP} {E:Env} {lp:LP} {G:aF} (hs:∀ n e,P' n e→P n e):∀ (c:TC),gE c=true→LpOk P E lp G c→LpOk P' E lp G c
 | .skip,_,_ | .ops _ _ _ _,_,_ | .exit _,_,_ | .ret,_,_ | .bad,_,_ | .yret _ _ _ _ _ _ _,_,_ | .cut _,_,_=>trivial
 | .rangeF _ _ _ _ _ _ _,hf,_=>by simp [gE] at hf
 | .seq a b,hf,h=>by simp only [gE,bO] at hf;exact ⟨LpOk.sub hs a hf.1 h.1,LpOk.sub hs b hf.2 h.2⟩
 | .cond _ a b,hf,h=>by simp only [gE,bO] at hf;exact ⟨LpOk.sub hs a hf.1 h.1,LpOk.sub hs b hf.2 h.2⟩
 | .block _ b,hf,h=>LpOk.sub hs b hf h
 | .loop _ b,hf,h=>⟨LpOk.sub hs b hf h.1,fun F H Q k=>(h.2 F H Q k).sub hs⟩
 | .lG _ b,hf,h=>⟨LpOk.sub hs b hf h.1,fun F H Q k=>(h.2 F H Q k).sub hs⟩
 | .join _ b,hf,h=>⟨LpOk.sub hs b hf h.1,fun F H Q k=>(h.2 F H Q k).sub hs⟩
theorem SEOk.solo {S:SE} (h:SEOk (aZ S.E) S):SEOk (gN S.E) S where
 sb:=aM.solo _
 sum:=fun n wp hw az K k=>by
  obtain ⟨r,h1,h2⟩:=h.sum n wp hw az K k;exact ⟨r,h1,h2.sub fun _ _ he=>aM.solo _ _ _ he⟩
 inl:=fun n fn hf=>by
  obtain ⟨h1,h2,h3,h4,h5,h6,h7⟩:=h.inl n fn hf;exact ⟨h1,h2,h3,h4,h5,h6,LpOk.sub (fun n e he=>aM.solo _ n e he) _ h6 h7⟩
 eff:=h.eff
 sumL:=fun n wp hw az b K k=>by obtain ⟨q,rows,h1,m0,h2⟩:=h.sumL n wp hw az b K k;exact ⟨q,rows,h1,m0,fun k e m k1 k2 k3=>h2 k e m k1 (aM.solo _ _ _ k2) k3⟩
def ye7:List (Nat×(List PV→(PV→Prop)→Prop))→Nat→Option (List PV→(PV→Prop)→Prop)
 | [],_=>none
 | (k,f)::r,n=>bif Nat.beq k n then some f else ye7 r n
def yeh:List (Nat×TFn)→Nat→Option TFn
 | [],_=>none
 | (k,f)::r,n=>bif Nat.beq k n then some f else yeh r n
def yZ (P:EP):List (Nat×(List PV→(PV→Prop)→Prop))→Prop
 | []=>True
 | (k,f)::r=>(∀ az K,f az K→∃ q,K q∧kH P k az q)∧yZ P r
def zA (P:EP) (E:Env) (lp:LP):List (Nat×TFn)→Prop
 | []=>True
 | (k,f)::r=>(E.fns k=some f.fn∧E.qui k=false∧E.frz k=false∧(∀ az,E.sum k az=none)∧(∀ az H,E.eff k az H=none)∧gE f.body=true∧LpOk P E lp [] f.body)∧zA P E lp r
theorem J3 {P:EP}:∀ (l:List (Nat×(List PV→(PV→Prop)→Prop))),yZ P l→∀ n wp,ye7 l n=some wp→∀ az K,wp az K→∃ r,K r∧kH P n az r
 | [],_,_,_,h=>by simp [ye7] at h
 | (k,f)::r,hl,n,wp,h=>by
  simp only [yZ] at hl;simp only [ye7] at h
  cases hc:Nat.beq k n with
  | true =>rw [hc] at h;simp only [cond_true,bZ] at h;have:=gA hc;subst this;subst h;exact hl.1
  | false =>rw [hc] at h;exact J3 r hl.2 n wp (by simpa using h)
theorem J5 {P:EP} {E:Env} {lp:LP}:∀ (l:List (Nat×TFn)),zA P E lp l→∀ n fn,yeh l n=some fn→E.fns n=some fn.fn∧E.qui n=false∧E.frz n=false∧(∀ az,E.sum n az=none)∧(∀ az H,E.eff n az H=none)∧gE fn.body=true∧LpOk P E lp [] fn.body
 | [],_,_,_,h=>by simp [yeh] at h
 | (k,f)::r,hl,n,fn,h=>by
  simp only [zA] at hl;simp only [yeh] at h
  cases hc:Nat.beq k n with
  | true =>rw [hc] at h;simp only [cond_true,bZ] at h;have:=gA hc;subst this;subst h;exact hl.1
  | false =>rw [hc] at h;exact J5 r hl.2 n fn (by simpa using h)
theorem bF {P:EP} {E:Env} {ls:List (Nat×(List PV→(PV→Prop)→Prop))} {li:List (Nat×TFn)} {lp:LP} (hb:aM P E) (hs:yZ P ls) (hi:zA P E lp li) (he:LT E):SEOk P ⟨E,ye7 ls,yeh li,lp,fun _=>none⟩ where
 sb:=hb
 sum:=fun n wp h=>J3 ls hs n wp h
 inl:=fun n fn h=>J5 li hi n fn h
 eff:=he
 sumL:=fun n wp h=>by cases h
theorem yK0 {add sub n:Nat} (h1:Nat.beq n add=false) (h2:Nat.beq n sub=false) (az:List PV):sumC add sub n az=none:=by
 unfold sumC;split
 ·rw [h1,h2];rfl
 ·rfl
def EY (p0 p1 p2:Int) (K:Int→Int→Prop):Prop:=
 asr (decide (p2.toNat≤1)) (K (((p0.toNat+p1.toNat+p2.toNat)%18446744073709551616:Nat):Int) (((p0.toNat+p1.toNat+p2.toNat)/18446744073709551616:Nat):Int))
def uO:List PV:=([0,1,2,2,3,3,3,3,4,4,4,4,4,4,4,4,5,5,5,5,5,5,5,5,5,5,5,5,5,5,5,5,6,6,6,6,6,6,6,6,6,6,6,6,6,6,6,6,6,6,6,6,6,6,6,6,6,6,6,6,6,6,6,6,7,7,7,7,7,7,7,7,7,7,7,7,7,7,7,7,7,7,7,7,7,7,7,7,7,7,7,7,7,7,7,7,7,7,7,7,7,7,7,7,7,7,7,7,7,7,7,7,7,7,7,7,7,7,7,7,7,7,7,7,7,7,7,7,8,8,8,8,8,8,8,8,8,8,8,8,8,8,8,8,8,8,8,8,8,8,8,8,8,8,8,8,8,8,8,8,8,8,8,8,8,8,8,8,8,8,8,8,8,8,8,8,8,8,8,8,8,8,8,8,8,8,8,8,8,8,8,8,8,8,8,8,8,8,8,8,8,8,8,8,8,8,8,8,8,8,8,8,8,8,8,8,8,8,8,8,8,8,8,8,8,8,8,8,8,8,8,8,8,8,8,8,8,8,8,8,8,8,8,8,8,8,8,8,8,8,8,8,8,8,8,8]:List Int).map (PV.int .u8)
def Qv (w:Int→Int→Int→(Int→Int→Prop)→Prop) (az:List PV) (K:PV→Prop):Prop:=
 match az with
 | [(.int .u64 p0),(.int .u64 p1),(.int .u64 p2)]=>w p0 p1 p2 (fun (r0:Int) (r1:Int)=>K (.tup [(.int .u64 r0),(.int .u64 r1)]))
 | _=>False
def ys3 (az:List PV) (K:PV→Prop):Prop:=Qv EY az K
def EZ (p0 p1 p2:Int) (K:Int→Int→Prop):Prop:=
 asr (decide (p2.toNat≤1)) (K (((p0.toNat+18446744073709551616-p1.toNat-p2.toNat)%18446744073709551616:Nat):Int) ((bif Nat.ble (p1.toNat+p2.toNat) p0.toNat then 0 else 1:Nat):Int))
def Qw (w:Int→Int→Int→(Int→Int→Prop)→Prop) (az:List PV) (K:PV→Prop):Prop:=
 match az with
 | [(.int .u64 p0),(.int .u64 p1),(.int .u64 p2)]=>w p0 p1 p2 (fun (r0:Int) (r1:Int)=>K (.tup [(.int .u64 r0),(.int .u64 r1)]))
 | _=>False
def ys5 (az:List PV) (K:PV→Prop):Prop:=Qw EZ az K
theorem J6 {P:Program} {E:Env} (hE:EO P E) (hm:P.follows .mixedOrders=true) {n:Nat} {az:List PV} {r:PV} (hs:E.sum n az=none) (hq:E.qui n=true) (h:lD E n az r):qM P E.glob n az r:=by
 obtain ⟨m0,hm0⟩:=h;have:=hm0 m0 E m0 (bX _) rfl (bX _);simp only [ybu,hs,hq,if_true] at this;refine E4 hE hm (n:=m0) ?_;unfold topV;split at this
 ·rename_i x H hx;rw [hx];exact this
 ·cases this
end Go.Pf
namespace Go.Pf
open Go Go.RowKit
section
variable {P:Program} {E:Env}
theorem yK1 {b:Bool} {call} (hc:ybr P E call) {I:Nat→Prop} {w:World} {f:Nat} {args:List PV} {vs:List Value} {r q:PV} {H:Hp} (himm:∀ b,I b→b<w.heap.size)
  (hg:∀ n x,E.glob n=some x→I n∧∃ vs,0<vs.length∧RC I w x vs∧At w n 0 vs) (hv:bK ⟨fun _=>none,fun _=>none,I,fun _=>none⟩ [] w args vs) (hin:call f args []=some (r,H)) (h:kA b H r=some q) :
  nG P f vs.toArray w fun v w'=>Bel w.heap.size w w'∧VP (fun b=>I b∨(w.heap.size≤b∧b<w'.heap.size)) w' q v:=by
 let g0:Gh:=⟨fun _=>none,fun _=>none,I,fun _=>none⟩;have hr:Rel E 0 g0 [] [] #[] w:=by
  refine ⟨iL _,fun s fv e=>by simp [fget] at e,fun id hb e=>by simp at e,fun id id' hb b o b' o' e=>by simp at e,fun id b o e=>by simp [g0] at e,fun s s' b e=>by simp [g0] at e,fun s b id o e=>by simp [g0] at e,fun s b e=>by simp [g0] at e,himm,hg⟩
 refine (hc f args [] r H hin 0 g0 [] #[] w vs hr (Lps.none_ fun _=>rfl) hv).mono ?_;rintro v w' ⟨g',n1,r1,hvr⟩;obtain ⟨g2,H2,r2,n2,hvp⟩:=ZN r1 hvr h;have n3:=n1.trans n2;have noR:∀ b,¬RngR g0 b:=fun b ⟨id,o,e⟩=>by simp [g0] at e
 have noM:∀ b,¬lW g0 b:=fun b ⟨s,e⟩=>by simp [g0] at e
 refine ⟨⟨⟨n3.os,n3.tape,n3.output,n3.size,fun k hk=>n3.kept k hk (noR k) (noM k)⟩,n3.drawn⟩,PH (fun b hb=>⟨?_,rfl⟩) hvp⟩;rcases qA9 b w.heap.size with h1 | h1
 ·rcases hb with hb | hb
  ·rcases n3.immb b h1 hb with h2 | h2
   ·exact .inl h2
   ·exact absurd h2 (noR b)
  ·exact absurd (n3.rng b h1 hb) (noR b)
 ·exact .inr ⟨h1,hb.elim (r2.imm b) r2.brng⟩
theorem yQs (hE:EO P E) (hm:P.follows .mixedOrders=true) {n f:Nat} {q:PV} (h:∀ b,topV E n f [.mt b]=some q):qM P E.glob f [.data []] q:=by
 intro I w vs himm hgl hv;simp only [gS,fH,RC] at hv;obtain ⟨v,vr,rfl,⟨a,len,cap,e,hl,hc,hm2,_⟩,rfl⟩:=hv;simp only [kW,and_true] at e;subst e;have hl:len=0:=hl;subst hl;have hh:=h a.isNone;unfold topV at hh;split at hh
 ·rename_i r H hin;refine yK1 (Qe hE hm n) himm hgl (args:=[.mt a.isNone]) ?_ hin hh;simp only [bK,VR];exact ⟨_,_,rfl,⟨a,cap,rfl,hm2,rfl⟩,rfl⟩
 ·cases hh
end
def Fa (esz bytes:Nat) (z:PV):AFn:=⟨1,[.tmp 2],
 (.seq
  (.ops [⟨some 2,(.mv (.c .nils)),none⟩] [] [2])
  (.seq
   (.seq
    (.ops [⟨some 3,(.mv (.t 0)),none⟩,
     ⟨some 4,(.eqN false (.t 3)),none⟩] [] [3])
    (.cond (.t 4)
     (.seq (.ops [⟨some 2,(.mv (.c .nils)),none⟩] [] [0,4]) .ret)
     .skip))
   (.seq
    (.ops [⟨some 5,(.bSl true esz z 0 []),none⟩,
     ⟨some 6,(.mv (.t 0)),none⟩,
     ⟨some 7,(.app true esz bytes (.t 5) (.t 6)),none⟩,
     ⟨some 2,(.mv (.t 7)),none⟩] [] [0,4,5,6,7])
    .ret)))⟩
abbrev pI:=List (Nat×Nat×Nat)
def LW (esz bytes:Nat) (rows:List PV):Bool:=nN esz rows&&decide ((rows.length+64)*(bytes+1)≤room)
def yky:pI→Nat→List PV→Option PV
 | [],_,_=>none
 | (k,esz,bytes)::r,n,az=>bif Nat.beq k n then (match az with
  | [.data rows]=>(bif LW esz bytes rows then some (.data rows) else none)
  | _=>none) else yky r n az
def LX:pI→Nat→Bool
 | [],_=>false
 | (k,_,_)::r,n=>Nat.beq k n||LX r n
section
variable {P:Program} {E:Env}
theorem yMt {n esz bytes:Nat} {z:PV} (hf:E.fns n=some (Fa esz bytes z)) (he:∀ az H,E.eff n az H=none) (hnl:E.nl n=false) (b:Bool):topV E 12 n [.mt b]=some (.data []):=by
 unfold topV
 cases b<;>simp [yaD,Env.effx,uB,he,exec,hf,Fa,ygG,mS,yhb,yef,yap,evV,ev,kX,fget,bJ,fdels,gB,lP,ye2,outV,Option.map,yjz,yDr,sN,kA,hnl,purR,yck,yfT,appV,yiu,nN,wQ]
theorem yIi {n esz bytes:Nat} {z:PV} (hf:E.fns n=some (Fa esz bytes z)) (he:∀ az H,E.eff n az H=none) (hnl:E.nl n=false) {x:PV} {r:List PV} (h:LW esz bytes (x::r)=true):topV E 12 n [.data (x::r)]=some (.data (x::r)):=by simp only [LW,bO,decide_eq_true_eq,iE] at h;obtain ⟨h1,h2⟩:=h;unfold topV;simp [yaD,Env.effx,uB,he,exec,hf,Fa,ygG,mS,yhb,yef,yap,evV,ev,kX,fget,bJ,fdels,gB,lP,ye2,outV,Option.map,yjz,yDr,sN,kA,hnl,purR,yck,yfT,appV,yiu,h1,wQ,ydF,h2]
theorem J7 (hE:EO P E) (hm:P.follows .mixedOrders=true) (he:∀ n az H,E.eff n az H=none) (hnl:∀ n,E.nl n=false):∀ (cl:pI),(∀ n esz bytes,(n,esz,bytes)∈cl→∃ z,E.fns n=some (Fa esz bytes z))→∀ n az r,yky cl n az=some r→qM P E.glob n az r
 | [],_,_,_,_,h=>by simp [yky] at h
 | (k,esz,bytes)::t,hc,n,az,r,h=>by
  simp only [yky] at h
  cases hb:Nat.beq k n with
  | false=>rw [hb] at h;exact J7 hE hm he hnl t (fun n e b hm=>hc n e b (eF _ hm)) n az r (by simpa using h)
  | true=>
   rw [hb] at h;have e:=gA hb;subst e;simp only [cond_true] at h;split at h
   ·rename_i rows
    cases hk:LW esz bytes rows with
    | false=>rw [hk] at h;simp at h
    | true=>
     rw [hk] at h;simp only [cond_true,bZ] at h;subst h;obtain ⟨z,hf⟩:=hc k esz bytes eU
     cases rows with
     | nil=>exact yQs hE hm (fun b=>yMt hf (he k) (hnl k) b)
     | cons x r=>exact E4 hE hm (yIi hf (he k) (hnl k) hk)
   ·cases h
end
def J8:List (Nat×PV)→Nat→Option PV
 | [],_=>none
 | (k,a)::r,n=>bif Nat.beq k n then some a else J8 r n
theorem qM.any {P:Program} {G:Nat→Option PV} {f:FuncId} {az:List PV} {r:PV} (h:qM P (fun _=>none) f az r):qM P G f az r:=
 fun I w vs hI _ hv=>h I w vs hI (fun _ _ e=>nomatch e) hv
def uP (add sub:Nat) (tab:List (Nat×AFn)) (qui:List Nat) (cl:pI) (gl:List (Nat×PV)):Env:=
 { glob:=J8 gl,sum:=fun n az=>match sumC add sub n az with | some r=>some r | none=>yky cl n az,fns:=yAG tab,frz:=fun _=>false,qui:=memN qui,nl:=fun n=>memN qui (n+1000000),rb:=fun n=>memN qui (n+3000000),lo:=fun n=>bif memN qui (n+4000000) then some 1 else bif memN qui (n+5000000) then some 0 else bif memN qui (n+2000000) then some 4 else none,dn:=fun n=>memN qui (n+6000000) }
def Iv (add sub:Nat) (cl:pI) (n:Nat):Bool:=Nat.beq n add||(Nat.beq n sub||LX cl n)
theorem J9:∀ (cl:pI) (n:Nat) (az:List PV),LX cl n=false→yky cl n az=none
 | [],_,_,_=>rfl
 | (k,_,_)::r,n,az,h=>by simp only [LX,AP] at h;simp only [yky,h.1,cond_false];exact J9 r n az h.2
theorem yIj {add sub:Nat} {tab:List (Nat×AFn)} {qui:List Nat} {cl:pI} {gl:List (Nat×PV)} {n:Nat} (h:Iv add sub cl n=false) (az:List PV):(uP add sub tab qui cl gl).sum n az=none:=by simp only [Iv,AP] at h;simp only [uP,yK0 h.1 h.2.1,J9 cl n az h.2.2]
theorem yMu {P:Program} {add sub:Nat} {tab:List (Nat×AFn)} {qui:List Nat} {cl:pI} {gl:List (Nat×PV)} (hm:P.follows .mixedOrders=true) (ha:IsExtern P add add64Entry) (hs:IsExtern P sub Ig) (ht:CA P tab)
  (hd:∀ n∈CB qui,yRK P n) (hc:∀ n esz bytes,(n,esz,bytes)∈cl→∃ z,yAG tab n=some (Fa esz bytes z)):EO P (uP add sub tab qui cl gl) where
 sum:=by
  intro n az r h;simp only [uP] at h;split at h
  ·rename_i q hq;cases h;exact E8 ha hs n az _ hq
  ·exact (J7 (yOD (qui:=[]) ha hs ht) hm (fun _ _ _=>rfl) (fun _=>rfl) cl (fun n e b hmem=>hc n e b hmem) n az r h).any
 fns:=fun n fn h=>Qg tab ht n fn h
 eff:=fun _ _ _ _ _ _ _ h=>by cases h
 dn:=fun n h=>hd n (E9 h)
 top:=fun _ _=>rfl
 yl:=fun _ _ _ _ _ _ h=>by cases h
end Go.Pf
namespace Go.Pf
abbrev Ls:Type:=List PV
def O (d:Nat) (x:AOp):AO:=⟨some d,x,none⟩
def M (d s:Nat):AO:=⟨some d,.mv (.t s),none⟩
def I (n:Int):Opd:=.c (.int .i64 n)
def oX (d:Nat) (op:BinOp) (a b:Nat):AO:=⟨some d,.bin op (.t a) (.t b),none⟩
def oT (d sz a:Nat):AO:=⟨some d,.load true sz (.t a),none⟩
def oF (d sz a:Nat):AO:=⟨some d,.load false sz (.t a),none⟩
def oQ (l:List AO) (d:List Nat):TC:=.ops l [] [] d
abbrev bC (E:Env) (wp:List PV→(PV→Prop)→Prop) (n:Nat):Prop:=∀ az K,wp az K→∃ r,K r∧Ans E n az r
abbrev OkL (E:Env) (wp:List PV→HB→(PV→List PV→Prop)→Prop) (n:Nat):Prop:=∀ az b K,wp az b K→∃ q rows,K q rows∧It (aZ E) n az b q rows
abbrev zG (E:Env) (wp:List PV→(PV→Prop)→Prop) (n:Nat):Prop:=∀ az K,wp az K→∃ r,K r∧lD E n az r
theorem bC.solo {E:Env} {wp:List PV→(PV→Prop)→Prop} {n:Nat} (h:bC E wp n):zG E wp n:=fun az K k=>by obtain ⟨r,h1,h2⟩:=h az K k;exact ⟨r,h1,h2.solo⟩
theorem lD.unique {E:Env} {n:Nat} {az:List PV} {r r':PV} (h:lD E n az r) (h':lD E n az r'):r=r':=by obtain ⟨m,hm⟩:=h;obtain ⟨m',hm'⟩:=h';have e:=hm (m+m') E (m+m') (by omega) rfl (by omega);rw [hm' (m+m') E (m+m') (by omega) rfl (by omega)] at e;exact (AS e).symm
theorem Ans.unique {E:Env} {n:Nat} {az:List PV} {r r':PV} (h:Ans E n az r) (h':Ans E n az r'):r=r':=lD.unique h.solo h'.solo
theorem uQ {E:Env} {n:Nat} {wp:List PV→(PV→Prop)→Prop} (ok:zG E wp n) {az:List PV} {x:PV}
  (h:∀ K:PV→Prop,K x→wp az K) {K:PV→Prop} (k:wp az K):K x:=by
 obtain ⟨r,h1,h2⟩:=ok az K k;obtain ⟨q,h3,h4⟩:=ok az (fun y=>y=x) (h _ rfl);subst h3;rw [← h2.unique h4];exact h1
theorem cA {E:Env} {n:Nat} {wp:List PV→(PV→Prop)→Prop} (ok:∀ az K,wp az K→∃ r,K r∧Ans E n az r) {az:List PV} {x:PV}
 (h:∀ K:PV→Prop,K x→wp az K) {K:PV→Prop} (k:wp az K):K x:=uQ (bC.solo ok) h k
end Go.Pf
namespace Go.Pf
open Go
inductive DS where
 | b
 | i (k:IntKind)
 | s (e:DS)
 | a (l:List DS)
def DS.isA:DS→Bool
 | .a _=>true
 | _=>false
def PV.isAgg:PV→Bool
 | .agg _=>true
 | _=>false
mutual
def HasF:DS→List PV→Prop
 | .b,c=>∃ x,c=[.bool x]
 | .i k,c=>∃ n,c=[.int k n]∧jI k n
 | .s e,c=>∃ rows:List PV,c=[.data rows]∧rows.length≤maxLen∧∀ x∈rows,x.isAgg=e.isA∧HasF e x.cells
 | .a l,c=>HasL l c
def HasL:List DS→List PV→Prop
 | [],c=>c=[]
 | d::l,c=>∃ c1 c2,c=c1++c2∧HasF d c1∧HasL l c2
end
mutual
def jP (P:Program):DS→TypeId→Bool
 | .b,t=>(match P.underlying t with | some .bool=>true | _=>false)
 | .i k,t=>(match P.underlying t with | some (.int q)=>decide (q=k) | _=>false)
 | .s e,t=>(match P.underlying t with | some (.slice u)=>decide (0<P.cellsOf u)&&jP P e u | _=>false)
 | .a l,t=>(match P.underlying t with | some (.struct fs)=>mU P l (fs.toList.map (·.type)) | some (.array n u)=>mU P l (replicate n u) | _=>false)
def mU (P:Program):List DS→List TypeId→Bool
 | [],[]=>true
 | d::l,t::r=>jP P d t&&mU P l r
 | _,_=>false
end
theorem K1 (P:Program):∀ (l:List DS) (ts:List TypeId),mU P l ts=true→l.length=ts.length
 | [],[],_=>rfl
 | _::l,_::r,h=>by unfold mU at h;simp only [bO] at h;simp [K1 P l r h.2]
 | [],_::_,h=>by unfold mU at h;cases h
 | _::_,[],h=>by unfold mU at h;cases h
theorem K2 (P:Program):∀ (l:List DS) (ts:List TypeId),mU P l ts=true→∀ (j:Nat) d t,l[j]?=some d→ts[j]?=some t→jP P d t=true
 | [],[],_,_,_,_,h,_=>by simp at h
 | d::l,t::r,h,0,d',t',h1,h2=>by unfold mU at h;simp only [bO] at h;simp only [Hy,bZ] at h1 h2;subst h1;subst h2;exact h.1
 | d::l,t::r,h,j+1,d',t',h1,h2=>by unfold mU at h;simp only [bO] at h;exact K2 P l r h.2 j d' t' (by simpa using h1) (by simpa using h2)
 | [],_::_,h,_,_,_,_,_=>by unfold mU at h;cases h
 | _::_,[],h,_,_,_,_,_=>by unfold mU at h;cases h
section
variable {H:Type} {enc:TypeId×Value→H} {P:Program} {w:World} {I:Nat→Prop}
theorem yIk {l1 l2:List PV} {v1 v2:List Value} (h1:yaY I w l1 v1) (h2:yaY I w l2 v2):yaY I w (l1++l2) (v1++v2):=Py h1 h2
def yPR (enc:TypeId×Value→H) (P:Program) (w:World) (I:Nat→Prop) (n:Nat):Prop:=
 ∀ (d:DS) (t:TypeId) (cs:List Value) (x:DataW H×List MemPlace),t<P.types.size→jP P d t=true→DataW.trod enc P w 0 (fun _=>true) true n t cs=some x→(∀ p∈x.2,I p.block)→∃ pcs,HasF d pcs∧yaY I w pcs cs
theorem K3 {n:Nat} (ih:yPR enc P w I n) {l:List DS} {ts:List TypeId} (hl:mU P l ts=true) (hrow:∀ t∈ts,t<P.types.size) {cs:List Value} {xs:List (DataW H×List MemPlace)} (off:Nat→Nat)
  (hoff:∀ j t,ts[j]?=some t→off (j+1)=off j+P.cellsOf t) (hend:cs.length≤off ts.length) (hx:∀ j t,ts[j]?=some t→DataW.trod enc P w 0 (fun _=>true) true n t ((cs.drop (off j)).take (P.cellsOf t))=xs[j]?)
  (hxl:xs.length=ts.length) (hI:∀ p∈xs.flatMap (·.2),I p.block) :
  ∀ (r j:Nat),j+r=ts.length→∃ pcs,HasL (l.drop j) pcs∧yaY I w pcs (cs.drop (off j)):=by
 have hll:=K1 P l ts hl;intro r;induction r with
 | zero=>
  intro j hj;refine ⟨[],?_,?_⟩
  ·rw [nF (by omega)];simp only [HasL]
  ·rw [nF (by rw [show j=ts.length by omega];exact hend)];simp only [yaY]
 | succ r ihr=>
  intro j hj;obtain ⟨pcs,h1,h2⟩:=ihr (j+1) (by omega);have ht:ts[j]?=some ts[j]:=bY (by omega);have hd:l[j]?=some l[j]:=bY (by omega);have hxj:xs[j]?=some xs[j]:=bY (by omega);have h:=hx j _ ht;rw [hxj] at h;obtain ⟨pc,k1,k2⟩:=ih l[j] ts[j] _ _ (hrow _ (kQ _)) (K2 P l ts hl j _ _ hd ht) h (fun p hp=>hI p (List.mem_flatMap.2 ⟨xs[j],kQ _,hp⟩));refine ⟨pc++pcs,?_,?_⟩
  ·rw [List.drop_eq_getElem_cons (by omega)];simp only [HasL];exact ⟨pc,pcs,rfl,k1,h1⟩
  ·have e:cs.drop (off j)=(cs.drop (off j)).take (P.cellsOf ts[j])++cs.drop (off (j+1)):=by
    rw [hoff j _ ht,← List.drop_drop,List.take_append_drop]
   rw [e];exact yIk k2 h2
theorem yQt {d:DS} {pcs:List PV} (h:HasF d pcs):∃ x:PV,x.isAgg=d.isA∧x.cells=pcs∧∀ vs,yaY I w pcs vs→RC I w x vs:=by
 have one:∀ y:PV,y.isAgg=false→pcs=[y]→d.isA=false→∃ x:PV,x.isAgg=d.isA∧x.cells=pcs∧∀ vs,yaY I w pcs vs→RC I w x vs:=by
  intro y hy e hd;refine ⟨y,hy.trans hd.symm,?_,?_⟩
  ·subst e;cases y<;>first | rfl | cases hy
  ·intro vs hv;subst e;simp only [yaY] at hv;obtain ⟨v,vr,rfl,_,h1,rfl⟩:=hv;exact h1
 cases d with
 | b=>simp only [HasF] at h;obtain ⟨x,e⟩:=h;exact one _ rfl e rfl
 | i k=>simp only [HasF] at h;obtain ⟨x,e,_⟩:=h;exact one _ rfl e rfl
 | s e=>simp only [HasF] at h;obtain ⟨x,e,_⟩:=h;exact one _ rfl e rfl
 | a l=>exact ⟨.agg pcs,rfl,rfl,fun vs hv=>by simp only [RC];exact hv⟩
theorem yIl (K:Kids P (·<P.types.size)):∀ n,yPR enc P w I n:=by
 intro n;induction n with
 | zero=>intro d t cs x _ _ h;simp [DataW.trod] at h
 | succ n ih=>
  intro d t cs x hrow hty h hI
  cases d with
  | b=>
   unfold jP at hty;split at hty
   ·rename_i ht;obtain ⟨b,rfl,_⟩:=DataW.trod_bool ht h;refine ⟨[.bool b],by simp only [HasF];exact ⟨b,rfl⟩,?_⟩;simp only [yaY,RC];exact ⟨_,_,rfl,rfl,rfl,rfl⟩
   ·cases hty
  | i k=>
   unfold jP at hty;split at hty
   ·rename_i q ht;simp only [decide_eq_true_eq] at hty;subst hty;obtain ⟨m,rfl,_,hw⟩:=DataW.trod_int ht h;have hk:jI q m:=by
     unfold jI;simpa [Lit.wf] using hw
    refine ⟨[.int q m],by simp only [HasF];exact ⟨m,rfl,hk⟩,?_⟩;simp only [yaY,RC];exact ⟨_,_,rfl,rfl,⟨rfl,hk⟩,rfl⟩
   ·cases hty
  | s e=>
   unfold jP at hty;split at hty
   ·rename_i u ht;simp only [bO,decide_eq_true_eq] at hty;obtain ⟨hpos,hty⟩:=hty;rcases DataW.trod_slice ht h with ⟨rfl,_⟩ | ⟨a,len,cap,elems,rest,m,hm,rfl,rfl,_,hle,hcap,hlen,hel,_⟩
    ·refine ⟨[.data []],?_,?_⟩
     ·simp only [HasF];exact ⟨[],rfl,by simp,by simp⟩
     ·simp only [yaY,RC];exact ⟨_,_,rfl,rfl,⟨none,0,0,rfl,rfl,by omega,by decide,by simp⟩,rfl⟩
    ·have hmn:m=n:=by omega
     subst hmn;have hru:=K.slice hrow ht;have hspot0:len≠0→a.spot=none:=by
      intro h0;have hb:=hel 0 (by omega);rw [bY (by omega)] at hb;obtain ⟨cs',hc,hy⟩:=Hx.1 hb;obtain ⟨_,hcl,hcg⟩:=World.cells?_some hc;have h0:=hcg 0 hpos;rw [bY (by omega)] at h0;have e0:(a.add (0*P.cellsOf u)).add 0=a:=by simp [Addr.add]
      rw [e0] at h0;unfold World.cell? at h0;split at h0
      ·split at h0
       ·cases h0
       ·rename_i hs;simpa using hs
      ·cases h0
     have hadd:a.spot=none→∀ k i:Nat,(a.add k).add i=⟨a.block,a.off+k+i,none⟩:=by
      intro hs k i;obtain ⟨ab,ao,az⟩:=a;simp only at hs;subst hs;simp only [Addr.add]
      by_cases h1:k=0<;>by_cases h2:i=0<;>simp [h1,h2,wM]
     have yiu:∀ (r j:Nat),j+r=len→∃ rows:List PV,rows.length=r∧(∀ x∈rows,x.isAgg=e.isA∧HasF e x.cells)∧(r≠0→a.spot=none∧I a.block)∧eO I w rows (P.cellsOf u) a.block (a.off+j*P.cellsOf u):=by
      intro r;induction r with
      | zero=>intro j _;exact ⟨[],rfl,by simp,fun h=>absurd rfl h,by simp only [eO]⟩
      | succ r ihr=>
       intro j hj;obtain ⟨rows,l1,l2,_,l4⟩:=ihr (j+1) (by omega);have hj2:j<elems.length:=by omega
       have hb:=hel j (by omega);rw [bY hj2] at hb;obtain ⟨cs',hc,hy⟩:=Hx.1 hb;obtain ⟨_,hcl,hcg⟩:=World.cells?_some hc;obtain ⟨pcs,k1,k2⟩:=ih e u cs' _ hru hty hy (fun p hp=>hI p (by
        simp only [qA3,List.mem_flatMap];exact .inr ⟨elems[j],.inl (kQ _),hp⟩))
       obtain ⟨x,x1,x2,x3⟩:=yQt (I:=I) (w:=w) k1;have hspot:=hspot0 (by omega);have hIa:I a.block:=hI (.cell a.block a.off) (by
        simp only [qA3];left;exact MemPlace.mem_row.2 ⟨0,Nat.mul_pos (by omega) hpos,rfl⟩)
       refine ⟨x::rows,by simp [l1],?_,fun _=>⟨hspot,hIa⟩,?_⟩
       ·intro y hy;rcases qAn.1 hy with rfl | hy
        ·exact ⟨x1,by rw [x2];exact k1⟩
        ·exact l2 y hy
       ·simp only [eO];refine ⟨⟨cs',hcl,x3 _ k2,?_⟩,?_⟩
        ·intro i v hi;have hi2:i<P.cellsOf u:=by rw [← hcl];exact (AL.1 hi).1
         have:=hcg i hi2;rw [hi] at this;rw [← this,hadd hspot]
        ·rw [wM,show j*P.cellsOf u+P.cellsOf u=(j+1)*P.cellsOf u by rw [dG,jL]];exact l4
     obtain ⟨rows,l1,l2,l3,l4⟩:=yiu len 0 (by omega);refine ⟨[.data rows],?_,?_⟩
     ·simp only [HasF];exact ⟨rows,rfl,by omega,l2⟩
     ·simp only [yaY,RC];refine ⟨_,_,rfl,rfl,⟨some a,len,cap,rfl,l1.symm,hle,hcap,?_⟩,rfl⟩
      by_cases h0:len=0
      ·left;exact lU (by omega)
      ·right;obtain ⟨hs,hIa⟩:=l3 h0;refine ⟨a.block,a.off,P.cellsOf u,?_,hIa,hpos,by simpa using l4⟩
       cases a;simp only at hs;subst hs;rfl
   ·cases hty
  | a l=>
   unfold jP at hty;split at hty
   ·rename_i fs ht;obtain ⟨xs,m,hm,rfl,hcl,hxl,hxs⟩:=DataW.trod_struct ht h;have hmn:m=n:=by omega
    subst hmn;obtain ⟨k1,k2,k3⟩:=K.struct hrow ht;have:=K3 ih (l:=l) (ts:=fs.toList.map (·.type)) hty (fun t ht=>by obtain ⟨f,hf,rfl⟩:=oI.1 ht;exact k1 f hf) (cs:=cs) (xs:=xs) (fun j=>((fs.toList.take j).map fun f=>P.cellsOf f.type).sum)
     (fun j t hj=>by
      rw [lK,qC] at hj;obtain ⟨f,hf,rfl⟩:=hj;obtain ⟨hlt,hf2⟩:=AL.1 hf;show ((fs.toList.take (j+1)).map _).sum=_;rw [List.take_add_one,hf];simp)
     (by simp only [dS,yF];rw [hcl,k2];exact bX _)
     (fun j t hj=>by
      rw [lK,qC] at hj;obtain ⟨f,hf,rfl⟩:=hj;have:=hxs j f (by simpa using hf);rw [← this,k3 j f hf])
     (by simp [hxl]) hI (fs.toList.map (·.type)).length 0 (by omega)
    obtain ⟨pcs,p1,p2⟩:=this;exact ⟨pcs,by simp only [HasF];exact p1,by simpa using p2⟩
   ·rename_i q u ht;obtain ⟨xs,m,hm,rfl,hcl,hxl,hxs⟩:=DataW.trod_array ht h;have hmn:m=n:=by omega
    subst hmn;obtain ⟨k1,k2⟩:=K.array hrow ht;have:=K3 ih (l:=l) (ts:=replicate q u) hty (fun t ht=>by rw [(List.mem_replicate.1 ht).2];exact k1) (cs:=cs) (xs:=xs) (fun j=>j*P.cellsOf u)
     (fun j t hj=>by
      have:t=u:=(List.mem_replicate.1 (List.mem_of_getElem? hj)).2;subst this;show (j+1)*_=_;rw [dG,jL])
     (by rw [qE,hcl,k2];exact bX _)
     (fun j t hj=>by
      have e:t=u:=(List.mem_replicate.1 (List.mem_of_getElem? hj)).2;subst e;have hlt:j<q:=by have:=(AL.1 hj).1;simpa using this
      exact hxs j hlt)
     (by simp [hxl]) hI (replicate q u).length 0 (by omega)
    obtain ⟨pcs,p1,p2⟩:=this;exact ⟨pcs,by simp only [HasF];exact p1,by simpa using p2⟩
   ·cases hty
end
end Go.Pf
namespace Go.Pf
open Go Go.ChangeShapes Go.WideShapes Go.ChangeAt Go.RowKit
def yva:List DS→List PV→Prop
 | [],az=>az=[]
 | d::l,az=>∃ x r,az=x::r∧x.isAgg=d.isA∧HasF d x.cells∧yva l r
section
variable {H:Type} {enc:TypeId×Value→H} {P:Program}
theorem yMv (K:Kids P (·<P.types.size)) {w:World} {I:Nat→Prop} {base:Nat} {d:DS} {t:TypeId} {v:Value} {x:DataW H} {p:List MemPlace} (hrow:t<P.types.size) (hty:jP P d t=true)
  (hval:Value.okWide P w .any base t v) (h:DataW.Trod enc P w 0 (fun _=>true) true t v x p) (hI:∀ q∈p,I q.block) :
  ∃ y:PV,y.isAgg=d.isA∧HasF d y.cells∧fH I w y v:=by
 obtain ⟨n,hn⟩:=h;obtain ⟨pcs,h1,h2⟩:=yIl (I:=I) K n d t _ _ hrow hty hn hI;have single:∀ y:PV,pcs=[y]→y.isAgg=false→d.isA=false→v.cells.toList=[v]→∃ y:PV,y.isAgg=d.isA∧HasF d y.cells∧fH I w y v:=by
  intro y e hy hd hv;subst e;refine ⟨y,hy.trans hd.symm,?_,?_⟩
  ·have:y.cells=[y]:=by cases y<;>first | rfl | cases hy
   rw [this];exact h1
  ·rw [hv] at h2;simp only [yaY] at h2;obtain ⟨u,vr,e,_,h3,h4⟩:=h2;simp only [kW] at e;obtain ⟨rfl,_⟩:=e
   cases y<;>first | exact h3 | (simp only [RC] at h3;done) | (simp only [fH];exact h3) | cases hy
 cases d with
 | b=>
  unfold jP at hty;split at hty
  ·rename_i ht;obtain ⟨b,rfl⟩:=okWide_bool ht hval;simp only [HasF] at h1;obtain ⟨z,e⟩:=h1;exact single _ e rfl rfl rfl
  ·cases hty
 | i k=>
  unfold jP at hty;split at hty
  ·rename_i q ht;obtain ⟨m,rfl⟩:=okWide_int ht hval;simp only [HasF] at h1;obtain ⟨z,e,_⟩:=h1;exact single _ e rfl rfl rfl
  ·cases hty
 | s e=>
  unfold jP at hty;split at hty
  ·rename_i u ht;obtain ⟨a,len,cap,rfl⟩:=okWide_slice ht hval;simp only [HasF] at h1;obtain ⟨z,e,_⟩:=h1;exact single _ e rfl rfl rfl
  ·cases hty
 | a l=>
  have key:∀ cs,v=.agg cs→∃ y:PV,y.isAgg=(DS.a l).isA∧HasF (DS.a l) y.cells∧fH I w y v:=by rintro cs rfl;refine ⟨.agg pcs,rfl,h1,?_⟩;simp only [fH];exact ⟨cs.toList,rfl,h2⟩
  unfold jP at hty;split at hty
  ·rename_i fs ht;obtain ⟨cs,e,_⟩:=okWide_struct ht hval;exact key cs e
  ·rename_i q u ht;have hval2:=hval;unfold Value.okWide at hval2;rw [ht] at hval2;obtain ⟨cs,e,_⟩:=hval2;exact key cs e
  ·cases hty
theorem K4 (K:Kids P (·<P.types.size)) {w:World} {I:Nat→Prop} {base:Nat}:∀ (ts:List TypeId) (dss:List DS) (vs:List Value) (xs:List (DataW H)) (p:List MemPlace),mU P dss ts=true→(∀ t∈ts,t<P.types.size) →
  (∀ (j:Nat) t v,ts[j]?=some t→vs[j]?=some v→Value.okWide P w .any base t v)→DataW.TrodAll enc P w 0 (fun _=>true) true ts vs xs p→(∀ q∈p,I q.block)→∃ az,yva dss az∧gS I w az vs
 | [],[],[],[],p,_,_,_,_,_=>⟨[],by simp only [yva],by simp only [gS]⟩
 | t::ts,d::dss,v::vs,x::xs,p,hty,hrow,hval,h,hI=>by
  unfold mU at hty;simp only [bO] at hty;obtain ⟨p1,q,h1,h2,rfl⟩:=h;obtain ⟨y,y1,y2,y3⟩:=yMv K (hrow t (eU ..)) hty.1 (hval 0 t v rfl rfl) h1 (fun z hz=>hI z (List.mem_append_left _ hz));obtain ⟨az,a1,a2⟩:=K4 K ts dss vs xs q hty.2 (fun u hu=>hrow u (eF _ hu)) (fun j u z hj hz=>hval (j+1) u z hj hz) h2 (fun z hz=>hI z (List.mem_append_right _ hz));refine ⟨y::az,?_,?_⟩
  ·simp only [yva];exact ⟨y,az,rfl,y1,y2,a1⟩
  ·simp only [gS];exact ⟨v,vs,rfl,y3,a2⟩
 | [],_::_,_,_,_,hty,_,_,_,_=>by unfold mU at hty;cases hty
 | _::_,[],_,_,_,hty,_,_,_,_=>by unfold mU at hty;cases hty
 | [],[],_::_,_,_,_,_,_,h,_=>h.elim
 | [],[],[],_::_,_,_,_,_,h,_=>h.elim
 | _::_,_::_,[],_,_,_,_,_,h,_=>h.elim
 | _::_,_::_,_::_,[],_,_,_,_,h,_=>h.elim
theorem yK2 (K:Kids P (·<P.types.size)) {n:FuncId} {fn:Func} {G:Nat→Option PV} {dss:List DS} {ts:List TypeId} (hty:mU P dss ts=true) (hrow:∀ t∈ts,t<P.types.size)
  (hf : P.funcs[n]? = some fn) (hn : (fn.name == "runtime.NumGoroutine") = false) (hb : fn.body.isSome = true) (hsum : ∀ az, yva dss az → qM P G n az (.bool true))
  {W:World} {base:Nat} {args:Array Value} {ds:List (DataW H)} {p:List MemPlace} {I:Nat→Prop} (hval:∀ (j:Nat) t v,ts[j]?=some t→args.toList[j]?=some v→Value.okWide P W .any base t v)
  (hA:DataW.TrodAll enc P W 0 (fun _=>true) true ts args.toList ds p) (hI:∀ q∈p,I q.block) (himm:∀ b,I b→b<W.heap.size) (hG:PD G I W) :
  Calls P n args W fun e W'=>e=.returned (.bool true)∧Below W.heap.size W W':=by
 obtain ⟨az,a1,a2⟩:=K4 (I:=I) K ts dss args.toList ds p hty hrow hval hA hI;have h:=hsum az a1 I W args.toList himm hG a2;have e:(callFunc n (args.toList).toArray).run P W=.ok (.enter n args) W:=by
  have h1 : fn.name ≠ "runtime.NumGoroutine" := by simpa using hn
  obtain ⟨c,hc⟩:=wI.1 hb;simp [callFunc,hf,h1,hc]
 unfold nG at h;rw [e] at h;refine Calls.mono h fun e w' he=>?_
 cases e with
 | returned v =>obtain ⟨h1,h2⟩:=he;simp only [VP,fH,RC,kW,and_true] at h2;exact ⟨by rw [h2],h1.toBelow⟩
 | panicked ch=>exact he.elim
 | outgrown=>exact he.elim
theorem yIm (K:Kids P (·<P.types.size)) (hz:∀ t e,t<P.types.size→P.underlying t=some (.slice e)→0<P.cellsOf e) {W W':World} (hb:Below W.heap.size W W') {sp:Nat→Bool} :
  ∀ {ts:List TypeId} {vs:List Value} {ds:List (DataW H)} {ps:List MemPlace},(∀ t∈ts,t<P.types.size)→DataW.TrodAll enc P W 0 (fun _=>true) true ts vs ds ps→(∀ p∈ps,p.block<W.heap.size)→(∀ p∈ps,sp p.block=true)→DataW.TrodAll enc P W' 0 sp true ts vs ds ps:=by
 intro ts vs ds ps hT h hlt hs;have carry:∀ {ts:List TypeId} {vs:List Value} {ds:List (DataW H)} {ps:List MemPlace},DataW.TrodAll enc P W 0 (fun _=>true) true ts vs ds ps→(∀ p∈ps,p.block<W.heap.size)→DataW.TrodAll enc P W' 0 (fun _=>true) true ts vs ds ps:=by
  intro ts;induction ts with
  | nil=>
   intro vs ds ps h _
   cases vs with
   | nil=>cases ds with
    | nil=>exact h
    | cons _ _=>exact h.elim
   | cons _ _=>exact h.elim
  | cons t ts ih=>
   intro vs ds ps h hlt
   cases vs with
   | nil=>exact h.elim
   | cons v vs=>cases ds with
    | nil=>exact h.elim
    | cons d ds =>obtain ⟨p,q,⟨n,h1⟩,h2,e⟩:=h;subst e;exact ⟨p,q,⟨n,DataW.trod_carry n _ _ _ h1 (fun x hx=>hb.same (hlt x (List.mem_append_left _ hx)))⟩,ih h2 (fun x hx=>hlt x (List.mem_append_right _ hx)),rfl⟩
 exact DataW.TrodAll.respare K hz hT (carry h hlt) hs
theorem yAZ {f:Func} {s:ChangeSpec} {ykk fresh handsOn again:Bool} {W W':World} {args:Array Value} {v:Value} {ds gs:List (DataW H)} {before pa pv:List MemPlace}
  (hW:DataW.Whole enc P f.params.toList s.vars ykk W args.toList ds gs before)
  (hres:∀ (b:Nat) (sp:Nat→Bool) (hd:Bool),DataW.TrodAll enc P W' b sp hd f.resultTypes.toList (v.resultList f.resultTypes.size) (s.fn H (ds++gs)).results [])
  (hargs:∀ sp:Nat→Bool,(∀ p∈before,sp p.block=true)→DataW.TrodAll enc P W' 0 sp true f.params.toList args.toList (s.fn H (ds++gs)).args pa)
  (hvars:∀ sp:Nat→Bool,(∀ p∈before,sp p.block=true)→DataW.TrodVars enc P W' sp s.vars (s.fn H (ds++gs)).vars pv)
  (hps:before=pa++pv) (hb:Below W.heap.size W W')
  (hok:∀ (j:Nat) (t:TypeId) (r:Value),f.resultTypes[j]?=some t→(v.resultList f.resultTypes.size)[j]?=some r→Value.okWide P W' .any 0 t r) :
  s.post enc P f ykk fresh handsOn again W args v W':=by
 have hlt:∀ p∈before,p.block<W.heap.size:=fun p hp=>hW.lt p hp
 have hold:∀ p∈before,(fun b=>decide (b<W.heap.size)) p.block=true:=fun p hp=>by simpa using hlt p hp
 refine ⟨ds,gs,before,[],pa,pv,hW,hres _ _ _,hargs _ hold,hvars _ hold,World.keptBut_mono (fun p hp=>⟨hp,?_⟩) (hb.frame (·∈before)),fun _=>?_⟩
 ·rw [hps,qA3] at hp;exact Or.inr hp
 ·obtain ⟨_,_,_,_,_,hz,hn⟩:=hW;refine ⟨hok,_,_,([]++pa)++pv,⟨[]++pa,pv,trodAll_append (hargs _ (fun _ _=>rfl)) (hres _ _ _),hvars _ (fun _ _=>rfl),rfl,?_,?_⟩,?_⟩
  ·intro b off hp;have hin:MemPlace.cell b off∈before:=by rw [hps];simpa using hp
   rw [hb.frozen (hlt _ hin)];exact hz b off hin
  ·intro ha;have:=hn ha;rw [hps] at this;simpa using this
  ·intro p hp _;rw [hps];simpa using hp
theorem yMw (K:Kids P (·<P.types.size)) (hz:∀ t e,t<P.types.size→P.underlying t=some (.slice e)→0<P.cellsOf e) {n:FuncId} {fn:Func} {G:Nat→Option PV} {dss:List DS} {s:ChangeSpec} {bt:TypeId}
  (hty : mU P dss fn.params.toList = true) (hrow : ∀ t ∈ fn.params.toList, t < P.types.size) (hf : P.funcs[n]? = some fn) (hn : (fn.name == "runtime.NumGoroutine") = false) (hb : fn.body.isSome = true)
  (hvars:s.vars=[]) (hfn:∀ ds:List (DataW H),ds.length=fn.params.toList.length→s.fn H (ds++[])={ results:=[.lit (.bool true)],args:=ds })
  (hrt:fn.resultTypes.toList=[bt]) (hbt:P.underlying bt=some .bool) (hsum:∀ az,yva dss az→qM P G n az (.bool true)) {ykk fresh handsOn again:Bool}
  {W:World} {base:Nat} {args:Array Value} {ds gs:List (DataW H)} {before:List MemPlace} (hval:∀ (j:Nat) t v,fn.params[j]?=some t→args[j]?=some v→Value.okWide P W .any base t v)
  (hW:DataW.Whole enc P fn.params.toList s.vars ykk W args.toList ds gs before) (J:Nat→Prop) (hJ:∀ b,J b→b<W.heap.size) (hG:PD G (fun b=>(∃ p∈before,p.block=b)∨J b) W) :
  Calls P n args W fun e W'=>∃ v,e=.returned v∧s.post enc P fn ykk fresh handsOn again W args v W':=by
 have hW':=hW;obtain ⟨p,q,hA,hV,hpq,hfz,hnd⟩:=hW;have hlt:∀ x∈before,x.block<W.heap.size:=fun x hx=>hW'.lt x hx
 rw [hvars] at hV;obtain ⟨hgs,hq⟩:=trodVars_none hV;subst hgs;subst hq;rw [yI] at hpq;subst hpq;have hlen:ds.length=fn.params.toList.length:=by
  have len:∀ {ts:List TypeId} {vs:List Value} {xs:List (DataW H)} {ps:List MemPlace},DataW.TrodAll enc P W 0 (fun _=>true) true ts vs xs ps→xs.length=ts.length:=by
   intro ts;induction ts with
   | nil=>
    intro vs xs ps h
    cases vs with
    | nil=>cases xs with
     | nil=>rfl
     | cons _ _=>exact h.elim
    | cons _ _=>exact h.elim
   | cons t ts ih=>
    intro vs xs ps h
    cases vs with
    | nil=>exact h.elim
    | cons v vs=>cases xs with
     | nil=>exact h.elim
     | cons x xs =>obtain ⟨_,_,_,h2,_⟩:=h;simp [ih h2]
  exact len hA
 have hc:=yK2 (I:=fun b=>(∃ x∈before,x.block=b)∨J b) K hty hrow hf hn hb hsum (W:=W) (base:=base) (args:=args) (fun j t v h1 h2=>hval j t v (by simpa using h1) (by simpa using h2)) hA (fun x hx=>.inl ⟨x,hx,rfl⟩)
  (fun b hb=>by
   rcases hb with ⟨x,hx,rfl⟩|hb
   ·exact hlt x hx
   ·exact hJ b hb) hG
 refine hc.mono fun e W' ⟨he,hg⟩=>?_
 subst he;have hrs:fn.resultTypes=#[bt]:=by rw [← sK];exact hrt
 refine ⟨_,rfl,yAZ (pa:=before) (pv:=[]) hW' ?_ ?_ ?_ (by simp) hg ?_⟩
 ·intro b sp hd;rw [hfn ds hlen,hrs];exact trodAll_mk1 (shut_bool hbt true)
 ·intro sp hs;rw [hfn ds hlen];exact yIm K hz hg hrow hA hlt hs
 ·intro sp hs;rw [hfn ds hlen,hvars];rfl
 ·intro j t r h1 h2;rw [hrs] at h1 h2;have hj:j=0:=by
   rcases j with _|j
   ·rfl
   ·simp at h1
  subst hj;simp at h1;subst h1;have:r=.bool true:=by
   have h3:((Value.bool true).resultList (#[bt]:Array TypeId).size)[0]?=some (.bool true):=rfl;rw [h3] at h2;exact (AS h2).symm
  subst this;exact okWide_bool_mk hbt true
end
end Go.Pf
namespace Go.Pf
open Go
def Fb:PV→Value
 | .int k n=>.int k n
 | _=>.bool false
def gO:List IntKind→List PV→Bool
 | [],[]=>true
 | k::ks,.int q n::r=>decide (q=k)&&(decide (k.min≤n)&&(decide (n≤k.max)&&gO ks r))
 | _,_=>false
def Fd (ks:List IntKind):PV→Bool
 | .agg cs=>gO ks cs
 | _=>false
def uR (x:PV):List Value:=x.cells.map Fb
structure Srt where
 n:Nat
 g:Nat
 ks:List IntKind
 good:PV→Bool
 z:PV
def Srt.gd (s:Srt) (x:PV):Bool:=Fd s.ks x&&s.good x
abbrev Srt.El (s:Srt):Type:={x:PV // s.gd x=true}
def Srt.enc (s:Srt) (x:s.El):List Value:=uR x.1
def Srt.rows? (s:Srt):List PV→Option (List s.El)
 | []=>some []
 | x::r=>if h:s.gd x=true then (match s.rows? r with | some l=>some (⟨x,h⟩::l) | none=>none) else none
theorem Srt.rows?_val {s:Srt}:∀ {l:List PV} {d:List s.El},s.rows? l=some d→d.map (·.1)=l
 | [],d,h=>by simp only [Srt.rows?] at h;cases h;rfl
 | x::r,d,h=>by
  simp only [Srt.rows?] at h;split at h
  ·split at h
   ·rename_i l hl
    cases h
    rw [nM,Srt.rows?_val hl]
   ·cases h
  ·cases h
def Srt.sorted (s:Srt) (srt:Array s.El→Array s.El) (l:List PV):List PV:=
 match s.rows? l with
 | some d=>(srt d.toArray).toList.map (·.1)
 | none=>l
def Srt.cond (s:Srt) (rows:List PV) (lo len ext esz:Nat) (fz:Bool):Bool:=
 decide (rows.length=ext)&&(decide (lo+len≤ext)&&(decide (0<len)&&(decide (esz=s.ks.length)&&(!fz&&(decide (len<4611686018427387904)&&(s.rows? ((rows.drop lo).take len)).isSome)))))
def Iw (s:Srt) (srt:Array s.El→Array s.El) (n:Nat) (xs:List PV) (H:Hp):Option (Bool×Bool×(PV×Hp)×(PV×Hp)):=
 bif Nat.beq n s.n then
  (match xs with
   | [.own id lo len ext _,.fn (.func g) [] []]=>
    bif Nat.beq g s.g then
     (match H[id]? with
      | some b=>some (s.cond b.rows lo len ext b.esz b.fz,true,(.tup [],H.set id { b with rows:=b.rows.take lo++(s.sorted srt ((b.rows.drop lo).take len)++b.rows.drop (lo+len)) }),(.nils,[]))
      | none=>none)
    else none
   | [.nils,.fn (.func g) [] []]=>bif Nat.beq g s.g then some (true,true,(.tup [],H),(.nils,[])) else none
   | [.emp,.fn (.func g) [] []]=>bif Nat.beq g s.g then some (true,true,(.tup [],H),(.nils,[])) else none
   | _=>none)
 else none
theorem yMx {s:Srt} {srt:Array s.El→Array s.El} {n:Nat} {xs:List PV} {H:Hp} {x:Bool×Bool×(PV×Hp)×(PV×Hp)} (h:Iw s srt n xs H=some x):n=s.n:=by
 unfold Iw at h
 cases hb:Nat.beq n s.n with
 | true=>exact gA hb
 | false=>rw [hb] at h;cases h
structure Srts where
 s:Srt
 cf:s.El→s.El→Int
def Srts.srt (s:Srts) [Inhabited s.s.El] (d:Array s.s.El):Array s.s.El:=Go.Sort.pdq (fun x y=>decide (s.cf x y<0)) d 0 d.size (Go.Lib.bitLen d.size) true true
abbrev iR:Type:=Nat→List PV→Hp→Option (Bool×Bool×(PV×Hp)×(PV×Hp))
def zH:List (Nat×iR)→iR
 | [],_,_,_=>none
 | (k,e)::r,n,xs,H=>bif Nat.beq n k then (match e n xs H with | some x=>some x | none=>zH r n xs H) else zH r n xs H
theorem K5:∀ {l:List (Nat×iR)} {n:Nat} {xs:List PV} {H:Hp} {x:Bool×Bool×(PV×Hp)×(PV×Hp)},zH l n xs H=some x→∃ e∈l,n=e.1
 | [],_,_,_,_,h=>by cases h
 | (k,e)::r,n,xs,H,x,h=>by
  simp only [zH] at h
  cases hb:Nat.beq n k with
  | true=>exact ⟨(k,e),eU,gA hb⟩
  | false =>rw [hb,cond_false] at h;obtain ⟨e2,h1,h2⟩:=K5 h;exact ⟨e2,eF _ h1,h2⟩
theorem Qy {P:Program} {E:Env}:∀ {l:List (Nat×iR)},(∀ e∈l,ybr P E (fun n xs H=>uB (e.2 n xs H)))→ybr P E (fun n xs H=>uB (zH l n xs H))
 | [],_=>fun _ _ _ _ _ h=>by cases h
 | (k,e)::r,h=>by
  intro f args H q H' hc;dsimp only [zH] at hc
  cases hb:Nat.beq f k with
  | false =>rw [hb,cond_false] at hc;exact Qy (fun e2 h2=>h e2 (eF _ h2)) f args H q H' hc
  | true=>
   rw [hb,cond_true] at hc
   cases he:e f args H with
   | some x =>rw [he] at hc;refine h (k,e) eU f args H q H' ?_;dsimp only;rw [he];exact hc
   | none =>rw [he] at hc;exact Qy (fun e2 h2=>h e2 (eF _ h2)) f args H q H' hc
def xB (add sub:Nat) (tab:List (Nat×AFn)) (qui:List Nat) (cl:pI) (gl:List (Nat×PV)) (ef:List (Nat×iR)):Env:={ uP add sub tab qui cl gl with eff:=zH ef }
theorem dC {add sub:Nat} {tab:List (Nat×AFn)} {qui:List Nat} {cl:pI} {gl:List (Nat×PV)} {ef:List (Nat×iR)} {n:Nat} (h:Iv add sub cl n=false) (xs:List PV):(xB add sub tab qui cl gl ef).sum n xs=none:=yIj (tab:=tab) (qui:=qui) (gl:=gl) h xs
theorem yK3 {add sub:Nat} {tab:List (Nat×AFn)} {qui:List Nat} {cl:pI} {gl:List (Nat×PV)} {ef:List (Nat×iR)} (h:(ef.all fun e=>!memN qui e.1&&(!Iv add sub cl e.1&&!memN qui (e.1+3000000)))=true):LT (xB add sub tab qui cl gl ef):=by intro n xs H x hx;obtain ⟨e,h1,rfl⟩:=K5 hx;have h2:=sL.1 h e h1;simp only [bO,nL] at h2;exact ⟨h2.1,rfl,fun xs=>dC (tab:=tab) (qui:=qui) (gl:=gl) (ef:=ef) h2.2.1 xs,h2.2.2⟩
theorem K6 {P:Program} {add sub:Nat} {tab:List (Nat×AFn)} {qui:List Nat} {cl:pI} {gl:List (Nat×PV)} {ef:List (Nat×iR)} (h:EO P (uP add sub tab qui cl gl))
  (hs:∀ e∈ef,∀ y,ybr P ((uP add sub tab qui cl gl).ats y) (fun n xs H=>uB (e.2 n xs H))):EO P (xB add sub tab qui cl gl ef) where
 sum:=h.sum
 fns:=h.fns
 eff:=EO.eff' (E:=uP add sub tab qui cl gl) (E':=xB add sub tab qui cl gl ef) rfl rfl rfl fun y _=>Qy fun e he=>hs e he y
 dn:=h.dn
 top:=h.top
 yl:=h.yl' (E':=xB add sub tab qui cl gl ef) rfl rfl rfl rfl
end Go.Pf
namespace Go.Pf
abbrev lt {α:Type} (x:α) (f:α→Prop):Prop:=f x
abbrev jn {α:Type} (f:α→Prop) (k:α):Prop:=f k
def LY (n d:Int):Bool:=decide (1≤d)&&(decide (d≤1000000000000000000)&&(decide (-1000000000000000000≤n)&&(decide (n≤1000000000000000000)&&decide (Nat.gcd n.natAbs d.natAbs=1))))
def mV (a b c d:Int):Int:=if a*d<c*b then -1 else if c*b<a*d then 1 else 0
def CL:PV→Bool
 | .agg [.int _ a,.int _ b,_,_]=>LY a b
 | _=>false
def yQu:PV→Bool
 | .agg [.int _ a,.int _ b]=>LY a b
 | _=>false
def tA:PV→PV→Int
 | .agg [.int _ a,.int _ b,_,_],.agg [.int _ c,.int _ d,_,_]=>mV a b c d
 | _,_=>0
def yRL:PV→PV→Int
 | .agg [.int _ a,.int _ b],.agg [.int _ c,.int _ d]=>mV a b c d
 | _,_=>0
def qN (n g:Nat):Srts:=⟨⟨n,g,[.i64,.i64,.i64,.i64],CL,.agg [.int .i64 0,.int .i64 1,.int .i64 0,.int .i64 1]⟩,fun x y=>tA x.1 y.1⟩
def yRM (n g:Nat):Srts:=⟨⟨n,g,[.i64,.i64],yQu,.agg [.int .i64 0,.int .i64 1]⟩,fun x y=>yRL x.1 y.1⟩
instance (n g:Nat):Inhabited (qN n g).s.El:=⟨⟨.agg [.int .i64 0,.int .i64 1,.int .i64 0,.int .i64 1],rfl⟩⟩
instance (n g:Nat):Inhabited (yRM n g).s.El:=⟨⟨.agg [.int .i64 0,.int .i64 1],rfl⟩⟩
theorem K7 {n:Nat} {xs:List PV} {H:Hp}:∀ {l:List (Nat×iR)},memN (l.map (·.1)) n=false→zH l n xs H=none
 | [],_=>rfl
 | (k,e)::r,h=>by
  simp only [nM,memN] at h;simp only [zH]
  cases hb:Nat.beq k n with
  | true=>rw [hb] at h;cases h
  | false=>
   rw [hb,cond_false] at h;have hb2:Nat.beq n k=false:=by
    cases hc:Nat.beq n k with
    | false=>rfl
    | true=>
     have:=gA hc;subst this;rw [Nat.beq_refl] at hb
     cases hb
   rw [hb2,cond_false];exact K7 h
structure EffG (E:List (Nat×iR)→Env) (nums:List Nat) (e:List (Nat×iR)):Prop where
 ok:LT (E e)
 num:∀ n,memN nums n=false→∀ xs H,(E e).eff n xs H=none
theorem yK4 {add sub:Nat} {tab:List (Nat×AFn)} {qui:List Nat} {cl:pI} {gl:List (Nat×PV)} {ef:List (Nat×iR)}:∀ az K,ys3 az K→∃ r,K r∧Ans (xB add sub tab qui cl gl ef) add az r:=by
 intro az K h;unfold ys3 Qv at h;split at h
 ·rename_i a b c;obtain ⟨h1,h⟩:=bP.1 h;have h1:c.toNat≤1:=by simpa using h1
  refine ⟨_,h,0,fun k e m _ hl _=>?_⟩;have hl:=(xA hl).2.1;have e0:sumC add sub add [.int .u64 a,.int .u64 b,.int .u64 c]=some (.tup [u6 ((a.toNat+b.toNat+c.toNat)%18446744073709551616),u6 ((a.toNat+b.toNat+c.toNat)/18446744073709551616)]):=by
   simp only [sumC,Nat.beq_refl,jK,Eh h1,cond_true]
  simp only [ybu,hl,xB,uP,e0,u6]
 ·exact h.elim
theorem yK5 {add sub:Nat} (hne:Nat.beq sub add=false) {tab:List (Nat×AFn)} {qui:List Nat} {cl:pI} {gl:List (Nat×PV)} {ef:List (Nat×iR)}:∀ az K,ys5 az K→∃ r,K r∧Ans (xB add sub tab qui cl gl ef) sub az r:=by
 intro az K h;unfold ys5 Qw at h;split at h
 ·rename_i a b c;obtain ⟨h1,h⟩:=bP.1 h;have h1:c.toNat≤1:=by simpa using h1
  refine ⟨_,h,0,fun k e m _ hl _=>?_⟩;have hl:=(xA hl).2.1;have e0:sumC add sub sub [.int .u64 a,.int .u64 b,.int .u64 c]=some (.tup [u6 ((a.toNat+18446744073709551616-b.toNat-c.toNat)%18446744073709551616),u6 (bif Nat.ble (b.toNat+c.toNat) a.toNat then 0 else 1)]):=by
   simp only [sumC,hne,Nat.beq_refl,jK,kU,Eh h1,cond_true,cond_false]
  simp only [ybu,hl,xB,uP,e0,u6]
 ·exact h.elim
end Go.Pf
namespace Go.Pf
open Go Go.Sort
theorem Srts.sorted_is (S:Srts) [Inhabited S.s.El] (h:SWO (fun x y=>decide (S.cf x y<0))) {rows:List PV} {d:List S.s.El} (hd:S.s.rows? rows=some d) :
  ∃ d':List S.s.El,d'.Perm d∧d'.Pairwise (fun x y=>¬S.cf y x<0)∧Srt.sorted S.s S.srt rows=d'.map (·.1):=by
 have e:Srt.sorted S.s S.srt rows=(S.srt d.toArray).toList.map (·.1):=by unfold Srt.sorted;rw [hd]
 obtain ⟨⟨h1,_,h3⟩,h4⟩:=pdq_sorts _ h d.toArray 0 d.toArray.size (Go.Lib.bitLen d.toArray.size) true true (iL _) (bX _) (Or.inl rfl);refine ⟨(S.srt d.toArray).toList,?_,?_,e⟩
 ·have h5:(S.srt d.toArray).size=d.toArray.size:=h1;have e1:(S.srt d.toArray).extract 0 d.toArray.size=S.srt d.toArray:=by rw [← h5];exact Array.extract_size
  have e2:d.toArray.extract 0 d.toArray.size=d.toArray:=Array.extract_size;have h6:((S.srt d.toArray).extract 0 d.toArray.size).toList.Perm (d.toArray.extract 0 d.toArray.size).toList:=h3;rw [e1,e2] at h6;simpa using h6
 ·have h5:(S.srt d.toArray).size=d.toArray.size:=h1;rw [List.pairwise_iff_getElem];intro i j hi hj hij hlt;rw [AQ] at hi hj;have h6:SortedIn (fun x y=>decide (S.cf x y<0)) 0 d.toArray.size (S.srt d.toArray):=h4;have:=h6 i j (iL _) hij (by rw [← h5];exact hj);rw [getElem!_pos (S.srt d.toArray) i hi,getElem!_pos (S.srt d.toArray) j hj] at this;simp only [Array.getElem_toList] at hlt;simp [hlt] at this
end Go.Pf
namespace Go.Pf
abbrev Es:Type:=List (Nat×iR)
def LZ:Option Bool→Prop | none=>True | some b=>b=true
def Ix:Option Bool→Prop→Prop | none,x=>x | some b,x=>asr b x
theorem Ma {g:Option Bool} {x:Prop}:Ix g x↔LZ g∧x:=by cases g<;>simp [Ix,LZ,bP]
def blen (H:Hp) (id:Nat):Nat:=match H[id]? with | some b=>b.rows.length | none=>0
structure Pat (α:Type) where
 T:Type
 A:Type→Type
 app:{R:Type}→A R→T→R
 of:(Nat→Nat)→T→α
 get:(Nat→Nat)→α→Option Bool→Option (T×Option Bool)
 inv:∀ {H x g t g'},get H x g=some (t,g')→LZ g'→LZ g∧x=of H t
section
variable {α β:Type}
def Iy:Pat α:=⟨α,fun R=>α→R,fun g t=>g t,fun _ t=>t,fun _ x g=>some (x,g),fun h k=>by cases h;exact ⟨k,rfl⟩⟩
def uS (c:α) (f:α→Bool) (h:∀ x,f x=true→x=c):Pat α:=
 ⟨Unit,fun R=>R,fun g _=>g,fun _ _=>c,fun _ x g=>bif f x then some ((),g) else none,fun {H x g t g'} e k=>by
  cases hf:f x with
  | true=>rw [hf] at e;cases e;exact ⟨k,h _ hf⟩
  | false=>rw [hf] at e;cases e⟩
def jQ (m:β→α) (s:α→Option β) (h:∀ x b,s x=some b→x=m b) (p:Pat β):Pat α:=
 ⟨p.T,p.A,p.app,fun H t=>m (p.of H t),fun H x g=>match s x with | none=>none | some b=>p.get H b g,fun {H x g t g'} e k=>by
  cases hs:s x with
  | none=>rw [hs] at e;cases e
  | some b=>
   rw [hs] at e;obtain ⟨h1,h2⟩:=p.inv e k;exact ⟨h1,by rw [h _ _ hs,h2]⟩⟩
def uT (p:Pat α) (q:Pat β):Pat (α×β):=
 ⟨p.T×q.T,fun R=>p.A (q.A R),fun g t=>q.app (p.app g t.1) t.2,fun H t=>(p.of H t.1,q.of H t.2),
  fun H x g=>match p.get H x.1 g with | none=>none | some (a,g1)=>(match q.get H x.2 g1 with | none=>none | some (b,g2)=>some ((a,b),g2)),fun {H x g t g'} e k=>by
   cases h1:p.get H x.1 g with
   | none=>rw [h1] at e;cases e
   | some y=>
    obtain ⟨a,g1⟩:=y;rw [h1] at e;simp only at e
    cases h2:q.get H x.2 g1 with
    | none=>rw [h2] at e;cases e
    | some z=>
     obtain ⟨b,g2⟩:=z;rw [h2] at e
     cases e
     obtain ⟨k2,e2⟩:=q.inv h2 k;obtain ⟨k1,e1⟩:=p.inv h1 k2;exact ⟨k1,Prod.ext e1 e2⟩⟩
end
def nK (n:Nat):Pat Nat:=uS n (fun x=>Nat.beq x n) fun _ h=>gA h
def nT (id:Nat):Pat Nat:=
 ⟨Unit,fun R=>R,fun g _=>g,fun H _=>H id,fun H x g=>some ((),match g with | none=>some (decide (x=H id)) | some b=>some (b&&decide (x=H id))),fun {H x g t g'} e k=>by
  cases e
  cases g with
  | none=>exact ⟨trivial,of_decide_eq_true k⟩
  | some b=>
   have k:(b&&decide (x=H id))=true:=k;simp only [bO,decide_eq_true_eq] at k;exact ⟨k.1,k.2⟩⟩
abbrev nV:Pat Nat:=Iy
abbrev mO:Type 1:=Pat (List PV)
abbrev iS:Type 1:=Pat PV
def vI (k:IntKind):iS:=jQ (.int k) (fun x=>match x with | .int q n=>bif decide (q=k) then some n else none | _=>none) (fun x b h=>by
 split at h
 ·rename_i q n
  by_cases e:q=k
  ·subst e;rw [Ef rfl] at h;cases h;rfl
  ·rw [Os e] at h;cases h
 ·cases h) Iy
def vB:iS:=jQ .bool (fun x=>match x with | .bool b=>some b | _=>none) (fun x b h=>by cases x<;>cases h;rfl) Iy
def vDl (p:mO):iS:=jQ .data (fun x=>match x with | .data b=>some b | _=>none) (fun x b h=>by cases x<;>cases h;rfl) p
def vD:iS:=vDl Iy
def vA (p:mO):iS:=jQ .agg (fun x=>match x with | .agg b=>some b | _=>none) (fun x b h=>by cases x<;>cases h;rfl) p
def Fe:iS:=uS .nils (fun x=>match x with | .nils=>true | _=>false) fun x h=>by cases x<;>cases h;rfl
def vP (id o:Nat) (e i:Pat Nat):iS:=jQ (fun b=>.ptr id b.1 b.2 o) (fun x=>match x with | .ptr a e i f=>bif Nat.beq a id&&Nat.beq f o then some (e,i) else none | _=>none) (fun x b h=>by
 split at h
 ·rename_i a e i f
  cases hc:(Nat.beq a id&&Nat.beq f o) with
  | false=>rw [hc] at h;cases h
  | true=>
   rw [hc] at h;simp only [bO] at hc
   cases h
   rw [gA hc.1,gA hc.2]
 ·cases h) (uT e i)
def vX (o:Nat) (p:iS):iS:=jQ (fun b=>.eptr [b] 0 o) (fun x=>match x with | .eptr [y] i f=>bif Nat.beq i 0&&Nat.beq f o then some y else none | _=>none) (fun x b h=>by
 split at h
 ·rename_i y i f
  cases hc:(Nat.beq i 0&&Nat.beq f o) with
  | false=>rw [hc] at h;cases h
  | true=>
   rw [hc] at h;simp only [bO] at hc
   cases h
   rw [gA hc.1,gA hc.2]
 ·cases h) p
def vO (id:Nat) (lo len ext c:Pat Nat):iS:=jQ (fun b=>.own id b.1 b.2.1 b.2.2.1 (some b.2.2.2)) (fun x=>match x with | .own a lo len ext (some c)=>bif Nat.beq a id then some (lo,len,ext,c) else none | _=>none) (fun x b h=>by
 split at h
 ·rename_i a lo len ext c
  cases hc:Nat.beq a id with
  | false=>rw [hc] at h;cases h
  | true=>rw [hc] at h;cases h;rw [gA hc]
 ·cases h) (uT lo (uT len (uT ext c)))
def vW (id:Nat) (lo len ext:Pat Nat):iS:=jQ (fun b=>.own id b.1 b.2.1 b.2.2 none) (fun x=>match x with | .own a lo len ext none=>bif Nat.beq a id then some (lo,len,ext) else none | _=>none) (fun x b h=>by
 split at h
 ·rename_i a lo len ext
  cases hc:Nat.beq a id with
  | false=>rw [hc] at h;cases h
  | true=>rw [hc] at h;cases h;rw [gA hc]
 ·cases h) (uT lo (uT len ext))
def vF (n:Nat) (p q:mO):iS:=jQ (fun b=>.fn (.func n) b.1 b.2) (fun x=>match x with | .fn (.func k) a b=>bif Nat.beq k n then some (a,b) else none | _=>none) (fun x b h=>by
 split at h
 ·rename_i k a b
  cases hc:Nat.beq k n with
  | false=>rw [hc] at h;cases h
  | true=>rw [hc] at h;cases h;rw [gA hc]
 ·cases h) (uT p q)
def lN:mO:=uS [] (fun x=>match x with | []=>true | _::_=>false) fun x h=>by cases x<;>cases h;rfl
def lC (p:iS) (q:mO):mO:=jQ (fun b=>b.1::b.2) (fun x=>match x with | y::r=>some (y,r) | []=>none) (fun x b h=>by cases x<;>cases h;rfl) (uT p q)
def fN:Pat aF:=uS [] (fun x=>match x with | []=>true | _::_=>false) fun x h=>by cases x<;>cases h;rfl
def fV (s:Nat) (p:iS) (q:Pat aF):Pat aF:=jQ (fun b=>(s,.v b.1)::b.2) (fun x=>match x with | (k,.v y)::r=>bif Nat.beq k s then some (y,r) else none | _=>none) (fun x b h=>by
 split at h
 ·rename_i k y r
  cases hc:Nat.beq k s with
  | false=>rw [hc] at h;cases h
  | true=>rw [hc] at h;cases h;rw [gA hc]
 ·cases h) (uT p q)
def fX (s:Nat) (p:iS) (q:Pat aF):Pat aF:=jQ (fun b=>(s,.box b.1)::b.2) (fun x=>match x with | (k,.box y)::r=>bif Nat.beq k s then some (y,r) else none | _=>none) (fun x b h=>by
 split at h
 ·rename_i k y r
  cases hc:Nat.beq k s with
  | false=>rw [hc] at h;cases h
  | true=>rw [hc] at h;cases h;rw [gA hc]
 ·cases h) (uT p q)
def rhN:Pat Hp:=uS [] (fun x=>match x with | []=>true | _::_=>false) fun x h=>by cases x<;>cases h;rfl
def rhB (fz pu:Bool) (esz:Nat) (p:mO) (q:Pat Hp):Pat Hp:=jQ (fun b=>⟨fz,pu,esz,b.1⟩::b.2) (fun x=>match x with | ⟨a,b,c,rows⟩::r=>bif (a==fz)&&((b==pu)&&Nat.beq c esz) then some (rows,r) else none | []=>none) (fun x b h=>by
 split at h
 ·rename_i a b c rows r
  cases hc:((a==fz)&&((b==pu)&&Nat.beq c esz)) with
  | false=>rw [hc] at h;cases h
  | true=>
   rw [hc] at h;simp only [bO,beq_iff_eq] at hc
   cases h
   rw [hc.1,hc.2.1,gA hc.2.2]
 ·cases h) (uT p q)
structure RPt where
 p:mO
 n:∀ r r' t,(p.of r t).length=(p.of r' t).length
structure HPt where
 p:Pat Hp
 n:∀ r r' t id,blen (p.of r t) id=blen (p.of r' t) id
def rA:RPt:=⟨Iy,fun _ _ _=>rfl⟩
def rN:RPt:=⟨lN,fun _ _ _=>rfl⟩
def rC (p:iS) (q:RPt):RPt:=⟨lC p q.p,fun r r' t=>YS (·+1) (q.n r r' t.2)⟩
def hN:HPt:=⟨rhN,fun _ _ _ _=>rfl⟩
def hB (fz pu:Bool) (esz:Nat) (p:RPt) (q:HPt):HPt:=⟨rhB fz pu esz p.p q.p,fun r r' t id=>by
 cases id with
 | zero=>exact p.n r r' t.1
 | succ k=>exact q.n r r' t.2 k⟩
abbrev uU:Type:=Hp×aF×aF
abbrev r0:Nat→Nat:=fun _=>0
def pS (h:HPt) (p o:Pat aF):Pat uU:=
 ⟨h.p.T×p.T×o.T,fun R=>h.p.A (p.A (o.A R)),fun g t=>o.app (p.app (h.p.app g t.1) t.2.1) t.2.2,fun _ t=>(h.p.of (blen (h.p.of r0 t.1)) t.1,p.of (blen (h.p.of r0 t.1)) t.2.1,o.of (blen (h.p.of r0 t.1)) t.2.2),
  fun _ x g=>match h.p.get (blen x.1) x.1 g with | none=>none | some (a,g1)=>(match p.get (blen x.1) x.2.1 g1 with | none=>none | some (b,g2)=>(match o.get (blen x.1) x.2.2 g2 with | none=>none | some (c,g3)=>some ((a,b,c),g3))),fun {H x g t g'} e k=>by
   obtain ⟨X,Y,Z⟩:=x
   cases h1:h.p.get (blen X) X g with
   | none=>simp only [h1] at e;cases e
   | some y=>
    obtain ⟨a,g1⟩:=y;simp only [h1] at e
    cases h2:p.get (blen X) Y g1 with
    | none=>rw [h2] at e;cases e
    | some z=>
     obtain ⟨b,g2⟩:=z;rw [h2] at e;simp only at e
     cases h3:o.get (blen X) Z g2 with
     | none=>rw [h3] at e;cases e
     | some w=>
      obtain ⟨c,g3⟩:=w;rw [h3] at e
      cases e
      obtain ⟨k3,e3⟩:=o.inv h3 k;obtain ⟨k2,e2⟩:=p.inv h2 k3;obtain ⟨k1,e1⟩:=h.p.inv h1 k2;refine ⟨k1,?_⟩;show (X,Y,Z)=(h.p.of (blen (h.p.of r0 a)) a,p.of (blen (h.p.of r0 a)) b,o.of (blen (h.p.of r0 a)) c);have e4:blen (h.p.of r0 a)=blen X:=funext fun id=>by
       rw [h.n r0 (blen X) a id,← e1]
      rw [e4,← e1,← e2,← e3]⟩
structure St where
 p:Pat uU
 g:Nat→p.A Prop
def runS:List St→Nat→uU→Prop
 | [],_,_=>False
 | s::r,n,x=>match s.p.get r0 x none with | some (t,b)=>Ix b (s.p.app (s.g n) t) | none=>runS r n x
def uV:List St→uU→Prop
 | [],_=>False
 | s::r,x=>match s.p.get r0 x none with | some (t,b)=>Ix b (∃ n,s.p.app (s.g n) t) | none=>uV r x
theorem K8 {x:uU}:∀ {L:List St},uV L x→∃ n,runS L n x
 | [],h=>h.elim
 | s::r,h=>by
  unfold uV at h;unfold runS;split at h
  ·rename_i t b e;obtain ⟨hb,n,h⟩:=Ma.1 h;exact ⟨n,Ma.2 ⟨hb,h⟩⟩
  ·obtain ⟨n,h⟩:=K8 h;exact ⟨n,h⟩
theorem Qz {x:uU} {n:Nat}:∀ {L:List St},runS L n x→∃ s,s∈L∧∃ t,x=s.p.of r0 t∧s.p.app (s.g n) t
 | [],h=>h.elim
 | s::r,h=>by
  unfold runS at h;split at h
  ·rename_i t b e;obtain ⟨hb,h⟩:=Ma.1 h;exact ⟨s,eU,t,(s.p.inv e hb).2,h⟩
  ·obtain ⟨s',h1,h2⟩:=Qz h;exact ⟨s',eF _ h1,h2⟩
def Iz (gc:Bool) (D:List Nat) (L:List St) (n:Nat) (G:aF) (k:Nat) (F':aF) (H':Hp):Prop:=runS L n (bif gc then uI (fdels F' D) k H' else H',bif gc then fdels F' D else F',G)
def AllB (E:Env) (callK:CK) (lp:LP) (yk:aF→YK) (b:TC) (gc:Bool) (Q:Qx) (L:List St):List St→Prop
 | []=>True
 | s::r=>(∀ t,s.p.app (s.g 0) t=False)∧(∀ n t,WC E callK lp (s.p.of r0 t).2.2 (yk (s.p.of r0 t).2.2) b (s.p.of r0 t).2.1 (s.p.of r0 t).1 (G7 (Iz gc (gM (bI b)) L n (s.p.of r0 t).2.2 (s.p.of r0 t).1.length) Q)=s.p.app (s.g (n+1)) t)∧AllB E callK lp yk b gc Q L r
theorem AllB.mem {E:Env} {callK:CK} {lp:LP} {yk:aF→YK} {b:TC} {gc:Bool} {Q:Qx} {L:List St}:∀ {l:List St},AllB E callK lp yk b gc Q L l→∀ s∈l,(∀ t,s.p.app (s.g 0) t=False)∧(∀ n t,WC E callK lp (s.p.of r0 t).2.2 (yk (s.p.of r0 t).2.2) b (s.p.of r0 t).2.1 (s.p.of r0 t).1 (G7 (Iz gc (gM (bI b)) L n (s.p.of r0 t).2.2 (s.p.of r0 t).1.length) Q)=s.p.app (s.g (n+1)) t)
 | [],_,s,h=>by cases h
 | x::r,h,s,hs=>by
  rcases qAn.1 hs with rfl|hs
  ·exact ⟨h.1,h.2.1⟩
  ·exact AllB.mem h.2.2 s hs
section
variable {E:Env} {callK:CK} {P:EP} {lp:LP} {yk:aF→YK} {b:TC} {Q:Qx} {L:List St} {id:Nat} {F G:aF} {H:Hp}
theorem bV.st (hP:aM P E) (hG:Good P callK) (hY:cS P E (yk G)) (hl:LpOk P E lp G b) (hb:AllB E callK lp yk b false Q L L) (h:uV L (H,F,G)) (hf:gE b=true:=by kernel_rfl):bV P (.loop id b) F H Q:=by
 obtain ⟨n,h⟩:=K8 h;refine bV.intro (id:=id) hP hG hf hY hl (fun n F H=>runS L n (H,F,G)) (fun F H h=>?_) (fun n F H h=>?_) n F H h
 ·obtain ⟨s,hs,t,_,h⟩:=Qz h;rw [(hb.mem s hs).1 t] at h;exact h
 ·obtain ⟨s,hs,t,e,h⟩:=Qz h;rw [← (hb.mem s hs).2 n t,← e] at h;exact h
end
abbrev dT (S:SE) (d:Nat) (yk:aF→YK) (b:TC) (gc:Bool) (L:Qx→List St):Prop:=∀ Q,AllB S.E (jO S d) S.lp yk b gc Q (L Q) (L Q)
abbrev a:aF→YK:=fun _=>dB
abbrev dU (P:EP) (lp:LP) (G:aF) (id:Nat) (c:TC):Prop:=∀ F H Q,lp id G F H Q→bV P c F H Q
def fO:List (Nat×(Qx→List St))→LP
 | [],_,_,_,_,_=>False
 | p::r,id,G,F,H,Q=>bif Nat.beq id p.1 then uV (p.2 Q) (H,F,G) else fO r id G F H Q
structure Sg where
 p:mO
 R:Type
 k:(PV→Prop)→R
abbrev Sg.W (s:Sg):Type:=s.p.A (s.R→Prop)
def Sg.pw (s:Sg) (w:s.W) (az:List PV) (K:PV→Prop):Prop:=match s.p.get r0 az none with | some (t,b)=>Ix b (s.p.app w t (s.k K)) | none=>False
def sE (E:Env) (l:List (Nat×(List PV→(PV→Prop)→Prop))) (lp:LP):SE:=⟨E,ye7 l,yeh [],lp,fun _=>none⟩
def eC:LP:=fun _ _ _ _ _=>False
def bU (S:SE) (d:Nat) (t:TFn) (s:Sg) (w:s.W):Prop:=∀ a K,WP S d t (s.p.of r0 a) K=s.p.app w a (s.k K)
theorem Sg.inv {s:Sg} {w:s.W} {az:List PV} {K:PV→Prop} (h:s.pw w az K):∃ a,az=s.p.of r0 a∧s.p.app w a (s.k K):=by
 unfold Sg.pw at h;split at h
 ·rename_i t b e;obtain ⟨hb,h⟩:=Ma.1 h;exact ⟨t,(s.p.inv e hb).2,h⟩
 ·exact h.elim
theorem okW {P:EP} {S:SE} {d n:Nat} {t:TFn} {s:Sg} {w:s.W} (hq:bU S d t s w) (hS:SEOk P S) (hR:bE P S.E (jO S d) t.body) (hl:LpOk P S.E S.lp [] t.body) (hs:∀ az,S.E.sum n az=none) (he:∀ az H,S.E.eff n az H=none) (hf:S.E.fns n=some t.fn) (hu:S.E.qui n=true) (hn:S.E.nl n=false):∀ az K,s.pw w az K→∃ r,K r∧kH P n az r:=fun az K h=>by obtain ⟨a,e,k⟩:=Sg.inv h;subst e;rw [← hq a K] at k;exact J2 hS hR hl hf hu hs he k hn
end Go.Pf
namespace Go.Pf
open Go
def Mb (c1 c2:Nat→List PV→Hp→Option (PV×Hp)):Prop:=∀ f az H r,c1 f az H=some r→c2 f az H=some r
abbrev Ff:Type:=Nat→Nat→List PV→Hp→Option (Option Nat×Hp)
def Env.sm (E:Env) (s0:Nat→List PV→Option PV) (f0:Nat→Option AFn) (n:Nat) (c:Nat→Option LCtx) (y:Ff):Env:={ E with eff:=fun _ _ _=>none,fns:=f0,sum:=s0,yn:=n,ctx:=c,yl:=y }
def Env.up (E:Env) (n:Nat) (c:Nat→Option LCtx) (y:Ff):Env:={ E with yn:=n,ctx:=c,yl:=y }
def K9 (y1 y2:Ff):Prop:=∀ a b vs H r,y1 a b vs H=some r→y2 a b vs H=some r
section
variable {E:Env} {s0:Nat→List PV→Option PV} {f0:Nat→Option AFn} {c1 c2:Nat→List PV→Hp→Option (PV×Hp)} {F:aF} {H:Hp} {k:Nat} {x1 x2:Nat→Option LCtx} {y1 y2:Ff}
structure LeS (E:Env) (s0:Nat→List PV→Option PV) (y1 y2:Ff) (c1 c2:Nat→List PV→Hp→Option (PV×Hp)):Prop where
 c:Mb c1 c2
 s:∀ n ps r,s0 n ps=some r→ybu E c2 n ps=some r
 n:∀ n ps,s0 n ps=none→E.sum n ps=none
 q:∀ n ps,E.qui n=false→s0 n ps=E.sum n ps
 y:K9 y1 y2
theorem QC (h:LeS E s0 y1 y2 c1 c2) {n:Nat} {ps:List PV} {r:PV} (e:ybu (E.sm s0 f0 k x1 y1) c1 n ps=some r):ybu (E.up k x2 y2) c2 n ps=some r:=by
 have e:(match s0 n ps with
  | some r=>some r
  | none=>if E.qui n then (match c1 n ps [] with | some (r,H)=>kA (E.nl n) H r | none=>none) else none)=some r:=e
 show ybu E c2 n ps=some r
 cases hs:s0 n ps with
 | some x=>rw [hs] at e;cases e;exact h.s _ _ _ hs
 | none=>
  rw [hs] at e;dsimp only at e;unfold ybu;rw [h.n _ _ hs];dsimp only
  cases hq:E.qui n with
  | false=>rw [hq] at e;cases e
  | true=>
   rw [hq] at e
   cases hc:c1 n ps [] with
   | none=>simp [hc] at e
   | some x =>rw [hc] at e;rw [h.c _ _ _ _ hc];exact e
def QD (rb qui frz:Bool) (pr:List PV→Option PV) (c:List PV→Hp→Option (PV×Hp)) (az:List PV) (H:Hp):Option (PV×Hp):=
 if rb then (match yuK (jM H) az with
  | some az=>(match pr az with
   | some r=>if r.scalar then some (r,H) else none
   | none=>none)
  | none=>none)
 else match (match yaT H az with
  | some (az,H')=>(match pr az with
   | some r=>if r.scalar then some (r,H) else some (r,H')
   | none=>none)
  | none=>none) with
 | some r=>some r
 | none=>if qui then none else if frz then (match yaT H az with
   | some (az,H')=>c az H'
   | none=>none) else c az H
theorem yMA (h:LeS E s0 y1 y2 c1 c2) {n:Nat} {az:List PV} {r:PV×Hp} (e:QD (E.rb n) (E.qui n) (E.frz n) (ybu (E.sm s0 f0 k x1 y1) c1 n) (c1 n) az H=some r):QD (E.rb n) (E.qui n) (E.frz n) (ybu (E.up k x2 y2) c2 n) (c2 n) az H=some r:=by
 unfold QD at e ⊢
 cases hb:E.rb n with
 | true=>
  rw [hb] at e;simp only [if_true] at e ⊢
  cases hp:yuK (jM H) az with
  | none=>rw [hp] at e;cases e
  | some ys=>
   rw [hp] at e;dsimp only at e ⊢
   cases hc:ybu (E.sm s0 f0 k x1 y1) c1 n ys with
   | none=>rw [hc] at e;cases e
   | some x=>rw [hc] at e;rw [QC (x2:=x2) h hc];exact e
 | false=>
  rw [hb] at e;simp only [gL,if_false] at e ⊢
  cases hp:yaT H az with
  | none=>
   rw [hp] at e;dsimp only at e ⊢
   cases hq:E.qui n with
   | true=>rw [hq] at e;simp at e
   | false=>
    rw [hq] at e;simp only [gL,if_false] at e ⊢
    cases hf:E.frz n with
    | true=>rw [hf] at e;simp at e
    | false=>rw [hf] at e;simp only [gL,if_false] at e ⊢;exact h.c _ _ _ _ e
  | some y=>
   obtain ⟨ys,H'⟩:=y;rw [hp] at e;dsimp only at e ⊢
   cases hc:ybu (E.sm s0 f0 k x1 y1) c1 n ys with
   | some x=>
    rw [hc] at e;rw [QC (x2:=x2) h hc];dsimp only at e ⊢
    cases hs:x.scalar with
    | true=>rw [hs] at e;simpa using e
    | false=>rw [hs] at e;simpa using e
   | none=>
    rw [hc] at e;dsimp only at e
    cases hq:E.qui n with
    | true=>rw [hq] at e;simp at e
    | false=>
     rw [hq] at e;simp only [gL,if_false] at e ⊢;have h2:ybu (E.up k x2 y2) c2 n ys=none:=by
      have hc:(match s0 n ys with
       | some r=>some r
       | none=>if E.qui n then (match c1 n ys [] with | some (r,H)=>kA (E.nl n) H r | none=>none) else none)=none:=hc
      show ybu E c2 n ys=none;unfold ybu
      cases hs:s0 n ys with
      | some x=>rw [hs] at hc;cases hc
      | none=>rw [h.n _ _ hs,hq];rfl
     rw [h2];dsimp only
     cases hf:E.frz n with
     | true=>rw [hf] at e;simp only [if_true] at e ⊢;exact h.c _ _ _ _ e
     | false=>rw [hf] at e;simp only [gL,if_false] at e ⊢;exact h.c _ _ _ _ e
theorem yK6 (h:Mb c1 c2) {n:Nat} {az:List PV} {b:HB} {r:PV×List PV} (e:ysP c1 n az b=some r):ysP c2 n az b=some r:=by
 unfold ysP at e ⊢
 cases hc:c1 n az [b] with
 | none=>rw [hc] at e;cases e
 | some x=>rw [hc] at e;rw [h _ _ _ _ hc];exact e
theorem yK7 (h:Mb c1 c2) {x:LocC} {r:PV×Hp} (e:uD c1 x H=some r):uD c2 x H=some r:=by
 unfold uD at e ⊢;split at e
 ·rename_i az H' hp;split at e
  ·rename_i b hb;split at e
   ·rename_i hc
    cases hr:ysP c1 x.n (az.set x.j x.y) b with
    | none=>rw [hr] at e;cases e
    | some q =>rw [hr] at e;rw [YQ hc,yK6 h hr];exact e
   ·cases e
  ·cases e
 ·cases e
theorem yMB (h:LeS E s0 y1 y2 c1 c2) {f:PV} {az:List PV} {r:PV×Hp} (e:yjl (E.sm s0 f0 k x1 y1) c1 f az H=some r):yjl (E.up k x2 y2) c2 f az H=some r:=by
 have e:(match yld E f az with | some x=>uD c1 x H | none=>pB (E.sm s0 f0 k x1 y1) c1 f az H)=some r:=e;show (match yld E f az with | some x=>uD c2 x H | none=>pB (E.up k x2 y2) c2 f az H)=some r
 cases hl:yld E f az with
 | some x=>rw [hl] at e;exact yK7 h.c e
 | none=>
  rw [hl] at e;dsimp only at e ⊢
  cases f with
  | fn f first captured=>
   cases f with
   | func n=>exact yMA h e
   | yield j=>
    cases first with
    | cons _ _=>cases e
    | nil=>
     cases captured with
     | cons _ _=>cases e
     | nil=>
      have e:(match y1 k j az H with | some (none,H')=>some (PV.bool true,H') | _=>none)=some r:=e;show (match y2 k j az H with | some (none,H')=>some (PV.bool true,H') | _=>none)=some r
      cases hy:y1 k j az H with
      | none=>rw [hy] at e;cases e
      | some z=>rw [hy] at e;rw [h.y _ _ _ _ _ hy];exact e
   | _=>cases e
  | _=>cases e
theorem yRN (x:Opd):ev (E.sm s0 f0 k x1 y1) F x=ev E F x:=by cases x<;>rfl
theorem yRO (x:Opd):ev (E.up k x2 y2) F x=ev E F x:=by cases x<;>rfl
theorem Fg (x:Opd):evV (E.sm s0 f0 k x1 y1) F x=evV E F x:=by unfold evV;rw [yRN]
theorem Fh (x:Opd):evV (E.up k x2 y2) F x=evV E F x:=by unfold evV;rw [yRO]
theorem Mc:∀ (l:List Opd),evs (E.sm s0 f0 k x1 y1) F l=evs E F l
 | []=>rfl
 | x::r=>by simp only [evs,Fg,Mc r]
theorem Md:∀ (l:List Opd),evs (E.up k x2 y2) F l=evs E F l
 | []=>rfl
 | x::r=>by simp only [evs,Fh,Md r]
theorem yMC {o:AOp} (h:pG o=false) {c:Nat→List PV→Hp→Option (PV×Hp)}:yap (E.sm s0 f0 k x1 y1) c F H o=yap (E.up k x2 y2) c F H o:=by
 cases o<;>first | (cases h;done) | kernel_rfl
theorem L6 (h:LeS E s0 y1 y2 c1 c2) {o:AOp} {x:Out} (e:yap (E.sm s0 f0 k x1 y1) c1 F H o=some x):yap (E.up k x2 y2) c2 F H o=some x:=by
 by_cases hc:pG o=true
 ·cases o with
  | call f az=>
   simp only [yap,Fg,Mc] at e;simp only [yap,Fh,Md]
   cases hf:evV E F f with
   | none=>rw [hf] at e;cases e
   | some fv=>
    cases ha:evs E F az with
    | none=>rw [hf,ha] at e;cases e
    | some av=>
     rw [hf,ha] at e;dsimp only at e ⊢
     cases hr:yjl (E.sm s0 f0 k x1 y1) c1 fv av H with
     | none=>rw [hr] at e;cases e
     | some y=>rw [hr] at e;rw [yMB (x2:=x2) h hr];exact e
  | _=>cases hc
 ·rw [I2 (by simpa using hc) c2 c1,← yMC (s0:=s0) (f0:=f0) (x1:=x1) (y1:=y1) (by simpa using hc)];exact e
theorem yK8 (h:LeS E s0 y1 y2 c1 c2) {o:AO} {x:aF×Hp} (e:yhb (E.sm s0 f0 k x1 y1) c1 F H o=some x):yhb (E.up k x2 y2) c2 F H o=some x:=by
 unfold yhb at e ⊢
 cases hg:yef F o.guard with
 | none=>rw [hg] at e;cases e
 | some b=>
  rw [hg] at e
  cases b with
  | false=>exact e
  | true=>
   dsimp only at e ⊢
   cases ho:yap (E.sm s0 f0 k x1 y1) c1 F H o.op with
   | none=>rw [ho] at e;cases e
   | some y=>rw [ho] at e;rw [L6 (x2:=x2) h ho];exact e
theorem yMD (h:LeS E s0 y1 y2 c1 c2) {o:AO} {S x:aF×Hp} (e:yhv (E.sm s0 f0 k x1 y1) c1 o S=some x):yhv (E.up k x2 y2) c2 o S=some x:=by
 unfold yhv at e ⊢
 cases hg:yef S.1 o.guard with
 | none=>rw [hg] at e;cases e
 | some b=>
  rw [hg] at e
  cases b with
  | false=>exact e
  | true=>
   dsimp only at e ⊢
   cases ho:yap (E.sm s0 f0 k x1 y1) c1 S.1 S.2 o.op with
   | none=>rw [ho] at e;cases e
   | some y=>rw [ho] at e;rw [L6 (x2:=x2) h ho];exact e
theorem L7 (h:LeS E s0 y1 y2 c1 c2):∀ (l:List AO) {F:aF} {H:Hp} {x:aF×Hp},mS (E.sm s0 f0 k x1 y1) c1 l F H=some x→mS (E.up k x2 y2) c2 l F H=some x
 | [],F,H,x,e=>e
 | o::r,F,H,x,e=>by
  simp only [mS] at e ⊢
  cases hs:yhb (E.sm s0 f0 k x1 y1) c1 F H o with
  | none=>rw [hs] at e;cases e
  | some y=>rw [hs] at e;rw [yK8 (x2:=x2) h hs];exact L7 h r e
theorem yME (hq:∀ n ps,E.qui n=false→s0 n ps=E.sum n ps) (f:Opd) (az:List Opd):rE (E.sm s0 f0 k x1 y1) F f az=rE (E.up k x2 y2) F f az:=by
 unfold rE;rw [Fg,Mc,Fh,Md];split
 ·rename_i n first captured vs _ _;show (!E.rb n&&((fM (first++vs++captured)).isEmpty&&(E.qui n||(match yaT [] (first++vs++captured) with | some (ps,_)=>(s0 n ps).isSome | none=>false))))=(!E.rb n&&((fM (first++vs++captured)).isEmpty&&(E.qui n||(match yaT [] (first++vs++captured) with | some (ps,_)=>(E.sum n ps).isSome | none=>false))))
  cases hn:E.qui n with
  | true=>rfl
  | false=>
   cases yaT [] (first++vs++captured) with
   | none=>rfl
   | some x=>dsimp only;rw [hq n x.1 hn]
 ·rfl
theorem yMF (hq:∀ n ps,E.qui n=false→s0 n ps=E.sum n ps) (o:AO):yeQ (E.sm s0 f0 k x1 y1) F H o=yeQ (E.up k x2 y2) F H o:=by
 unfold yeQ;have:aQ (E.sm s0 f0 k x1 y1) F H o.op=aQ (E.up k x2 y2) F H o.op:=by
  cases o.op with
  | call f az=>simp only [aQ,yME (x2:=x2) (y2:=y2) hq]
  | _=>kernel_rfl
 rw [this]
theorem L8 (h:LeS E s0 y1 y2 c1 c2):∀ (l:List AO) {F:aF} {H:Hp} {x:aF×Hp×List FP},yiw (E.sm s0 f0 k x1 y1) c1 l F H=some x→yiw (E.up k x2 y2) c2 l F H=some x
 | [],F,H,x,e=>e
 | o::r,F,H,x,e=>by
  simp only [yiw] at e ⊢
  cases hs:yhv (E.sm s0 f0 k x1 y1) c1 o (F,H) with
  | none=>rw [hs] at e;cases e
  | some y=>
   rw [hs] at e;rw [yMD (x2:=x2) h hs];dsimp only at e ⊢
   cases hr:yiw (E.sm s0 f0 k x1 y1) c1 r y.1 y.2 with
   | none=>rw [hr] at e;cases e
   | some z=>rw [hr,yMF (x2:=x2) (y2:=y2) h.q] at e;rw [L8 h r hr];exact e
theorem L9 (h:LeS E s0 y1 y2 c1 c2) {l:List AO} {pairs:List (Nat×Nat)} {x:aF×Hp} (e:ygG (E.sm s0 f0 k x1 y1) c1 l pairs F H=some x):ygG (E.up k x2 y2) c2 l pairs F H=some x:=by
 unfold ygG at e ⊢
 cases pairs with
 | nil=>exact L7 h l e
 | cons p q=>
  dsimp only at e ⊢
  cases hr:yiw (E.sm s0 f0 k x1 y1) c1 l (wU F l) H with
  | none=>rw [hr] at e;cases e
  | some z=>rw [hr] at e;rw [L8 h l hr];exact e
structure SmOk (E:Env) (s0:Nat→List PV→Option PV) (f0:Nat→Option AFn) (M:Nat):Prop where
 fn:∀ n fn,f0 n=some fn→E.fns n=some fn∧∀ az H,E.effx n az H=none
 ans:∀ n ps r,s0 n ps=some r→∀ j e,M≤j→gD E e→ybu e (yaD e j) n ps=some r
 non:∀ n ps,s0 n ps=none→E.sum n ps=none
 no:∀ n ps,E.qui n=false→s0 n ps=E.sum n ps
theorem M3 {M:Nat} (hs:SmOk E s0 f0 M):∀ (m j:Nat),M≤j→∀ (k:Nat) (x1 x2:Nat→Option LCtx) (y1 y2:Ff),K9 y1 y2 →
  (∀ (c:AC) (F:aF) (H:Hp) (x:Ex×aF×Hp),exec (E.sm s0 f0 k x1 y1) m c F H=some x→exec (E.up k x2 y2) (m+j) c F H=some x)∧Mb (yaD (E.sm s0 f0 k x1 y1) m) (yaD (E.up k x2 y2) (m+j)):=by
 intro m;induction m with
 | zero=>exact fun j _ k x1 x2 y1 y2 _=>⟨fun c F H x e=>by simp [exec] at e,fun f az H r e=>by simp [yaD] at e⟩
 | succ m ih=>
  intro j hj k x1 x2 y1 y2 hy;obtain ⟨ihx,ihc⟩:=ih j hj k x1 x2 y1 y2 hy;have ihi:LeS E s0 y1 y2 (yaD (E.sm s0 f0 k x1 y1) m) (yaD (E.up k x2 y2) (m+j)):=⟨ihc,fun n ps r e=>hs.ans n ps r e _ (E.up k x2 y2) (by omega) rfl,hs.non,hs.no,hy⟩;rw [show m+1+j=(m+j)+1 by omega];constructor
  ·intro c F H x e
   cases c with
   | skip=>simpa [exec] using e
   | exit id=>simpa [exec] using e
   | ret=>simpa [exec] using e
   | bad=>simp [exec] at e
   | ops l pairs forget=>
    simp only [exec] at e ⊢
    cases hr:ygG (E.sm s0 f0 k x1 y1) (yaD (E.sm s0 f0 k x1 y1) m) l pairs F H with
    | none=>rw [hr] at e;cases e
    | some y=>rw [hr] at e;rw [L9 (x2:=x2) ihi hr];exact e
   | seq a b=>
    simp only [exec] at e ⊢
    cases ha:exec (E.sm s0 f0 k x1 y1) m a F H with
    | none=>rw [ha] at e;cases e
    | some y=>
     rw [ha] at e;rw [ihx _ _ _ _ ha];obtain ⟨ex,F',H'⟩:=y
     cases ex with
     | norm=>exact ihx _ _ _ _ e
     | _=>exact e
   | cond v a b=>
    simp only [exec] at e ⊢;rw [Fg] at e;rw [Fh];split at e
    ·exact ihx _ _ _ _ e
    ·exact ihx _ _ _ _ e
    ·cases e
   | block id b=>
    simp only [exec] at e ⊢
    cases hb:exec (E.sm s0 f0 k x1 y1) m b F H with
    | none=>rw [hb] at e;cases e
    | some y=>rw [hb] at e;rw [ihx _ _ _ _ hb];exact e
   | loop b=>
    simp only [exec] at e ⊢
    cases hb:exec (E.sm s0 f0 k x1 y1) m b F H with
    | none=>rw [hb] at e;cases e
    | some y=>
     rw [hb] at e;rw [ihx _ _ _ _ hb];obtain ⟨ex,F',H'⟩:=y
     cases ex with
     | norm=>exact ihx _ _ _ _ e
     | _=>exact e
   | lG b=>
    simp only [exec] at e ⊢
    cases hb:exec (E.sm s0 f0 k x1 y1) m b F H with
    | none=>rw [hb] at e;cases e
    | some y=>
     rw [hb] at e;rw [ihx _ _ _ _ hb];obtain ⟨ex,F',H'⟩:=y
     cases ex with
     | norm=>exact ihx _ _ _ _ e
     | _=>exact e
   | rangeF g ps az bd=>
    simp only [exec] at e ⊢;rw [Fg] at e;rw [Fh];split at e
    ·rename_i f first cap hv;have e:(match f0 f with
       | some fn=>_
       | none=>none)=some x:=e
     cases hf:f0 f with
     | none=>rw [hf] at e;cases e
     | some fn=>
       rw [hf] at e;obtain ⟨hf2,_⟩:=hs.fn f fn hf;have hf3:(E.up k x2 y2).fns f=some fn:=hf2;rw [hf3];dsimp only at e ⊢;split at e
       · rename_i hc;rw [YQ (show (first++[PV.fn (.yield (E.up k x2 y2).yn) [] []]++cap).length=fn.nparams∧fn.results.length=0 from hc)];obtain ⟨px,_⟩:=ih j hj (k+1) (fun i=>if i=k then some ⟨gR F,ps,az,bd⟩ else x1 i) (fun i=>if i=k then some ⟨gR F,ps,az,bd⟩ else x2 i)
          (fun y i vs H=>if i=k then hnd (E.sm s0 f0 k x1 y1) (gR F) ps az bd m y vs H else y1 y i vs H) (fun y i vs H=>if i=k then hnd (E.up k x2 y2) (gR F) ps az bd (m+j) y vs H else y2 y i vs H) (by
           intro a b vs H r hr;dsimp only at hr ⊢
           by_cases hb:b=k
           ·rw [YQ hb] at hr ⊢;unfold hnd at hr ⊢;obtain ⟨ax,_⟩:=ih j hj a x1 x2 y1 y2 hy;split at hr
            ·rename_i F1 hp
             cases h1:exec ((E.sm s0 f0 k x1 y1).ats a) m az F1 H with
             | none=>rw [h1] at hr;cases hr
             | some z=>
              rw [h1] at hr;rw [show exec ((E.up k x2 y2).ats a) (m+j) az F1 H=some z from ax _ _ _ _ h1];obtain ⟨ex,F2,H2⟩:=z
              cases ex with
              | norm=>
               dsimp only at hr ⊢
               cases h2:exec ((E.sm s0 f0 k x1 y1).ats a) m bd F2 H2 with
               | none=>rw [h2] at hr;cases hr
               | some z2 =>rw [h2] at hr;rw [show exec ((E.up k x2 y2).ats a) (m+j) bd F2 H2=some z2 from ax _ _ _ _ h2];exact hr
              | _=>cases hr
            ·cases hr
           ·rw [YR hb] at hr ⊢;exact hy _ _ _ _ _ hr)
         have px:=px fn.body (kX 0 (first++[PV.fn (.yield k) [] []]++cap)) H;have e:EX (E.sm s0 f0 k x1 y1) F H (exec (E.sm s0 f0 (k+1) (fun i=>if i=k then some ⟨gR F,ps,az,bd⟩ else x1 i) (fun y i vs H=>if i=k then hnd (E.sm s0 f0 k x1 y1) (gR F) ps az bd m y vs H else y1 y i vs H)) m fn.body (kX 0 (first++[PV.fn (.yield k) [] []]++cap)) H)=some x:=e;show EX (E.up k x2 y2) F H (exec (E.up (k+1) (fun i=>if i=k then some ⟨gR F,ps,az,bd⟩ else x2 i) (fun y i vs H=>if i=k then hnd (E.up k x2 y2) (gR F) ps az bd (m+j) y vs H else y2 y i vs H)) (m+j) fn.body (kX 0 (first++[PV.fn (.yield k) [] []]++cap)) H)=some x
         cases hx:exec (E.sm s0 f0 (k+1) (fun i=>if i=k then some ⟨gR F,ps,az,bd⟩ else x1 i) (fun y i vs H=>if i=k then hnd (E.sm s0 f0 k x1 y1) (gR F) ps az bd m y vs H else y1 y i vs H)) m fn.body (kX 0 (first++[PV.fn (.yield k) [] []]++cap)) H with
         | none=>rw [hx] at e;cases e
         | some z=>rw [hx] at e;rw [px _ hx];exact e
       · cases e
    ·cases e
   | yret c pre d y args ee fgt=>
    simp only [exec] at e ⊢
    cases hr:ygG (E.sm s0 f0 k x1 y1) (yaD (E.sm s0 f0 k x1 y1) m) pre [] F H with
    | none=>rw [hr] at e;cases e
    | some z=>
     rw [hr] at e;rw [L9 (x2:=x2) ihi hr];obtain ⟨F1,H1⟩:=z;dsimp only at e ⊢;rw [Fg,Mc] at e;rw [Fh,Md];split at e
     · rename_i i vs hv ha
       cases hy1:y1 k i vs H1 with
       | none =>have e:(match y1 k i vs H1 with | some (none,H2)=>_ | some (some i,H2)=>_ | none=>none)=some x:=e;rw [hy1] at e;cases e
       | some w=>
         have e:(match y1 k i vs H1 with
          | some (none,H2)=>some (Ex.norm,fdels (bJ (bJ F1 d (.v (.bool true))) ee (.v (.bool false))) fgt,H2)
          | some (some i',H2)=>some (Ex.brk i i',bJ (bJ F1 d (.v (.bool false))) ee (.v (.bool true)),H2)
          | none=>none)=some x:=e
         show (match y2 k i vs H1 with
          | some (none,H2)=>some (Ex.norm,fdels (bJ (bJ F1 d (.v (.bool true))) ee (.v (.bool false))) fgt,H2)
          | some (some i',H2)=>some (Ex.brk i i',bJ (bJ F1 d (.v (.bool false))) ee (.v (.bool true)),H2)
          | none=>none)=some x
         rw [hy1] at e;rw [hy _ _ _ _ _ hy1];exact e
     · rename_i hno;exact ihx _ _ _ _ e
  ·intro f az H r e;have e:(match f0 f with
    | some fn=>if az.length=fn.nparams then
     (match exec (E.sm s0 f0 k x1 y1) m fn.body (kX 0 az) H with
      | some (.norm,F',H') | some (.ret,F',H')=>(match yjz F' H' fn.results with
        | some ps=>some (sN ps,H')
        | none=>none)
      | _=>none) else none
    | none=>none)=some r:=e
   cases hf:f0 f with
   | none=>rw [hf] at e;cases e
   | some fn=>
    rw [hf] at e;obtain ⟨hf2,hx⟩:=hs.fn f fn hf;have hx2:(E.up k x2 y2).effx f az H=none:=hx az H;have hf3:(E.up k x2 y2).fns f=some fn:=hf2;simp only [yaD,hx2,hf3];dsimp only at e ⊢;split at e
    ·rename_i hl;rw [YQ hl]
     cases hx:exec (E.sm s0 f0 k x1 y1) m fn.body (kX 0 az) H with
     | none=>rw [hx] at e;cases e
     | some y=>rw [hx] at e;rw [ihx _ _ _ _ hx];exact e
    ·cases e
end
def CM (E:Env) (nums:List Nat) (t:wY):Env:={ E with eff:=fun _ _ _=>none,fns:=fun n=>bif memN nums n then none else E.fns n,sum:=fun n ps=>match ypH t n ps with | some r=>some r | none=>E.sum n ps }
section
variable {E:Env}
theorem M4 {nums:List Nat} {t:wY} (h1:∀ n,memN nums n=false→∀ xs H,E.effx n xs H=none) (h2:∀ x∈t,E.qui x.1=true∧Ans E x.1 x.2.1 x.2.2):∃ M,SmOk E (CM E nums t).sum (CM E nums t).fns M:=by
 have hM:∀ (t:wY),(∀ x∈t,E.qui x.1=true∧Ans E x.1 x.2.1 x.2.2)→∃ M,∀ x∈t,∀ k e,M≤k→gD E e→ybu e (yaD e k) x.1 x.2.1=some x.2.2:=by
  intro t;induction t with
  | nil=>exact fun _=>⟨0,fun x hx=>by cases hx⟩
  | cons y l ih=>
   intro ht;obtain ⟨M1,m1⟩:=ih fun x hx=>ht x (eF _ hx)
   obtain ⟨M2,m2⟩:=(ht y eU).2;refine ⟨M1+M2,fun x hx k e hk he=>?_⟩;rcases qAn.1 hx with rfl | hx
   ·exact m2 k e k (by omega) he (by omega)
   ·exact m1 x hx k e (by omega) he
 obtain ⟨M,hM⟩:=hM t h2;refine ⟨M,fun n fn hf=>?_,fun n ps r hs k e hk he=>?_,fun n ps hs=>?_,fun n ps hq=>?_⟩
 ·have hf:(bif memN nums n then none else E.fns n)=some fn:=hf
  cases hm:memN nums n with
  | true=>rw [hm] at hf;cases hf
  | false=>rw [hm] at hf;exact ⟨hf,h1 n hm⟩
 ·have hs:(match ypH t n ps with | some r=>some r | none=>E.sum n ps)=some r:=hs
  cases hl:ypH t n ps with
  | some x=>rw [hl] at hs;cases hs;exact hM _ (Qf _ _ _ _ hl) k e hk he
  | none =>rw [hl] at hs;obtain ⟨_,l2,_⟩:=xA he;unfold ybu;rw [l2,show E.sum n ps=some r from hs]
 ·have hs:(match ypH t n ps with | some r=>some r | none=>E.sum n ps)=none:=hs
  cases hl:ypH t n ps with
  | some x=>rw [hl] at hs;cases hs
  | none=>rw [hl] at hs;exact hs
 ·show (match ypH t n ps with | some r=>some r | none=>E.sum n ps)=_
  cases hl:ypH t n ps with
  | some x=>rw [(h2 _ (Qf _ _ _ _ hl)).1] at hq;cases hq
  | none=>rfl
theorem yOM {nums:List Nat} {t:wY} (h1:∀ n,memN nums n=false→∀ xs H,E.effx n xs H=none) (h2:∀ x∈t,E.qui x.1=true∧Ans E x.1 x.2.1 x.2.2) {m n:Nat} {az:List PV} {H:Hp} {r:PV×Hp} (h:yaD (CM E nums t) m n az H=some r) :
  ∃ m0,∀ k e j,m0≤k→gN E k e→m0≤j→yaD e j n az H=some r:=by
 obtain ⟨M,hs⟩:=M4 h1 h2;refine ⟨m+M,fun k e j _ he hj=>?_⟩;have he:e=E:=he;subst he;have:=(M3 hs m (j-m) (by omega) e.yn e.ctx e.ctx e.yl e.yl fun _ _ _ _ _ h=>h).2 n az H r h;rw [show m+(j-m)=j by omega] at this;exact this
theorem yON {nums:List Nat} {t:wY} (h1:∀ n,memN nums n=false→∀ xs H,E.effx n xs H=none) (h2:∀ x∈t,E.qui x.1=true∧Ans E x.1 x.2.1 x.2.2) {m n:Nat} {az:List PV} {r:PV} (h:ybu (CM E nums t) (yaD (CM E nums t) m) n az=some r):lD E n az r:=by obtain ⟨M,hs⟩:=M4 h1 h2;refine ⟨m+M,fun k e j _ he hj=>?_⟩;have he:e=E:=he;subst he;have hl:=(M3 hs m (j-m) (by omega) e.yn e.ctx e.ctx e.yl e.yl fun _ _ _ _ _ h=>h).2;rw [show m+(j-m)=j by omega] at hl;exact QC (k:=e.yn) (x1:=e.ctx) (x2:=e.ctx) (y1:=e.yl) (y2:=e.yl) ⟨hl,fun n ps r h=>hs.ans n ps r h _ e (by omega) rfl,hs.non,hs.no,fun _ _ _ _ _ h=>h⟩ h
end
end Go.Pf
namespace Go.Pf.Vc
open Go Go.Pf
def Me:Nat:=90
def Mf:Nat:=47
def Mg:Nat:=21
def Mh:Nat:=116
def Mi:Nat:=91
def Mj:Nat:=92
def Ml:Nat:=48
def Mm:Nat:=49
def Mn:Nat:=22
def Mo:Nat:=6
def Mp:Nat:=25
def Mq:Nat:=96
def Mr:Nat:=97
def xC:Nat:=59
def Fi:Nat:=71
def M5:Nat:=103
def QE:Nat:=72
def Ms:Nat:=104
def IA:Nat:=74
def CN:Nat:=73
def CO:Nat:=38
def Mt:Nat:=95
def QF:Nat:=51
def M6:Nat:=117
def M7:Nat:=93
def M8:Nat:=140
def Mu:Nat:=141
def QH:Nat:=119
def M9:Nat:=156
def Mv:Nat:=137
def N0:Nat:=131
def Mw:Nat:=118
def N1:Nat:=94
def dJ:Nat:=50
def tB:Nat:=28
def xD:Nat:=31
def Bn:Nat:=57
def CP:Nat:=58
def Bo:Nat:=30
def Mx:Nat:=98
def Bp:Nat:=60
def Fj:Nat:=61
def CQ:Nat:=99
def CR:Nat:=100
def My:Nat:=120
def IB:Nat:=102
def Mz:Nat:=101
def Fk:Nat:=62
def xE:Nat:=70
def Bq:Nat:=67
def zJ:Nat:=33
def uW:Nat:=68
def Fl:Nat:=52
def CS:Nat:=53
def Fm:Nat:=54
def MA:Nat:=121
def MB:Nat:=105
def MC:Nat:=122
def MD:Nat:=107
def ME:Nat:=106
def zL:Nat:=77
def Fo:Nat:=40
def Fp:Nat:=55
def Fq:Nat:=56
def uX:Nat:=29
def IC:Nat:=9
def xF:Nat:=32
def CT:Nat:=69
def CU:Nat:=66
def Fr:Nat:=63
def ID:Nat:=65
def N2:Nat:=64
def MF:Nat:=34
def Fs:Nat:=10
def QI:Nat:=76
def QJ:Nat:=75
def N3:Nat:=39
def Fu:Nat:=13
def MG:Nat:=37
def IE:Nat:=12
def MH:Nat:=26
def MI:Nat:=27
def MJ:Nat:=8
def MK:Nat:=16
def ML:Nat:=157
def MM:Nat:=142
def Fv:Nat:=124
def Fw:Nat:=123
def xG:Nat:=79
def xH:Nat:=86
def CV:Nat:=108
def IF:Nat:=127
def IG:Nat:=126
def N4:Nat:=125
def uY:Nat:=109
def nU:Nat:=78
def IH:Nat:=41
def QK:Nat:=42
def II:Nat:=112
def QL:Nat:=128
def IJ:Nat:=110
def Br:Nat:=111
def IK:Nat:=82
def Fx:Nat:=81
def N5:Nat:=80
def QM:Nat:=129
def N6:Nat:=113
def yf9:Nat:=143
def yhZ:Nat:=130
def IL:Nat:=114
def Fy:Nat:=115
def Fz:Nat:=83
def IM:Nat:=85
def FA:Nat:=84
def FC:Nat:=87
def FD:Nat:=88
def FE:Nat:=89
def Bs:Nat:=43
def MN:Nat:=17
def N7:Nat:=44
def CW:Nat:=45
def MO:Nat:=18
def MP:Nat:=20
def IN:Nat:=24
def IP:Nat:=23
def MQ:Nat:=7
def MR:Nat:=14
def MS:Nat:=35
def MT:Nat:=46
def MU:Nat:=19
def QN:Nat:=5
def zF (d s:Nat) (o:AOp):AO:=⟨some d,o,some (s,false)⟩
def zT (d s:Nat) (o:AOp):AO:=⟨some d,o,some (s,true)⟩
def zS (n:Nat) (a x:Opd):AO:=⟨none,.store n a x,none⟩
def zR:Nat→Nat→List Nat
 | _,0=>[]
 | a,n+1=>a::zR (a+1) n
def zQ:TC→TC→TC:=.seq
def zC:Opd→TC→TC→TC:=.cond
def zB:Nat→TC→TC:=.block
abbrev zI:Sh:=.one (.i .i64)
abbrev zD:Sh:=.one .d
abbrev z2:Sh:=.agg [.i .i64,.i .i64]
abbrev z4:Sh:=.agg [.i .i64,.i .i64,.i .i64,.i .i64]
abbrev zK:Sh:=.agg [.i .i64,.d,.d]
abbrev zE:Sh:=.agg [.d,.d]
def yRP (o:AO):Nat:=
 match o.dst with
 | some d=>d
 | none=>(match o.op with | .store _ (.t a) _=>a+100000 | _=>999999)
def anF:List (Sh×Nat×List Nat)→Nat→Option (Sh×Nat)
 | [],_=>none
 | (s,m,l)::r,k=>bif memN l k then some (s,m) else anF r k
def QO (tb:List (Sh×Nat×List Nat)):Nat→List AO→List An
 | _,[]=>[]
 | i,o::r=>(match anF tb (yRP o) with | some (s,m)=>⟨i,s,m⟩::QO tb (i+1) r | none=>QO tb (i+1) r)
def iT (tb:List (Sh×Nat×List Nat)) (lps:List (Nat×Nat)):Nat→AC→TC
 | _,.skip=>.skip
 | _,.ops l ps fg=>.ops l (QO tb 0 l) ps fg
 | k,.seq a b=>.seq (iT tb lps k a) (iT tb lps k b)
 | k,.cond c a b=>.cond c (iT tb lps k a) (iT tb lps k b)
 | _,.block id b=>.block id (iT tb lps id b)
 | k,.loop b=>.loop ((lps.lookup k).getD 0) (iT tb lps k b)
 | k,.lG b=>.lG ((lps.lookup k).getD 0) (iT tb lps k b)
 | _,.exit id=>.exit id
 | _,.ret=>.ret
 | _,.bad=>.bad
 | _,.rangeF g ps az bd=>.cut (.rangeF g ps az bd)
 | _,.yret c pre d y args e fgt=>.cut (.yret c pre d y args e fgt)
theorem Bt (tb:List (Sh×Nat×List Nat)) (lps:List (Nat×Nat)):∀ (c:AC) (k:Nat),bI (iT tb lps k c)=c
 | .skip,_=>rfl
 | .ops _ _ _,_=>rfl
 | .seq a b,k=>by simp only [iT,bI,Bt tb lps a,Bt tb lps b]
 | .cond _ a b,k=>by simp only [iT,bI,Bt tb lps a,Bt tb lps b]
 | .block _ b,k=>by simp only [iT,bI,Bt tb lps b]
 | .loop b,k=>by simp only [iT,bI,Bt tb lps b]
 | .lG b,k=>by simp only [iT,bI,Bt tb lps b]
 | .exit _,_=>rfl
 | .ret,_=>rfl
 | .bad,_=>rfl
 | .rangeF ..,_=>rfl
 | .yret ..,_=>rfl
def QP (tb:List (Sh×Nat×List Nat)) (lps:List (Nat×Nat)):Option AFn→TFn
 | some f=>⟨f.nparams,f.results,iT tb lps 999999 f.body⟩
 | none=>⟨0,[],.bad⟩
theorem yQv {tb:List (Sh×Nat×List Nat)} {lps:List (Nat×Nat)} {o:Option AFn} (h:o.isSome=true):o=some (QP tb lps o).fn:=by
 cases o with
 | none=>cases h
 | some f=>simp only [QP,TFn.fn,Bt]
def dL (t:TFn) (id:Nat):TC:=
 match (mN t.body).lookup id with
 | some (.loop _ b)=>b
 | some (.lG _ b)=>b
 | _=>.skip
def rg:Nat→Nat→List Nat
 | a,0=>[a]
 | a,n+1=>a::rg (a+1) n
def xp:List Nat→List Nat
 | a::b::r=>bif Nat.blt 5000 b then rg a (b-5000)++xp r else a::xp (b::r)
 | l=>l
def tl (tb:List (Sh×Nat×List Nat)) (lps:List (Nat×Nat)) (loc:List Nat) (fg:List (Nat×List Nat)) (f:Func):TFn:=QP tb lps (kE Proofs.Tryz.prog loc (fun i=>xp ((fg.lookup i).getD [])) f)
theorem bA {tb:List (Sh×Nat×List Nat)} {lps:List (Nat×Nat)} {loc:List Nat} {fg:List (Nat×List Nat)} {f:Func} (h:(kE Proofs.Tryz.prog loc (fun i=>xp ((fg.lookup i).getD [])) f).isSome=true):kE Proofs.Tryz.prog loc (fun i=>xp ((fg.lookup i).getD [])) f=some (tl tb lps loc fg f).fn:=yQv h
def N8:TFn:=tl [(zK,0,[4,9])] [] [1] [(1,[1,3,5009]),(0,[0,2])] Proofs.Tryz.f90
def QQ:TFn:=tl [(zK,0,[12,13])] [(0,4277600)] [] [(6,[0,3,7,15,16,17]),(3,[8,9,14]),(5,[0,3,14]),(4,[7,10,5003]),(2,[4,5,6]),(0,[2])] Proofs.Tryz.f47
def QR:TC:=dL QQ 4277600
def QS:TFn:=tl [(zK,0,[12,14,20,22])] [(0,60274600)] [] [(6,[0,3,7,26,27]),(3,[8,9,25]),(5,[0,3,25]),(4,[7,10,5014]),(2,[4,5,6]),(0,[2])] Proofs.Tryz.f21
def QT:TC:=dL QS 60274600
def QU:TFn:=tl [(zK,0,[6,10,15,19,25,28,35,42,44,50,55,61,67,74,82,91]),(zI,0,[36,37,47,48,64,65,69,70,76,77,84,85,93,94])] [(0,94526800)] [1] [(14,[98]),(13,[98]),(12,[1,3,4,57,97]),(8,[58,59]),(11,[87,5009]),(10,[1,3,4,87]),(9,[57,60,5026]),(7,[53,5003]),(5,[52]),(4,[1,52]),(3,[13,5038]),(2,[1,13]),(1,[5,5007]),(0,[0,2])] Proofs.Tryz.f116
def QV:TC:=dL QU 94526800
def MV:TFn:=tl [(zE,0,[6,11,16,21,27,34,41,47,53]),(zK,0,[29,30,36,37,49,51,54,56])] [(0,6981300),(2,6981301)] [1] [(15,[1,4,43]),(12,[44,45,57]),(14,[1,4,57]),(13,[43,46,5010]),(11,[39,5003]),(10,[3,23]),(7,[24,25,32]),(9,[1,3,32,5006]),(8,[23,26,5005]),(6,[19,5003]),(5,[18]),(4,[1,18]),(3,[14,5003]),(2,[1,14]),(1,[5,5008]),(0,[0,2])] Proofs.Tryz.f91
def QW:TC:=dL MV 6981300
def QX:TC:=dL MV 6981301
def QY:TFn:=tl [(zK,0,[6,12]),(zI,0,[14,15])] [(0,42667800)] [1] [(6,[1,3,8]),(3,[9,10,16]),(5,[1,3,16]),(4,[8,11,5004]),(2,[4,5003]),(0,[0,2])] Proofs.Tryz.f92
def QZ:TC:=dL QY 42667800
def Ra:TFn:=tl [(zK,0,[22,23])] [(0,10200500)] [] [(11,[0,4,17]),(8,[18,19,25]),(10,[0,4,25]),(9,[17,20,5004]),(7,[14,15,16]),(6,[13]),(5,[0,13]),(4,[3,9,11,12]),(3,[0,3,9,10]),(2,[8]),(1,[5,6,7]),(0,[2])] Proofs.Tryz.f48
def Rb:TC:=dL Ra 10200500
def Rc:TFn:=tl [(zI,0,[20,21,26,27,35,36,43,44]),((.one (.b)),0,[37,38,45,100045])] [(0,62552700)] [] [(10,[0,1,5,6,15]),(6,[16,17]),(9,[39,5006]),(8,[0,1,5,6,39]),(7,[15,18,5020]),(5,[13,14]),(3,[10,11,12]),(2,[0,1,10]),(1,[7,8,9]),(0,[4])] Proofs.Tryz.f49
def Rd:TC:=dL Rc 62552700
def N9:TFn:=tl [] [] [] [(5,[14]),(4,[14]),(3,[0,1,7,10,5003]),(2,[0,1,7,8,9]),(1,[5,6]),(0,[4])] Proofs.Tryz.f22
def O0:TFn:=tl [] [] [] [(1,[0,1,5,5013]),(0,[4])] Proofs.Tryz.f6
def O1:TFn:=tl [] [] [1,2,4,5] [(1,[1,5006]),(0,[0])] Proofs.Tryz.f25
def Re:TFn:=tl [(zI,0,[10,11,21,22])] [(0,10434000)] [] [(8,[0,3,4,15,24]),(6,[16,17]),(7,[15,18,5005]),(5,[12,13,14]),(3,[7,9,10,11]),(2,[7,8]),(1,[5,6]),(0,[2])] Proofs.Tryz.f96
def Rf:TC:=dL Re 10434000
def Rg:TFn:=tl [(zI,0,[10,11,21,22])] [(0,64079100)] [] [(8,[0,3,4,15,24]),(6,[16,17]),(7,[15,18,5005]),(5,[12,13,14]),(3,[7,9,10,11]),(2,[7,8]),(1,[5,6]),(0,[2])] Proofs.Tryz.f97
def Rh:TC:=dL Rg 64079100
def Ri:TFn:=tl [(zK,0,[6,9,16,24,32,39,45,54,59,67,72,78]),(zI,0,[33,34,42,43,56,57,62,63])] [(0,87419700)] [1] [(14,[81]),(13,[81]),(12,[1,49,50,51,66,5014]),(11,[64,65]),(10,[1,49,50,64]),(9,[4,53,5010]),(8,[51,52]),(6,[3,47,48]),(5,[1,3,47]),(4,[14,5032]),(3,[1,3,14]),(2,[8,5005]),(1,[5,6,7]),(0,[0,2])] Proofs.Tryz.f59
def Rj:TC:=dL Ri 87419700
def MW:TFn:=tl [(zE,0,[9,14,19,23,36,45]),(zK,0,[27,28,40,41,43,46,48])] [(0,12157600),(2,12157601)] [1,4,7] [(18,[1,36,5003]),(17,[49,50]),(16,[1,36,37,38,49]),(15,[7,42,5006]),(14,[39,40,41]),(12,[23,5003,35]),(11,[5,32,34]),(10,[1,5,23,24,25,32,33]),(9,[31]),(8,[4,29,30]),(7,[26,27,28]),(5,[21,22]),(4,[1,21]),(3,[17,5003]),(2,[1,17]),(1,[8,5008]),(0,[0,2])] Proofs.Tryz.f71
def Rk:TC:=dL MW 12157600
def Rl:TC:=dL MW 12157601
def Rm:TFn:=tl [(zK,0,[14,15])] [(0,72162200)] [] [(7,[0,1,7,8,9]),(6,[5,16,18]),(5,[0,1,5,7,8,16,17]),(4,[11,5004]),(3,[9,10]),(1,[6]),(0,[4])] Proofs.Tryz.f103
def Ro:TC:=dL Rm 72162200
def Rp:TFn:=tl [] [] [] [(1,[0,1,5,5003]),(0,[4])] Proofs.Tryz.f72
def Rq:TFn:=tl [(zI,0,[14,15])] [(0,23412100)] [] [(7,[0,1,7,8,9]),(6,[5,16,18]),(5,[0,1,5,7,8,16,17]),(4,[11,5004]),(3,[9,10]),(1,[6]),(0,[4])] Proofs.Tryz.f104
def Rr:TC:=dL Rq 23412100
def O2:TFn:=tl [] [] [] [(1,[0,1,5,5003]),(0,[4])] Proofs.Tryz.f74
def O3:TFn:=tl [(zK,0,[4])] [] [1] [(1,[1,3,4,5]),(0,[0,2])] Proofs.Tryz.f73
def O4:TFn:=tl [] [] [] [(8,[14]),(7,[14]),(6,[0,12,13]),(5,[0,12]),(4,[3,8,10,11]),(3,[0,3,8,9]),(2,[7]),(1,[4,5,6]),(0,[2])] Proofs.Tryz.f38
def t5:Opd:=.t 5
def t7:Opd:=.t 7
def t8:Opd:=.t 8
def rO:Opd:=.t 11
def tC:Opd:=.t 12
def FF:Opd:=.t 13
def MX:Opd:=.t 14
def yIo:TC:=(zQ (oQ [oX 8 .lss 7 6] []) (zQ (zC t8 .skip (.exit 0)) (zQ (zB 1 (zQ (.ops [O 9 (.iad 1 t5 t7),oF 10 1 9,M 4 10] [⟨0,zI,0⟩,⟨1,zI,0⟩] [] [8,9,10]) (.yret (.seq (.ops [M 11 0,M 12 4,O 13 (.call rO [tC]),O 14 (.un .not FF)] [] [4,11,12,13]) (.cond MX .ret .skip)) [M 11 0,M 12 4] 13 rO [tC] 14 [4,11,12,13]))) (oQ [O 15 (.bin .add t7 (I 1)),M 7 15] [14,15]))))
def O5:TFn:=⟨2,[],(zQ (oQ [oF 5 1 1,O 6 (.len t5),O 7 (.mv (I 0))] [1]) (zB 0 (.loop 27750900 yIo)))⟩
def t0:Opd:=.t 0
def t1:Opd:=.t 1
def Rs:TFn:=⟨1,[.tmp 2],(zQ (oQ [O 1 (.boxH true 1 t0),O 2 (.mv (.c .nilf))] [0,2]) (zQ (oQ [O 3 (.mkFn (.func Mt) [] [t1]),M 2 3] [1,3]) .ret))⟩
def yIp:TC:=(zQ (oQ [oX 8 .lss 7 6] []) (zQ (zC t8 .skip (.exit 0)) (zQ (zB 1 (zQ (.ops [O 9 (.iad 1 t5 t7),oF 10 1 9,M 4 10] [⟨0,zI,0⟩,⟨1,zI,0⟩] [] [8,9,10]) (.yret (.seq (.ops [M 11 0,M 12 4,O 13 (.call rO [tC]),O 14 (.un .not FF)] [] [4,11,12,13]) (.cond MX .ret .skip)) [M 11 0,M 12 4] 13 rO [tC] 14 [4,11,12,13]))) (oQ [O 15 (.bin .add t7 (I 1)),M 7 15] [14,15]))))
def ynD:TC:=(zQ (oQ [oF 5 1 1,O 6 (.len t5),O 7 (.mv (I 0))] [1]) (zB 0 (.loop 32280200 yIp)))
def ynE:TC:=(oQ [M 5 7] [4,6,7])
def t2:Opd:=.t 2
def t9:Opd:=.t 9
def FG:Opd:=.t 10
def ynF:TC:=(zB 1 (.ops [oF 8 1 2,M 9 5,O 10 (.bD 1 (.int .i64 (0)) 1 [(0,t9)]),O 11 (.app true 1 8 t8 FG),zS 1 t2 rO] [⟨0,zD,0⟩,⟨4,zD,0⟩] [] [2,5,8,9,10,11]))
def t6:Opd:=.t 6
def O6:TFn:=⟨2,[.tmp 4],(zQ (oQ [O 2 (.boxH false 1 t0),O 4 (.mv (.c .nils))] [0]) (zQ (zQ (oQ [M 6 1] [1]) (zB 0 (.rangeF t6 Mt 2 ynD [7] ynE ynF))) (zQ (.ops [oF 12 1 2,M 4 12] [⟨0,zD,0⟩] [] [2,6,12]) .ret)))⟩
def t3:Opd:=.t 3
def O7:TFn:=⟨1,[.tmp 2],(zQ (oQ [O 2 (.mv (.c .nils))] [2]) (zQ (oQ [M 3 0,O 4 (.call (.f M6) [(.c .nils),t3]),M 2 4] [0,3,4]) .ret))⟩
def yRG:TFn:=tl [] [] [] [(7,[0,8,13,5005]),(6,[11,12]),(5,[8,9,10]),(4,[4,7]),(2,[2,4,5,6]),(1,[3])] Proofs.Tryz.f140
def O8:TFn:=tl [] [] [] [(10,[0,14,19,5005]),(9,[17,18]),(8,[14,15,16]),(7,[8,13]),(6,[11,12]),(5,[8,9,10]),(4,[4,7]),(2,[2,4,5,6]),(1,[3])] Proofs.Tryz.f141
def ySs:TFn:=tl [] [] [] [(2,[0,6,7]),(1,[0,3,4,5]),(0,[2])] Proofs.Tryz.f119
def yLN:TFn:=tl [] [] [] [(1,[0,3,4,5]),(0,[2])] Proofs.Tryz.f156
def yMH:TFn:=tl [] [] [] [(1,[0,1,5,5011]),(0,[4])] Proofs.Tryz.f137
def CX:Opd:=.t 19
def IQ:Opd:=.t 20
def Rt:Opd:=.t 21
def FH:Opd:=.t 22
def MY:Opd:=.t 23
def CY:Opd:=.t 24
def FI:Opd:=.t 25
def FJ:Opd:=.t 26
def Ru:Opd:=.t 27
def CZ:Opd:=.t 28
def FK:Opd:=.t 29
def IR:Opd:=.t 30
def FL:Opd:=.t 31
def MZ:Opd:=.t 33
def Na:Opd:=.t 34
def IS:Opd:=.t 35
def Rv:Opd:=.t 36
def Rw:Opd:=.t 37
def O9:Opd:=.t 38
def Nb:Opd:=.t 39
def Rx:Opd:=.t 40
def IT:Opd:=.t 42
def P0:Opd:=.t 43
def P3:Opd:=.t 44
def Nc:Opd:=.t 46
def Ry:Opd:=.t 47
def t48:Opd:=.t 48
def yIq:TC:=(zQ (zQ (.ops [M 16 7,M 17 1,oX 18 .gtr 16 17,M 19 18,zT 20 19 (.mv t0),zT 21 19 (.mv t7),zT 22 19 (.iad 1 IQ Rt),zT 23 19 (.load false 1 FH),zT 24 19 (.mv t0),zT 25 19 (.mv t7),zT 26 19 (.bin .sub FI (I 1)),zT 27 19 (.iad 1 CY FJ),zT 28 19 (.load false 1 Ru),zT 29 19 (.call (.f Mv) [MY,CZ]),O 30 (.pick CX FK (.c (.bool false)))] [⟨6,zI,0⟩,⟨7,zI,0⟩,⟨11,zI,0⟩,⟨12,zI,0⟩] [(0,1),(4,5),(4,8),(5,8),(6,8),(7,8),(4,9),(5,9),(6,9),(7,9),(8,9),(4,10),(5,10),(6,10),(7,10),(8,10),(4,11),(5,11),(6,11),(7,11),(4,12),(5,12),(6,12),(7,12)] (zR 16 14)) (zC IR .skip (.exit 2))) (zQ (zB 3 (.ops [M 33 0,M 34 7,M 35 0,M 36 7,O 37 (.bin .sub Rv (I 1)),M 38 0,M 39 7,O 40 (.bin .sub Nb (I 1)),O 41 (.iad 1 O9 Rx),oF 42 1 41,M 43 0,M 44 7,O 45 (.iad 1 P0 P3),oF 46 1 45,O 47 (.iad 1 MZ Na),zS 1 Ry IT,O 48 (.iad 1 IS Rw),zS 1 t48 Nc] [⟨8,zI,0⟩,⟨9,zI,0⟩,⟨12,zI,0⟩,⟨13,zI,0⟩,⟨14,zI,0⟩,⟨15,zI,0⟩,⟨16,zI,0⟩,⟨17,zI,0⟩] [(0,1),(0,2),(1,2),(0,3),(1,3),(2,3),(0,4),(1,4),(2,4),(0,5),(1,5),(2,5),(3,5),(4,5),(0,6),(1,6),(2,6),(3,6),(4,6),(5,6),(0,7),(1,7),(2,7),(3,7),(4,7),(5,7),(0,8),(1,8),(2,8),(3,8),(4,8),(0,9),(1,9),(2,9),(3,9),(4,9),(0,10),(1,10),(2,10),(3,10),(4,10),(5,10),(6,10),(7,10),(8,10),(9,10),(0,11),(1,11),(2,11),(3,11),(4,11),(5,11),(6,11),(7,11),(8,11),(9,11),(10,11),(0,12),(1,12),(2,12),(3,12),(4,12),(5,12),(6,12),(7,12),(8,12),(9,12),(0,13),(1,13),(2,13),(3,13),(4,13),(5,13),(6,13),(7,13),(8,13),(9,13),(2,14),(3,14),(4,14),(2,15),(3,15),(4,15)] [30,33,34,35,36,37,38,39,40,41,42,43,44,45,46,47,48])) (oQ [M 31 7,O 32 (.bin .sub FL (I 1)),M 7 32] [31,32])))
def yIr:TC:=(zQ (zQ (oQ [M 10 6,M 11 2,oX 12 .lss 10 11] [10,11]) (zC tC .skip (.exit 0))) (zQ (zB 1 (zQ (oQ [M 15 6,M 7 15] [12,15]) (zB 2 (.loop 58428500 yIq)))) (oQ [M 13 6,O 14 (.bin .add FF (I 1)),M 6 14] [7,13,14,30])))
def P4:TFn:=⟨3,[],(zQ (oQ [M 8 1,O 9 (.bin .add t8 (I 1)),M 6 9] [8,9]) (zB 0 (.loop 58428501 yIr)))⟩
end Go.Pf.Vc
