/- Part 2. -/
import Derived.Test.YtfljciocndelnaaGreatEoW1
open Go.IntKind (i64 u8 u64)
open List (length getD take drop replicate set map isEmpty)
namespace Go.Pf
open Go
section
variable {E:Env} {F F':aF} {H H' H1:Hp} {call:Nat→List PV→Hp→Option (PV×Hp)}
theorem ii {o:AO} {out:Out} {row:PV} (h:yad E call F H o.op=some out) (hb:out.x=some (.box row)):yn5 o=o.dst∧out.bx=none:=by
 have hv:∀ {p:PV} {H},outV p H=some out→False:=fun e=>by rw [sC e] at hb;cases hb
 unfold yn5
 cases hop:o.op<;>rw [hop] at h<;>simp only [yad] at h
 case allocL z=>cases h;exact ⟨rfl,rfl⟩
 case boxL x=>
  split at h
  ·split at h
   ·cases h;exact ⟨rfl,rfl⟩
   ·cases h
  ·cases h
 all_goals (repeat' split at h)
 all_goals first | (cases h;done) | exact (hv h).elim | (cases h;cases hb;done)
end
end Go.Pf
namespace Go.Pf
open Go Go.RowKit
section
variable {E:Env} {F F':aF} {H H' H1:Hp} {call:Nat→List PV→Hp→Option (PV×Hp)}
theorem ij {dst:Option Nat} {x:Option FV} {F1:aF} (h:yfy F dst x=some F1) (hb:∀ row d,x=some (.box row)→dst=some d→noBp F d=true):ydh F dst x=some F1:=by
 cases dst with
 | none=>cases x with
  | none=>exact h
  | some fv=>cases fv<;>exact h
 | some d=>cases x with
  | none=>exact h
  | some fv=>
   cases fv with
   | box row=>simp only [ydh];rw [ae _ _ (hb row d rfl rfl)];exact h
   | _=>exact h
inductive Loc where
 | sl (s:Nat)
 | bk (id:Nat)
 | len
inductive LV where
 | f (x:Option FV)
 | b (x:Option HB)
 | n (k:Nat)
def look (S:aF×Hp):Loc→LV
 | .sl s=>.f (fget S.1 s)
 | .bk id=>.b S.2[id]?
 | .len=>.n S.2.length
def RdP (p:FP):Loc→Prop
 | .sl s=>s∈p.rd
 | .bk id=>id∈p.hr∨id∈p.hw∨p.all=true
 | .len=>p.push=true∨p.all=true
def WrP (p:FP):Loc→Prop
 | .sl s=>s∈p.wr
 | .bk id=>id∈p.hw∨p.all=true
 | .len=>p.push=true∨p.all=true
theorem XH {gd:Option (Nat×Bool)} (h:nR (Ek gd) F F'):ycN F' gd=ycN F gd:=by
 cases gd with
 | none=>rfl
 | some x =>obtain ⟨s,want⟩:=x;simp only [ycN,h s (by simp [Ek])]
theorem Oi (F:aF) (bx:Option (Nat×PV)) (k:Nat):fget (kQ F bx) k=match bx with | some (s,row)=>if k=s then some (.box row) else fget F k | none=>fget F k:=by
 cases bx with
 | none=>rfl
 | some x=>obtain ⟨s,row⟩:=x;simp only [kQ,oH]
theorem XI {o:AO} {S1:aF×Hp} (h:yfc E call o (F,H)=some S1) (S':aF×Hp) (hag:∀ l,RdP (ydd E F H o) l→look S' l=look (F,H) l) :
  ∃ T',yfc E call o S'=some T'∧(∀ l,WrP (ydd E F H o) l→look T' l=look S1 l)∧(∀ l,¬WrP (ydd E F H o) l→look T' l=look S' l):=by
 obtain ⟨F',H'⟩:=S';have hF:nR (ydd E F H o).rd F F':=fun s hs=>by
  have:=hag (.sl s) hs;simpa [look] using this
 unfold yfc at h ⊢;simp only [] at h ⊢;unfold ydd at hag hF ⊢;split at h
 ·cases h
 ·-- the guard says no
  rename_i hg;rw [hg] at hag hF ⊢;simp only [] at hag hF ⊢;rw [XH hF,hg];simp only []
  cases hd:o.dst with
  | none=>
   rw [hd] at h
   cases h
   exact ⟨_,rfl,fun l hl=>by cases l<;>simp [WrP] at hl,fun _ _=>rfl⟩
  | some d=>
   rw [hd] at h
   cases h
   refine ⟨_,rfl,fun l hl=>?_,fun l hl=>?_⟩
   ·cases l<;>simp [WrP] at hl
    subst hl;simp [look,oH]
   ·cases l with
    | sl s =>simp [WrP] at hl;simp [look,oH,hl]
    | _=>rfl
 ·rename_i hg;rw [hg] at hag hF ⊢;simp only [] at hag hF ⊢;rw [HA] at hF;rw [XH hF.1,hg];simp only [];split at h
  ·cases h
  ·rename_i out x bx H2 hout;simp only [pH] at h;obtain ⟨F1,hput,e⟩:=h;subst e;have hall:(aO E F H o.op).all=true→H'=H:=fun ha=>sW fun k=>by
    have:=hag (.bk k) (.inr (.inr ha));simpa [look] using this
   have hH:AgH (aO E F H o.op) H H':=by
    refine ⟨fun id hid=>?_,fun hp=>?_,hall⟩
    ·have:=hag (.bk id) (hid.elim .inl fun x=>.inr (.inl x));simpa [look] using this
    ·have:=hag .len (.inl hp);simpa [look] using this
   obtain ⟨H2',h1,h2⟩:=ia hH hout;have h3:yad E call F' H' o.op=some ⟨x,bx,H2'⟩:=by
    rw [gn (F:=F) (H:=H') (by rw [ie o.op H' H];exact hF.2)];exact h1
   rw [h3];simp only [];have hput':∃ F1',yfy (kQ F' bx) o.dst x=some F1'∧(∀ s,s∈o.dst.toList++(aO E F H o.op).wr→fget F1' s=fget F1 s)∧(∀ s,s∉o.dst.toList++(aO E F H o.op).wr→fget F1' s=fget F' s):=by
    have hbx:∀ s row,bx=some (s,row)→s∈(aO E F H o.op).wr:=fun s row e=>(XG hout e).1
    have hin:∀ s,s∈(aO E F H o.op).wr→fget (kQ F' bx) s=fget (kQ F bx) s:=by
     intro s hs;rw [Oi,Oi];have:=hF.2 s (ig _ _ hs)
     cases bx with
     | none=>exact this
     | some y=>obtain ⟨s',row⟩:=y;simp only [this]
    have hnin:∀ s,s∉(aO E F H o.op).wr→fget (kQ F' bx) s=fget F' s:=by
     intro s hs;rw [Oi]
     cases bx with
     | none=>rfl
     | some y=>
      obtain ⟨s',row⟩:=y;simp only [];have hne:¬s=s':=fun e=>hs (e ▸ hbx s' row rfl)
      rw [VY hne]
    cases hdst:o.dst with
    | none=>
     rw [hdst] at hput;have hx:∀ G:aF,yfy G none x=some G:=by
      cases x with
      | none=>intro G;rfl
      | some fv=>cases fv with
       | box row=>simp [yfy] at hput
       | _=>intro G;rfl
     rw [hx] at hput
     cases hput
     refine ⟨_,hx _,fun s hs=>hin s (by simpa using hs),fun s hs=>hnin s (by simpa using hs)⟩
    | some d=>
     rw [hdst] at hput;have key:∀ (G:aF),∃ G1,yfy G (some d) x=some G1∧fget G1 d=x∧∀ s,s≠d→fget G1 s=fget G s:=by
      intro G
      cases x with
      | none=>exact ⟨_,rfl,by simp [AH],fun s hs=>by simp [AH,hs]⟩
      | some fv=>exact ⟨_,rfl,by simp [oH],fun s hs=>by simp [oH,hs]⟩
     obtain ⟨G1,k1,k2,k3⟩:=key (kQ F bx);rw [k1] at hput
     cases hput
     obtain ⟨G2,k4,k5,k6⟩:=key (kQ F' bx);refine ⟨G2,k4,fun s hs=>?_,fun s hs=>?_⟩
     ·by_cases e:s=d
      ·subst e;rw [k2,k5]
      ·rw [k6 s e,k3 s e];simp only [Option.toList_some,qAz,Ed,e,false_or] at hs;exact hin s hs
     ·simp only [Option.toList_some,qAz,Ed,not_or] at hs;rw [k6 s hs.1];exact hnin s hs.2
   obtain ⟨F1',e1,e2,e3⟩:=hput';rw [e1];refine ⟨(F1',H2'),rfl,fun l hl=>?_,fun l hl=>?_⟩
   ·cases l with
    | sl s=>simp only [WrP] at hl;simp only [look,e2 s hl]
    | bk id=>
     simp only [WrP] at hl;simp only [look];rcases hl with hl | hl
     ·cases ha:(aO E F H o.op).all
      ·rw [h2.inn ha id hl]
      ·rw [h2.all ha]
     ·rw [h2.all hl]
    | len=>
     simp only [WrP] at hl;simp only [look];rcases hl with hl | hl
     ·rw [h2.push hl]
     ·rw [h2.all hl]
   ·cases l with
    | sl s=>simp only [WrP] at hl;simp only [look,e3 s hl]
    | bk id =>simp only [WrP,not_or] at hl;simp only [look];rw [(h2.out (by simpa using hl.2) id hl.1).2]
    | len =>simp only [WrP,not_or] at hl;simp only [look];rw [(h2.len (by simpa using hl.1) (by simpa using hl.2)).2]
theorem ik {f g:Fn} (h:tC f g=true):f=g:=by
 unfold tC at h;split at h
 ·rw [eq_of_beq h]
 ·rw [eq_of_beq h]
 ·exact of_decide_eq_true h
theorem il (f:Fn):tC f f=true:=by
 cases f<;>simp [tC]
mutual
theorem im:∀ (x:PV),jK x x=true
 | .bool _ | .int _ _ | .nilp | .nils | .emp | .nilf | .mt _ | .ptr _ _ _ _ | .own _ _ _ _ _ | .sub _ _ _ _ _ _=>by simp [jK]
 | .eptr r _ _=>by simp [jK,AS r]
 | .data r=>by simp [jK,AS r]
 | .agg r=>by simp [jK,AS r]
 | .tup r=>by simp [jK,AS r]
 | .fn f a b=>by simp [jK,il f,AS a,AS b]
theorem AS:∀ (x:List PV),gX x x=true
 | []=>rfl
 | x::r=>by simp [gX,im x,AS r]
end
theorem io (b:HB):tE b b=true:=by simp [tE,AS]
theorem Oj:∀ (i:Nat) (H H1:Hp),H1.length=H.length→∀ id,H1[id]?=H[id]?→i+id∉cV i H H1
 | i,[],[],_,id,_=>by simp [cV,tF]
 | i,a::r,b::s,hl,id,h=>by
  have hl':s.length=r.length:=by simpa using hl
  have hin:∀ (k:Nat) (H H1:Hp) (x:Nat),x∈cV k H H1→k≤x:=by
   intro k H;induction H generalizing k with
   | nil=>
    intro H1;induction H1 generalizing k with
    | nil=>intro x hx;simp [cV,tF] at hx
    | cons _ s ih=>
     intro x hx;simp only [cV,tF,qAp] at hx;rcases hx with rfl | hx
     ·exact bV _
     ·have:=ih (k+1) x hx;omega
   | cons a r ih=>
    intro H1 x hx
    cases H1 with
    | nil=>
     simp only [cV,qAp] at hx;rcases hx with rfl | hx
     ·exact bV _
     ·have:=ih (k+1) [] x hx;omega
    | cons b s=>
     simp only [cV] at hx;split at hx
     ·have:=ih (k+1) s x hx;omega
     ·simp only [qAp] at hx;rcases hx with rfl | hx
      ·exact bV _
      ·have:=ih (k+1) s x hx;omega
  cases id with
  | zero =>simp only [GV,bU] at h;subst h;simp only [cV,io,if_true];intro hm;have:=hin _ _ _ _ hm;omega
  | succ id=>
   have h2:s[id]?=r[id]?:=by simpa using h
   have:=Oj (i+1) r s hl' id h2;rw [show i+1+id=i+(id+1) by omega] at this;simp only [cV];split
   ·exact this
   ·simp only [qAp,not_or];exact ⟨by omega,this⟩
 | i,[],_::_,hl,_,_=>by simp at hl
 | i,_::_,[],hl,_,_=>by simp at hl
mutual
theorem ip:∀ (x y:PV),jK x y=true→x=y
 | .bool a,y,h=>by cases y<;>simp [jK] at h;rw [h]
 | .int k a,y,h=>by cases y<;>simp [jK] at h;rw [h.1,h.2]
 | .nilp,y,h=>by cases y<;>simp [jK] at h;rfl
 | .nils,y,h=>by cases y<;>simp [jK] at h;rfl
 | .emp,y,h=>by cases y<;>simp [jK] at h;rfl
 | .nilf,y,h=>by cases y<;>simp [jK] at h;rfl
 | .mt a,y,h=>by cases y<;>simp [jK] at h;rw [h]
 | .ptr ..,y,h=>by cases y<;>simp [jK] at h;rw [h.1,h.2.1,h.2.2.1,h.2.2.2]
 | .own ..,y,h=>by cases y<;>simp [jK] at h;rw [h.1,h.2.1,h.2.2.1,h.2.2.2.1,h.2.2.2.2]
 | .sub ..,y,h=>by cases y<;>simp [jK] at h;rw [h.1,h.2.1,h.2.2.1,h.2.2.2.1,h.2.2.2.2.1,h.2.2.2.2.2]
 | .eptr r i o,y,h=>by cases y<;>simp [jK] at h;rw [AT _ _ h.1,h.2.1,h.2.2]
 | .data a,y,h=>by cases y<;>simp only [jK,fK] at h;rw [AT _ _ h]
 | .agg a,y,h=>by cases y<;>simp only [jK,fK] at h;rw [AT _ _ h]
 | .tup a,y,h=>by cases y<;>simp only [jK,fK] at h;rw [AT _ _ h]
 | .fn f a b,y,h=>by
  cases y with
  | fn f' a' b' =>simp only [jK,cA] at h;rw [ik h.1,AT _ _ h.2.1,AT _ _ h.2.2]
  | _=>simp [jK] at h
theorem AT:∀ (x y:List PV),gX x y=true→x=y
 | [],y,h=>by cases y<;>simp [gX] at h;rfl
 | x::a,y,h=>by
  cases y with
  | nil=>simp [gX] at h
  | cons z b =>simp only [gX,cA] at h;rw [ip _ _ h.1,AT _ _ h.2]
end
theorem iq {a b:HB} (h:tE a b=true):a=b:=by obtain ⟨f1,p1,e1,r1⟩:=a;obtain ⟨f2,p2,e2,r2⟩:=b;simp only [tE,cA,beq_iff_eq] at h;obtain ⟨h1,h2,h3,h4⟩:=h;rw [h1,h2,h3,AT _ _ h4]
theorem KE:∀ (i:Nat) (H H1:Hp) (id:Nat),i+id∉cV i H H1→H1[id]?=H[id]?
 | _,[],[],id,_=>rfl
 | i,a::r,b::s,id,h=>by
  simp only [cV] at h
  cases id with
  | zero=>
   split at h
   ·rename_i e;simp [iq e]
   ·simp at h
  | succ id=>
   have:i+1+id∉cV (i+1) r s:=by
    rw [show i+1+id=i+(id+1) by omega];split at h
    ·exact h
    ·exact fun hm=>h (gL _ hm)
   simpa using KE (i+1) r s id this
 | i,_::r,[],id,h=>by
  simp only [cV] at h
  cases id with
  | zero=>simp at h
  | succ id=>
   have:i+1+id∉cV (i+1) r []:=by rw [show i+1+id=i+(id+1) by omega];exact fun hm=>h (gL _ hm)
   simpa using KE (i+1) r [] id this
 | i,[],_::s,id,h=>by
  simp only [cV,tF] at h
  cases id with
  | zero=>simp at h
  | succ id=>
   have:i+1+id∉cV (i+1) [] s:=by rw [show i+1+id=i+(id+1) by omega];exact fun hm=>h (gL _ hm)
   simpa using KE (i+1) [] s id this
theorem ir {o:AO} {S1:aF×Hp} (h:yfc E call o (F,H)=some S1) (S':aF×Hp) (hag:∀ l,RdP ((ydd E F H o).tight H S1.2) l→look S' l=look (F,H) l) :
  ∃ T',yfc E call o S'=some T'∧(∀ l,WrP ((ydd E F H o).tight H S1.2) l→look T' l=look S1 l)∧(∀ l,¬WrP ((ydd E F H o).tight H S1.2) l→look T' l=look S' l):=by
 unfold FP.tight at hag ⊢
 cases ha:(ydd E F H o).all with
 | false =>rw [ha] at hag;simp only [fK,if_false] at hag ⊢;exact XI h S' hag
 | true=>
  rw [ha] at hag;simp only [if_true] at hag ⊢;have hlen:S'.2.length=H.length:=by
   have:=hag .len (.inl rfl);simpa [look] using this
  have hbk:∀ id:Nat,S'.2[id]?=H[id]?:=by
   intro id
   by_cases hid:id<H.length
   ·have:=hag (.bk id) (.inl (xM.2 hid));simpa [look] using this
   ·rw [jV (by omega),jV (by omega)]
  obtain ⟨T',h1,h2,h3⟩:=XI h S' fun l hl=>by
   cases l with
   | sl s=>exact hag (.sl s) hl
   | bk id=>simp [look,hbk id]
   | len=>simp [look,hlen]
  refine ⟨T',h1,fun l hl=>?_,fun l hl=>?_⟩
  ·cases l with
   | sl s=>exact h2 (.sl s) hl
   | bk id=>exact h2 (.bk id) (.inr ha)
   | len=>exact h2 .len (.inr ha)
  ·cases l with
   | sl s=>exact h3 (.sl s) hl
   | bk id=>
    have e1:=h2 (.bk id) (.inr ha);have hn:id∉cV 0 H S1.2:=fun hm=>hl (.inl hm)
    have e2:=KE 0 H S1.2 id (by rw [mM];exact hn);rw [e1];simp only [look];rw [e2,hbk id]
   | len=>exact absurd (.inl rfl) hl
def stAt (E:Env) (call:Nat→List PV→Hp→Option (PV×Hp)):List AO→Nat→aF×Hp→aF×Hp
 | [],_,S=>S
 | _::_,0,S=>S
 | o::r,i+1,S=>match yfc E call o S with
  | some S'=>stAt E call r i S'
  | none=>S
theorem XJ:∀ (l:List AO) (F:aF) (H:Hp) (F':aF) (H':Hp) (ps:List FP),yf9 E call l F H=some (F',H',ps) →
  ps.length=l.length∧stAt E call l 0 (F,H)=(F,H)∧stAt E call l l.length (F,H)=(F',H') ∧
  ∀ (i:Nat) (o:AO),l[i]?=some o→yfc E call o (stAt E call l i (F,H))=some (stAt E call l (i+1) (F,H))∧ps[i]?=some ((ydd E (stAt E call l i (F,H)).1 (stAt E call l i (F,H)).2 o).tight (stAt E call l i (F,H)).2 (stAt E call l (i+1) (F,H)).2)
 | [],F,H,F',H',ps,h=>by simp only [yf9,bU,Prod.mk.injEq] at h;obtain ⟨rfl,rfl,rfl⟩:=h;exact ⟨rfl,rfl,rfl,fun i o e=>by simp at e⟩
 | o::r,F,H,F',H',ps,h=>by
  simp only [yf9] at h;split at h
  ·rename_i F1 H1 hs;split at h
   ·rename_i F2 H2 ps' hr
    cases h
    obtain ⟨h1,h2,h3,h4⟩:=XJ r F1 H1 F' H' ps' hr;have hs':yfc E call o (F,H)=some (F1,H1):=hs;refine ⟨by simp [h1],rfl,by simp only [gS,stAt,hs'];exact h3,fun i o' e=>?_⟩
    cases i with
    | zero=>
     simp only [GV,bU] at e;subst e;have e0:stAt E call (o::r) 0 (F,H)=(F,H):=rfl;have e1:stAt E call (o::r) (0+1) (F,H)=(F1,H1):=by simp only [stAt,hs'];exact h2
     rw [e0,e1];exact ⟨hs',rfl⟩
    | succ i=>
     simp only [JQ] at e;obtain ⟨h5,h6⟩:=h4 i o' e;have e1:∀ k,stAt E call (o::r) (k+1) (F,H)=stAt E call r k (F1,H1):=fun k=>by simp only [stAt,hs']
     rw [e1,e1];exact ⟨h5,by simpa using h6⟩
   ·cases h
  ·cases h
theorem AU {a b:List Nat} (h:kD a b=false):∀ s∈a,s∉b:=by
 induction a with
 | nil=>intro s hs;simp at hs
 | cons x r ih=>
  simp only [kD,Ax] at h;intro s hs;rcases qAp.1 hs with rfl | hs
  ·intro hb;have:=h.1;simp [hb] at this
  ·exact ih h.2 s hs
theorem it {p q:FP} (h:vM p q=false):∀ l,¬(WrP p l∧(RdP q l∨WrP q l))∧¬(WrP q l∧RdP p l):=by
 simp only [vM,Ax] at h;obtain ⟨⟨⟨⟨⟨⟨⟨⟨h1,h2⟩,h3⟩,h4⟩,h5⟩,h6⟩,h7⟩,h8⟩,h9⟩:=h;have heapyP:p.heapy=false↔p.push=false∧p.all=false∧p.hr=[]∧p.hw=[]:=by
  simp [FP.heapy,and_assoc]
 have heapyQ:q.heapy=false↔q.push=false∧q.all=false∧q.hr=[]∧q.hw=[]:=by simp [FP.heapy,and_assoc]
 intro l
 cases l with
 | sl s=>
  refine ⟨fun ⟨a,b⟩=>?_,fun ⟨a,b⟩=>AU h3 s a b⟩;rcases b with b | b
  ·exact AU h1 s a b
  ·exact AU h2 s a b
 | bk id=>
  have pall:p.all=true→q.push=false∧q.all=false∧q.hr=[]∧q.hw=[]:=fun e=>by rw [e] at h4;exact heapyQ.1 (by simpa using h4)
  have qall:q.all=true→p.push=false∧p.all=false∧p.hr=[]∧p.hw=[]:=fun e=>by rw [e] at h5;exact heapyP.1 (by simpa using h5)
  constructor
  ·rintro ⟨a,b⟩;simp only [WrP,RdP] at a b;rcases a with a | a
   ·rcases b with (b | b | b) | (b | b)
    ·exact AU h7 id a b
    ·exact AU h8 id a b
    ·have:=(qall b).2.2.2;rw [this] at a;cases a
    ·exact AU h8 id a b
    ·have:=(qall b).2.2.2;rw [this] at a;cases a
   ·obtain ⟨q1,q2,q3,q4⟩:=pall a;rcases b with (b | b | b) | (b | b)
    ·rw [q3] at b;cases b
    ·rw [q4] at b;cases b
    ·rw [q2] at b;cases b
    ·rw [q4] at b;cases b
    ·rw [q2] at b;cases b
  ·rintro ⟨a,b⟩;simp only [WrP,RdP] at a b;rcases a with a | a
   ·rcases b with b | b | b
    ·exact AU h9 id a b
    ·exact AU h8 id b a
    ·have:=(pall b).2.2.2;rw [this] at a;cases a
   ·obtain ⟨q1,q2,q3,q4⟩:=qall a;rcases b with b | b | b
    ·rw [q3] at b;cases b
    ·rw [q4] at b;cases b
    ·rw [q2] at b;cases b
 | len=>
  have pall:p.all=true→q.push=false∧q.all=false:=fun e=>by rw [e] at h4;have:=heapyQ.1 (by simpa using h4);exact ⟨this.1,this.2.1⟩
  have qall:q.all=true→p.push=false∧p.all=false:=fun e=>by rw [e] at h5;have:=heapyP.1 (by simpa using h5);exact ⟨this.1,this.2.1⟩
  have hpp:p.push=true→q.push=true→False:=fun a b=>by rw [a,b] at h6;cases h6
  have both:WrP p .len→WrP q .len→False:=by
   simp only [WrP];rintro (a | a) (b | b)
   ·exact hpp a b
   ·have:=(qall b).1;rw [a] at this;cases this
   ·have:=(pall a).1;rw [b] at this;cases this
   ·have:=(pall a).2;rw [b] at this;cases this
  exact ⟨fun ⟨a,b⟩=>both a (b.elim id id),fun ⟨a,b⟩=>both b a⟩
theorem XK {ps:List FP}:∀ (pairs:List (Nat×Nat)),yhw ps pairs=true→∀ i j,(i,j)∈pairs→∃ p q,ps[i]?=some p∧ps[j]?=some q∧vM p q=false
 | [],_,i,j,h=>by simp at h
 | (a,b)::r,h,i,j,hm=>by
  simp only [yhw,cA] at h;rcases qAp.1 hm with e | hm
  ·cases e
   have h1:=h.1;split at h1
   ·rename_i p q hp hq;exact ⟨p,q,hp,hq,by simpa using h1⟩
   ·cases h1
  ·exact XK r h.2 i j hm
theorem KF {d k:Nat} {x:FV}:∀ (F:aF),noBp F d=true→(∀ off,x≠.bp d off)→noBp (bB F k x) d=true
 | [],_,hx=>by
  cases x with
  | bp s off=>simp only [bB,noBp,Bool.and_true,pI,beq_eq_false_iff_ne];exact fun e=>hx off (by rw [e])
  | _=>simp [bB,noBp]
 | (j,y)::r,h,hx=>by
  have hy:noBp r d=true∧∀ (z:FV),noBp ((j,z)::r) d=(match z with | .bp s _=>!(s==d)&&noBp r d | _=>noBp r d):=by
   refine ⟨?_,fun z=>by cases z<;>rfl⟩
   cases y<;>simp [noBp] at h<;>first | exact h | exact h.2
  have hput:∀ (j:Nat) (r:aF),noBp r d=true→noBp ((j,x)::r) d=true:=by
   intro j r hr
   cases x with
   | bp s off =>simp only [noBp,hr,Bool.and_true,pI,beq_eq_false_iff_ne];exact fun e=>hx off (by rw [e])
   | _=>simpa [noBp] using hr
  simp only [bB];split
  ·exact hput _ _ h
  ·split
   ·exact hput _ _ hy.1
   ·have ih:=KF (k:=k) r hy.1 hx
    cases y<;>simp [noBp] at h ⊢ <;> first | exact ih | exact ⟨h.1,ih⟩
theorem XL {d:Nat}:∀ {l:List AO} {o:AO},o∈l→o.dst=some d→1≤xO d l
 | x::r,o,h,hd=>by
  simp only [xO];rcases qAp.1 h with rfl | h
  ·simp [hd]
  ·have:=XL h hd;omega
theorem XM:∀ (l:List AO) (F:aF) (H:Hp) (T:aF×Hp),ymO (yfc E call) l (F,H)=some T →
  (∀ o∈l,∀ d,yn5 o=some d→noBp F d=true∧fget F d=none∧xO d l=1)→mC E call l F H=some T
 | [],F,H,T,h,_=>by simpa [ymO,mC] using h
 | o::r,F,H,T,h,hf=>by
  simp only [ymO] at h;split at h
  ·rename_i S1 hs;obtain ⟨F1,H1⟩:=S1;have hboth:yeX E call F H o=some (F1,H1)∧∀ d,noBp F d=true→fget F d=none→o.dst≠some d→noBp F1 d=true∧fget F1 d=none:=by
    unfold yfc at hs;simp only [] at hs;unfold yeX;split at hs
    ·cases hs
    ·rename_i hg;refine ⟨hs,fun d h1 h2 h3=>?_⟩
     cases hdst:o.dst with
     | none=>rw [hdst] at hs;cases hs;exact ⟨h1,h2⟩
     | some d' =>rw [hdst] at hs;cases hs;refine ⟨KF _ h1 (fun off e=>by cases e),?_⟩;rw [oH,VY (fun e=>h3 (by rw [hdst,e]))];exact h2
    ·rename_i hg;split at hs
     ·cases hs
     ·rename_i out x bx H2 hout;simp only [pH] at hs ⊢;obtain ⟨F2,hp,e⟩:=hs;refine ⟨⟨F2,ij hp fun row d hx hd=>?_,e⟩,fun d h1 h2 h3=>?_⟩
      ·obtain ⟨hb1,hb2⟩:=ii hout hx;have hb2':bx=none:=hb2;rw [hb2'];exact (hf o (by simp) d (hb1.trans hd)).1
      ·cases e
       have hbx:noBp (kQ F bx) d=true∧fget (kQ F bx) d=none:=by
        cases bx with
        | none=>exact ⟨h1,h2⟩
        | some y=>
         obtain ⟨s,row⟩:=y;obtain ⟨_,row0,hrow0⟩:=XG hout rfl;have hne:d≠s:=fun e=>by rw [e,hrow0] at h2;cases h2
         refine ⟨KF _ h1 (fun off e=>by cases e),?_⟩;simp only [kQ,oH,VY hne];exact h2
       have hxbp:∀ off,x≠some (.bp d off):=by
        intro off e;rcases yFx hout e with ⟨row,hr⟩ | hr
        ·rw [hr] at h2;cases h2
        ·rw [hr] at h1;cases h1
       cases hdst:o.dst with
       | none=>
        rw [hdst] at hp
        cases x with
        | none=>simp only [yfy,bU] at hp;subst hp;exact hbx
        | some fv=>cases fv<;>simp only [yfy,bU] at hp<;>first | (subst hp;exact hbx) | cases hp
       | some d'=>
        have hne:d≠d':=fun e=>h3 (by rw [hdst,e])
        rw [hdst] at hp
        cases x with
        | none =>simp only [yfy,bU] at hp;subst hp;exact ⟨He _ hbx.1,by rw [AH,VY hne];exact hbx.2⟩
        | some fv =>simp only [yfy,bU] at hp;subst hp;exact ⟨KF _ hbx.1 (fun off e=>hxbp off (by rw [e])),by rw [oH,VY hne];exact hbx.2⟩
   obtain ⟨hstep,hkeep⟩:=hboth;simp only [mC,hstep];refine XM r F1 H1 T h fun o' ho' d hd=>?_
   obtain ⟨h1,h2,h3⟩:=hf o' (by simp [ho']) d hd;have hdst:o'.dst=some d:=by
    unfold yn5 at hd;split at hd<;>first | exact hd | cases hd
   have hpos:=XL ho' hdst;simp only [xO] at h3;have hne:o.dst≠some d:=by intro e;rw [VX e] at h3;omega
   rw [VY hne] at h3;obtain ⟨h4,h5⟩:=hkeep d h1 h2 hne;exact ⟨h4,h5,by omega⟩
  ·cases h
theorem XN {all:List AO}:∀ (l:List AO),El F all l=true→∀ o∈l,∀ d,yn5 o=some d→noBp F d=true∧fget F d=none∧xO d all=1
 | [],_,o,h,_,_=>by simp at h
 | x::r,h,o,ho,d,hd=>by
  simp only [El,cA] at h;rcases qAp.1 ho with rfl | ho
  ·have h1:=h.1;rw [hd] at h1;simp only [cA,Option.isNone_iff_eq_none,beq_iff_eq] at h1;exact ⟨h1.1.1,h1.1.2,h1.2⟩
  ·exact XN r h.2 o ho d hd
theorem XO (d:Nat) (l:List AO):xO d l=l.countP (fun o=>o.dst==some d):=by
 induction l with
 | nil=>rfl
 | cons o r ih=>
  simp only [xO,List.countP_cons,ih]
  by_cases h:o.dst=some d
  ·simp [h];omega
  ·simp [h]
end
theorem XP (o:Oper):xQ o=vS o:=by
 unfold xQ vS;congr 1
 funext e
 unfold Region.binds
 cases e.ground<;>simp
def EH (es acc:List Nat) (s:Nat):Nat:=es.foldl (fun s i=>s|||2 ^ i|||acc.getD i 0) s
theorem yv7 (acc:List Nat) (b:Nat):∀ (es:List Nat) (s:Nat),(EH es acc s).testBit b=true→s.testBit b=true∨∃ i∈es,b=i∨(acc.getD i 0).testBit b=true
 | [],s,h=>.inl h
 | i::r,s,h=>by
  have h':(EH r acc (s|||2 ^ i|||acc.getD i 0)).testBit b=true:=h;rcases yv7 acc b r _ h' with h1 | ⟨j,h1,h2⟩
  ·rw [Nat.testBit_or,Nat.testBit_or,sY,sY] at h1;rcases h1 with (h1 | h1) | h1
   ·exact .inl h1
   ·right;rw [Nat.testBit_two_pow] at h1;exact ⟨i,by simp,.inl (by simpa using (of_decide_eq_true h1).symm)⟩
   ·exact .inr ⟨i,by simp,.inr h1⟩
  ·exact .inr ⟨j,by simp [h1],h2⟩
theorem Ok:∀ (l:List Oper) (acc:List Nat),(nP l acc).length=acc.length+l.length
 | [],acc=>by simp [nP]
 | o::r,acc=>by simp only [nP];rw [Ok r];simp;omega
theorem Ol:∀ (l:List Oper) (acc:List Nat) (e:Nat),e<acc.length→(nP l acc).getD e 0=acc.getD e 0
 | [],acc,e,_=>rfl
 | o::r,acc,e,h=>by simp only [nP];rw [Ol r _ e (by simp;omega)];simp [qD,h]
theorem XQ:∀ (l:List Oper) (acc:List Nat) (k:Nat) (o:Oper),l[k]?=some o→∃ acc',(nP l acc).getD (acc.length+k) 0=EH (xQ o) acc' 0∧∀ e,(acc'.getD e 0≠0→e<acc.length+k)∧(e<acc.length+k→acc'.getD e 0=(nP l acc).getD e 0)
 | [],acc,k,o,h=>by simp at h
 | x::r,acc,k,o,h=>by
  cases k with
  | zero=>
   simp only [GV,bU] at h;subst h;refine ⟨acc,?_,fun e=>⟨fun hne=>?_,fun he=>(Ol _ acc e (by simpa using he)).symm⟩⟩
   ·simp only [nP,vH];rw [Ol r _ acc.length (by simp)];simp [EH]
   ·rcases qA4 e acc.length with h1 | h1
    ·simpa using h1
    ·rw [cO,jV h1] at hne;simp at hne
  | succ k=>
   simp only [JQ] at h;obtain ⟨acc',h1,h2⟩:=XQ r (acc++[EH (xQ x) acc 0]) k o h;have hl:(acc++[EH (xQ x) acc 0]).length+k=acc.length+(k+1):=by simp;omega
   rw [hl] at h1 h2;exact ⟨acc',h1,h2⟩
theorem XS {l:List Oper} (h:Hl l=true):∀ (i:Nat) (o:Oper),l[i]?=some o→∀ k∈xQ o,k<i:=by
 intro i o ho k hk;simp only [Hl,Ay,xM] at h;have hi:i<l.length:=by
  rcases qA4 i l.length with h1|h1
  ·exact h1
  ·rw [jV h1] at ho;cases ho
 have:=h i hi;rw [ho] at this;simp only [Ay,decide_eq_true_eq] at this;exact this k hk
theorem XT {ops:Array Oper} {σ:List Nat} (hback:Hl ops.toList=true) (hσ:∀ a j b,σ=a++j::b→∀ o,ops[j]?=some o→∀ k∈vS o,k∈a) :
  ∀ (j:Nat) (a b:List Nat) (i:Nat),σ=a++j::b→j<ops.size→((nP ops.toList []).getD j 0).testBit i=true→i∈a:=by
 intro j;induction j using Nat.strongRecOn with
 | _ j ih=>
  intro a b i e hj hbit;have hoj:ops.toList[j]?=some ops[j]:=by simp [hj]
  obtain ⟨acc',h1,h2⟩:=XQ ops.toList [] j _ hoj;simp only [xL,mM] at h1 h2;rw [h1] at hbit;rcases yv7 acc' i (xQ ops[j]) 0 hbit with h3 | ⟨k,hk,h3⟩
  ·simp at h3
  ·have hka:k∈a:=hσ a j b e ops[j] (by simp [hj]) k (by rw [← XP];exact hk);rcases h3 with rfl | h3
   ·exact hka
   ·have hkj:k<j:=XS hback j _ hoj k hk;obtain ⟨a1,a2,ea⟩:=List.append_of_mem hka;rw [(h2 k).2 hkj] at h3;have:=ih k hkj a1 (a2++j::b) i (by rw [e,ea];simp) (by omega) h3;rw [ea];simp [this]
theorem XU {cl:List Nat} {i j:Nat} (hij:i<j) (hj:j<cl.length) (hb:(cl.getD j 0).testBit i=false):(i,j)∈Hk cl:=by simp only [Hk,List.mem_flatMap,xM,List.mem_filterMap];exact ⟨j,hj,i,hij,by rw [hb];rfl⟩
section
variable {P:Program} {E:Env}
theorem iu (hE:EO P E) (hm:P.follows .mixedOrders=true):∀ call,yaT P E call→Hx P E call:=by
 intro call hc ro nt base g F H a w loc ops l F' H' id hro hl hd hb h hr hL hdf;obtain ⟨hlen,hget⟩:=Hw _ _ hl;have hsz:l.length=ops.size:=by simpa using hlen
 refine wpIn_region_draw fun t=>?_
 have hsched:Region.schedule (P.follows .mixedOrders) ops t=Region.linearise.go .any ops ops.size t (Array.replicate ops.size false) []:=by rw [hm];rfl
 rw [hsched];have hcount:(List.range ops.size).countP (fun i=>!(Array.replicate ops.size false).getD i true)≤ops.size:=by
  have:=List.countP_le_length (p:=fun i=>!(Array.replicate ops.size false).getD i true) (l:=List.range ops.size);simpa using this
 obtain ⟨hmem,hnd,hord⟩:=gm ops (fun i o ho k hk=>XS hb i o (by simpa using ho) k (by rw [XP];exact hk)) ops.size t (Array.replicate ops.size false) (by simp) hcount;revert hmem hnd hord;generalize Region.linearise.go .any ops ops.size t (Array.replicate ops.size false) []=σ;intro hmem hnd hord;have hmem':∀ i,i∈σ↔i<ops.size:=by
  intro i;rw [← hmem i];refine ⟨fun x=>x.1,fun x=>⟨x,?_⟩⟩;simp [x]
 have hord':∀ a j b,σ=a++j::b→∀ o,ops[j]?=some o→∀ k∈vS o,k∈a:=by
  intro a j b e o ho k hk;rcases hord a j b e o ho k hk with h1 | h1
  ·simp only [As,Array.getElem?_replicate] at h1;split at h1<;>simp at h1
  ·exact h1
 have hperm:σ.Perm (List.range ops.size):=(List.perm_ext_iff_of_nodup hnd List.nodup_range).2 fun i=>by rw [hmem' i,xM]
 have hlperm:(σ.filterMap (l[·]?)).Perm l:=by have:=hperm.filterMap (l[·]?);rw [← hsz,Ob] at this;exact this
 have hrd:Rel E nt g F H a.tmps { w with drawn:=w.drawn+1 }:=hr.drew;have hclean:∀ (l:List AO) (F:aF) s x,fget (vN F l) s=some x→fget F s=some x:=by
  intro l;induction l with
  | nil=>intro F s x e;exact e
  | cons o r ih=>
   intro F s x e;simp only [vN] at e;split at e
   ·rename_i d _;have:=ih _ s x e;rw [AH] at this;split at this
    ·cases this
    ·exact Nt F d s x this
   ·exact ih _ s x e
 have hrun:∃ F0 F2 H2,(∀ s x,fget F0 s=some x→fget F s=some x)∧mC E call (σ.filterMap (l[·]?)) F0 H=some (F2,H2)∧H2=H'∧∀ s,fget F2 s=fget F' s:=by
  unfold yeG at h
  cases hp:Hk (nP ops.toList []) with
  | nil=>
   rw [hp] at h;have hsort:σ=List.range ops.size:=by
    have key:∀ (τ:List Nat) (k:Nat),(∀ a j b,τ=a++j::b→∀ i,k≤i→i<j→i∈a)→τ.Nodup→(∀ i,i∈τ↔k≤i∧i<ops.size)→k≤ops.size→τ=List.range' k (ops.size-k):=by
     intro τ;induction τ with
     | nil=>
      intro k _ _ h3 hk;have:¬(k<ops.size):=fun hlt=>by have:=(h3 k).2 ⟨bV k,hlt⟩;cases this
      have:ops.size-k=0:=by omega
      rw [this];rfl
     | cons x τ ih=>
      intro k h1 h2 h3 hk;have hx:=(h3 x).1 (by simp);have hxk:x=k:=by
       rcases qA4 k x with hlt|hge
       ·have:=h1 [] x τ rfl k (bV k) hlt;cases this
       ·omega
      subst hxk;have:ops.size-x=(ops.size-(x+1))+1:=by omega
      rw [this,List.range'_succ];congr 1;rw [List.nodup_cons] at h2;refine ih (x+1) (fun a j b e i hi hij=>?_) h2.2 (fun i=>?_) (by omega)
      ·have:=h1 (x::a) j b (by rw [e];rfl) i (by omega) hij;rcases qAp.1 this with e2 | e2
       ·omega
       ·exact e2
      ·have h4:=h3 i;rw [qAp] at h4;constructor
       ·intro hi;have h5:=h4.1 (.inr hi);have:i≠x:=fun e=>h2.1 (e ▸ hi)
        omega
       ·intro hi;rcases h4.2 ⟨by omega,hi.2⟩ with e | e
        ·omega
        ·exact e
    have:=key σ 0 (fun a j b e i _ hij=>?_) hnd (fun i=>by rw [hmem' i];simp) (jJ _)
    ·rw [this,Nat.sub_zero,List.range_eq_range']
    ·have hj:j<ops.size:=(hmem' j).1 (by rw [e];simp);refine XT hb hord' j a b i e hj ?_
     cases hbit:((nP ops.toList []).getD j 0).testBit i
     ·have:=XU hij (by rw [Ok];simpa using hj) hbit;rw [hp] at this;cases this
     ·rfl
   rw [hsort,← hsz,Ob];exact ⟨F,F',H',fun _ _ e=>e,h,rfl,fun _=>rfl⟩
  | cons pr prs=>
   rw [hp] at h;simp only [] at h;split at h
   ·rename_i F1 H1 ps hps;split at h
    ·rename_i hok
     cases h
     rw [← hp] at hok;have hcl:=hclean l F;obtain ⟨F0,hF0⟩:∃ F0,F0=vN F l:=⟨_,rfl⟩;rw [← hF0] at hps hok hcl;obtain ⟨s1,s2,s3,s4⟩:=XJ _ _ _ _ _ _ hps;let st:Nat→aF×Hp:=fun i=>stAt E call l i (F0,H)
     let R:Nat→Loc→Prop:=fun i x=>∃ p,ps[i]?=some p∧RdP p x
     let W:Nat→Loc→Prop:=fun i x=>∃ p,ps[i]?=some p∧WrP p x
     have hlocal:Local look (yfc E call) l st R W:=by
      refine ⟨fun i o ho=>?_,fun i o ho S' hag=>?_⟩
      ·exact (s4 i o ho).1
      ·obtain ⟨h1,h2⟩:=s4 i o ho;obtain ⟨T',k1,k2,k3⟩:=ir h1 S' (fun x hx=>hag x ⟨_,h2,hx⟩);refine ⟨T',k1,fun x ⟨p,e,hx⟩=>?_,fun x hx=>k3 x fun hw=>hx ⟨_,h2,hw⟩⟩;rw [h2] at e;cases e;exact k2 x hx
     have hfree:∀ i j,i<j→(i∈σ∧j∈([]:List Nat)∨(∃ a b c,σ=a++j::(b++i::c)))→xT R W i j:=by
      intro i j hij hcase;rcases hcase with ⟨_,hx⟩ | ⟨a,b,c,e⟩
      ·cases hx
      ·have hj:j<ops.size:=(hmem' j).1 (by rw [e];simp);have hbit:((nP ops.toList []).getD j 0).testBit i=false:=by
        cases hbit:((nP ops.toList []).getD j 0).testBit i
        ·rfl
        ·have hia:=XT hb hord' j a _ i e hj hbit;rw [e,List.nodup_append] at hnd;exact absurd rfl (hnd.2.2 i hia i (by simp))
       obtain ⟨p,q,hp1,hq1,hcl⟩:=XK _ hok.1 i j (XU hij (by rw [Ok];simpa using hj) hbit);intro x;obtain ⟨f1,f2⟩:=it hcl x;refine ⟨fun ⟨⟨p',e1,w1⟩,r1⟩=>f1 ?_,fun ⟨⟨q',e1,w1⟩,⟨p',e2,r1⟩⟩=>f2 ?_⟩
       ·rw [hp1] at e1;cases e1;refine ⟨w1,r1.imp (fun ⟨q',e2,r2⟩=>?_) (fun ⟨q',e2,r2⟩=>?_)⟩
        ·rw [hq1] at e2;cases e2;exact r2
        ·rw [hq1] at e2;cases e2;exact r2
       ·rw [hq1] at e1;cases e1;rw [hp1] at e2;cases e2;exact ⟨w1,r1⟩
     obtain ⟨T',k1,k2⟩:=hlocal.perm σ [] (F0,H) (by simpa using hnd) (fun i=>by rw [hsz,BM,hmem' i]) hfree (fun x _=>by show look (F0,H) x=look (st 0) x;rw [show st 0=(F0,H) from s2]) (fun x i hi=>by cases hi);have hfin:st l.length=(F',H'):=s3;rw [hfin] at k2;have hfresh:=XM _ F0 H T' k1 fun o ho d hdo=>by
      obtain ⟨b1,b2,b3⟩:=XN l hok.2 o (hlperm.mem_iff.1 ho) d hdo;refine ⟨b1,b2,?_⟩;rw [XO,hlperm.countP_eq,← XO];exact b3
     refine ⟨F0,T'.1,T'.2,hcl,hfresh,sW fun k=>?_,fun s=>?_⟩
     ·have:=k2 (.bk k);simpa [look] using this
     ·have:=k2 (.sl s);simpa [look] using this
    ·cases h
   ·cases h
 obtain ⟨F0,F2,H2,h0,h1,rfl,h3⟩:=hrun;refine Xs (F':=F2) (H':=H2) hE hc hl hd hro σ g F0 H a _ (fun i hi=>(hmem' i).1 hi) (hrd.less h0) (hL.nx (Nx.drew g H w)) h1 ?_;intro a' w' g' d1 n1 r1;exact ⟨trivial,g',(Nx.drew g H w).trans n1,r1.less fun s x hs=>by rw [h3 s];exact hs,(hdf.nx ((Nx.drew g H w).trans n1)).go d1⟩
theorem XV (hE:EO P E) (hm:P.follows .mixedOrders=true) (n:Nat):yaT P E (yak E n):=
 (gk (fun _ hE=>iu hE hm) n E hE).2.2.2
end
def topV (E:Env) (n f:Nat) (args:List PV):Option PV:=
 match yak E n f args [] with
 | some (r,H)=>kC (E.nl f) H r
 | none=>none
section
variable {P:Program} {E:Env}
theorem XW (hE:EO P E) (hm:P.follows .mixedOrders=true) {n f:Nat} {args:List PV} {q:PV} (h:topV E n f args=some q):qJ P E.glob f args q:=by
 intro I w vs himm hgl hv;unfold topV at h;split at h
 ·rename_i r H hin;exact run_pure (XV hE hm n) himm hgl hv hin h
 ·cases h
end
mutual
def fZ:PV→PV→Bool
 | .bool a,.bool b=>a==b
 | .int k a,.int l b=>decide (k=l)&&decide (a=b)
 | .nilp,.nilp=>true
 | .nils,.nils=>true
 | .emp,.emp=>true
 | .nilf,.nilf=>true
 | .data a,.data b=>lD a b
 | .agg a,.agg b=>lD a b
 | .tup a,.tup b=>lD a b
 | _,_=>false
def lD:List PV→List PV→Bool
 | [],[]=>true
 | x::a,y::b=>fZ x y&&lD a b
 | _,_=>false
end
mutual
theorem iv:∀ (x y:PV),fZ x y=true→x=y
 | .bool a,y,h=>by cases y<;>simp [fZ] at h;rw [h]
 | .int k a,y,h=>by cases y<;>simp [fZ] at h;rw [h.1,h.2]
 | .nilp,y,h=>by cases y<;>simp [fZ] at h;rfl
 | .nils,y,h=>by cases y<;>simp [fZ] at h;rfl
 | .emp,y,h=>by cases y<;>simp [fZ] at h;rfl
 | .nilf,y,h=>by cases y<;>simp [fZ] at h;rfl
 | .data a,y,h=>by cases y<;>simp only [fZ,fK] at h;rw [HD _ _ h]
 | .agg a,y,h=>by cases y<;>simp only [fZ,fK] at h;rw [HD _ _ h]
 | .tup a,y,h=>by cases y<;>simp only [fZ,fK] at h;rw [HD _ _ h]
 | .ptr ..,y,h=>by cases y<;>simp [fZ] at h
 | .eptr ..,y,h=>by cases y<;>simp [fZ] at h
 | .own ..,y,h=>by cases y<;>simp [fZ] at h
 | .sub ..,y,h=>by cases y<;>simp [fZ] at h
 | .fn ..,y,h=>by cases y<;>simp [fZ] at h
theorem HD:∀ (x y:List PV),lD x y=true→x=y
 | [],y,h=>by cases y<;>simp [lD] at h;rfl
 | x::a,y,h=>by
  cases y with
  | nil=>simp [lD] at h
  | cons z b =>simp only [lD,cA] at h;rw [iv _ _ h.1,HD _ _ h.2]
end
abbrev vT:=List (Nat×List PV×PV)
def ylz:vT→Nat→List PV→Option PV
 | [],_,_=>none
 | (k,as,r)::t,n,bs=>bif Nat.beq k n&&lD as bs then some r else ylz t n bs
theorem Om:∀ (t:vT) (n:Nat) (as:List PV) (r:PV),ylz t n as=some r→(n,as,r)∈t
 | [],_,_,_,h=>by simp [ylz] at h
 | (k,bs,q)::t,n,as,r,h=>by
  simp only [ylz] at h
  cases hc:(Nat.beq k n&&lD bs as) with
  | true =>rw [hc] at h;simp only [cond_true,bU] at h;simp only [cA] at hc;have h1:=fU hc.1;have h2:=HD _ _ hc.2;subst h1;subst h2;subst h;simp
  | false =>rw [hc] at h;simp only [cond_false] at h;exact gL _ (Om t n as r h)
section
variable {P:Program} {E:Env}
def ytI:List (Nat×AFn)→Nat→Option AFn
 | [],_=>none
 | (k,a)::r,n=>bif Nat.beq k n then some a else ytI r n
def Cd (P:Program):List (Nat×AFn)→Prop
 | []=>True
 | (n,a)::r=>(∃ f loc fg,P.funcs[n]?=some f∧bA P loc fg f=some a)∧Cd P r
theorem Oo:∀ (l:List (Nat×AFn)),Cd P l→∀ n a,ytI l n=some a→∃ f loc fg,P.funcs[n]?=some f∧bA P loc fg f=some a
 | [],_,_,_,h=>by simp [ytI] at h
 | (k,b)::r,hl,n,a,h=>by
  simp only [Cd] at hl;simp only [ytI] at h
  cases hc:Nat.beq k n with
  | true =>rw [hc] at h;simp only [cond_true,bU] at h;have:=fU hc;subst this;subst h;exact hl.1
  | false =>rw [hc] at h;exact Oo r hl.2 n a (by simpa using h)
def memN:List Nat→Nat→Bool
 | [],_=>false
 | k::r,n=>bif Nat.beq k n then true else memN r n
def u6 (n:Nat):PV:=.int .u64 (n:Int)
def sumC (add sub:Nat) (n:Nat) (as:List PV):Option PV:=
 match as with
 | [.int .u64 a,.int .u64 b,.int .u64 c]=>
  bif Nat.beq n add&&Nat.ble c.toNat 1 then some (.tup [u6 ((a.toNat+b.toNat+c.toNat)%18446744073709551616),u6 ((a.toNat+b.toNat+c.toNat)/18446744073709551616)])
  else bif Nat.beq n sub&&Nat.ble c.toNat 1 then some (.tup [u6 ((a.toNat+18446744073709551616-b.toNat-c.toNat)%18446744073709551616),u6 (bif Nat.ble (b.toNat+c.toNat) a.toNat then 0 else 1)])
  else none
 | _=>none
def HE:Array Value→Sem Value:=fun args=>do
 let (x, y, b) ← Extern.MathBitsCarry.three "Sub64" args
 pure (Extern.MathBitsCarry.pair ((x+Extern.MathBitsCarry.m64-y-b)%Extern.MathBitsCarry.m64) (if x<y+b then 1 else 0))
theorem iw (x y:Int) (b:Nat) (hb:b≤1) (w:World) :
  (HE #[.int .u64 x,.int .u64 y,.int .u64 b]).run P w =
   .ok (.tuple #[.int .u64 (((x.toNat+18446744073709551616-y.toNat-b)%18446744073709551616:Nat):Int),.int .u64 ((if x.toNat<y.toNat+b then 1 else 0:Nat):Int)]) w:=by
 have:b=0∨b=1:=by omega
 rcases this with rfl | rfl<;>rfl
theorem ix (x y:Int) (b:Nat) (hb:b≤1) (w:World) :
  (add64Entry #[.int .u64 x,.int .u64 y,.int .u64 b]).run P w =
   .ok (.tuple #[.int .u64 (((x.toNat+y.toNat+b)%18446744073709551616:Nat):Int),.int .u64 (((x.toNat+y.toNat+b)/18446744073709551616:Nat):Int)]) w:=by
 have:b=0∨b=1:=by omega
 rcases this with rfl | rfl<;>rfl
theorem XX {I:Nat→Prop} {w:World} {a b c:Int} {vs:List Value} (h:fW I w [.int .u64 a,.int .u64 b,.int .u64 c] vs):vs=[.int .u64 a,.int .u64 b,.int .u64 c]:=by simp only [fW,fD,RC,kO,and_true] at h;obtain ⟨v,r,rfl,⟨rfl,_⟩,v2,r2,rfl,⟨rfl,_⟩,v3,r3,rfl,⟨rfl,_⟩,rfl⟩:=h;rfl
structure IsExtern (P:Program) (f:FuncId) (e:Array Value→Sem Value):Prop where
 h : ∃ fn, P.funcs[f]? = some fn ∧ (fn.name == "runtime.NumGoroutine") = false ∧ fn.body.isNone = true ∧ Extern.findNext fn = none ∧ Extern.find fn = some e
theorem IsExtern.run {f:FuncId} {e:Array Value→Sem Value} (h:IsExtern P f e) (args:Array Value) (w:World):(callFunc f args).run P w=((e args).run P w).andThen fun v w'=>.ok (.value v) w':=by obtain ⟨fn,h1,h2,h3,h4,h5⟩:=h.h;exact run_callFunc_extern h1 h2 h3 h4 h5 args w
theorem XY (n:Nat) (h:n<18446744073709551616):iL .u64 (n:Int):=by
 have h0:u64.min=0:=by decide
 have h1:u64.max=18446744073709551615:=by decide
 exact ⟨by rw [h0];omega,by rw [h1];omega⟩
theorem XZ {G:Nat→Option PV} {f:FuncId} {as:List PV} {a b:Nat} (ha:a<18446744073709551616) (hb:b<18446744073709551616)
  (h:∀ (I:Nat→Prop) (w:World) (vs:List Value),fW I w as vs→(callFunc f vs.toArray).run P w=.ok (.value (.tuple #[.int .u64 (a:Int),.int .u64 (b:Int)])) w):qJ P G f as (.tup [u6 a,u6 b]):=by
 intro I w vs _ _ hv;unfold nQ;rw [h I w vs hv];refine ⟨Bel.refl _ _,?_⟩;simp only [VP,fW,fD,RC,u6];exact ⟨_,rfl,_,_,rfl,⟨rfl,XY a ha⟩,_,_,rfl,⟨rfl,XY b hb⟩,rfl⟩
theorem Ya {G:Nat→Option PV} {add sub:Nat} (ha:IsExtern P add add64Entry) (hs:IsExtern P sub HE):∀ n as r,sumC add sub n as=some r→qJ P G n as r:=by
 intro n as r h;unfold sumC at h;split at h
 ·rename_i a b c;have key:∀ (x y:Int) (I:Nat→Prop) (w:World) (vs:List Value),fW I w [.int .u64 a,.int .u64 b,.int .u64 c] vs→a.toNat<18446744073709551616∧b.toNat<18446744073709551616∧0≤c:=by
   intro x y I w vs hv;simp only [fW,fD,RC,iL] at hv;obtain ⟨v,r,-,⟨-,h1⟩,v2,r2,-,⟨-,h2⟩,v3,r3,-,⟨-,h3⟩,-⟩:=hv;have e1:u64.max=18446744073709551615:=by decide
   have e0:u64.min=0:=by decide
   rw [e1] at h1 h2;rw [e0] at h3;exact ⟨by omega,by omega,h3.1⟩
  cases h1:(Nat.beq n add&&Nat.ble c.toNat 1) with
  | true=>
   rw [h1] at h;simp only [cond_true,bU] at h;simp only [cA] at h1;have e:=fU h1.1;have hc:=Aw h1.2;subst e;subst h;intro I w vs hI hgl hv;obtain ⟨la,lb,-⟩:=key 0 0 I w vs hv;refine XZ (Nat.mod_lt _ (by omega)) (by omega) (fun I w vs hv=>?_) I w vs hI hgl hv;have h0:=(key 0 0 I w vs hv).2.2;have ec:c=(c.toNat:Int):=by omega
   rw [XX hv,ha.run,ec];exact Aaa (fun r=>Result.andThen r fun v w'=>Result.ok (Next.value v) w') (ix a b c.toNat hc w)
  | false=>
   rw [h1] at h;simp only [cond_false] at h
   cases h2:(Nat.beq n sub&&Nat.ble c.toNat 1) with
   | true=>
    rw [h2] at h;simp only [cond_true,bU] at h;simp only [cA] at h2;have e:=fU h2.1;have hc:=Aw h2.2;subst e;subst h;refine XZ (Nat.mod_lt _ (by omega)) (by cases Nat.ble (b.toNat+c.toNat) a.toNat<;>simp) (fun I w vs hv=>?_);have:(if a.toNat<b.toNat+c.toNat then 1 else 0:Nat)=(bif Nat.ble (b.toNat+c.toNat) a.toNat then 0 else 1):=by
     cases hh:Nat.ble (b.toNat+c.toNat) a.toNat with
     | true=>have:=Aw hh;simp;omega
     | false=>
      have:¬(b.toNat+c.toNat≤a.toNat):=fun hle=>by rw [Ea hle] at hh;cases hh
      simp;omega
    have h0:=(key 0 0 I w vs hv).2.2;have ec:c=(c.toNat:Int):=by omega
    rw [← this,XX hv,hs.run,ec];exact Aaa (fun r=>Result.andThen r fun v w'=>Result.ok (Next.value v) w') (iw a b c.toNat hc w)
   | false=>rw [h2] at h;cases h
 ·cases h
def iy (add sub:Nat) (tab:List (Nat×AFn)) (qui:List Nat):Env:={ glob:=fun _=>none,sum:=sumC add sub,fns:=ytI tab,frz:=fun _=>false,qui:=memN qui }
theorem iz {add sub:Nat} {tab:List (Nat×AFn)} {qui:List Nat} (ha:IsExtern P add add64Entry) (hs:IsExtern P sub HE) (ht:Cd P tab):EO P (iy add sub tab qui) where
 sum:=fun n as r h=>Ya ha hs n as r h
 fns:=fun n fn h=>Oo tab ht n fn h
 eff:=fun _ _ _ _ _ _ _ h=>by cases h
 dn:=fun _ h=>by cases h
 top:=fun _ _=>rfl
 yl:=fun _ _ _ _ _ _ h=>by cases h
end
def ja (P:Program) (n:Nat):Prop:=∀ (args:Array Value) (w:World),(callFunc n args).run P w=.ok (.enter n args) w∧CallsDIn (Fc none) 0 P n args .returning w fun e u w'=>u=.returning∧w'=w∧∃ v,e=.returned v
def Ce:List Nat→List Nat
 | []=>[]
 | k::r=>bif Nat.ble 6000000 k then (k-6000000)::Ce r else Ce r
theorem Yb {n:Nat}:∀ {l:List Nat},memN l (n+6000000)=true→n∈Ce l
 | [],h=>by cases h
 | k::r,h=>by
  have h:(bif Nat.beq k (n+6000000) then true else memN r (n+6000000))=true:=h
  cases hb:Nat.beq k (n+6000000) with
  | true =>have e:=fU hb;subst e;have:Nat.ble 6000000 (n+6000000)=true:=Ea (by omega);simp only [Ce,this,cond_true,Nat.add_sub_cancel,qAp,true_or]
  | false=>
   rw [hb] at h;have:=Yb (l:=r) h;simp only [Ce]
   cases Nat.ble 6000000 k with
   | true=>exact gL _ this
   | false=>exact this
end Go.Pf
namespace Go.Pf
open Go
def aG (b:Bool) (x y:Prop):Prop:=match b with | true=>x | false=>y
def asr (b:Bool) (x:Prop):Prop:=match b with | true=>x | false=>False
theorem qL {b:Bool} {x y:Prop}:aG b x y↔(b=true→x)∧(b=false→y):=by cases b<;>simp [aG]
theorem bF {b:Bool} {x:Prop}:asr b x↔b=true∧x:=by cases b<;>simp [asr]
inductive Cs where
 | i (k:IntKind)
 | b
 | d
 deriving DecidableEq,Inhabited
inductive Sh where
 | raw
 | one (c:Cs)
 | agg (l:List Cs)
 deriving Inhabited
def aS:PV→Int
 | .int _ n=>n
 | _=>0
def Oq:PV→Bool
 | .bool b=>b
 | _=>false
def gH:PV→List PV
 | .data l=>l
 | _=>[]
def cQ (r:PV) (j:Nat):PV:=r.cells.getD j .nils
def EI:Cs→PV→PV
 | .i k,x=>.int k (aS x)
 | .b,x=>.bool (Oq x)
 | .d,x=>.data (gH x)
def HF:List Cs→PV→Nat→List PV
 | [],_,_=>[]
 | c::t,r,j=>EI c (cQ r j)::HF t r (j+1)
def qM:Sh→PV→PV
 | .raw,r=>r
 | .one c,r=>EI c r
 | .agg l,r=>.agg (HF l r 0)
def sF:Cs→PV→Bool
 | .i k,.int l _=>decide (k=l)
 | .b,.bool _=>true
 | .d,.data _=>true
 | _,_=>false
def EJ:List Cs→List PV→Bool
 | [],[]=>true
 | c::t,x::r=>sF c x&&EJ t r
 | _,_=>false
def aJ:Sh→PV→Bool
 | .raw,_=>true
 | .one c,x=>sF c x
 | .agg l,.agg cs=>EJ l cs
 | .agg _,_=>false
theorem Yc:∀ (c:Cs) (x:PV),sF c x=true→EI c x=x
 | .i k,x,h=>by cases x<;>simp [sF] at h;simp [EI,aS,h]
 | .b,x,h=>by cases x<;>simp [sF] at h;simp [EI,Oq]
 | .d,x,h=>by cases x<;>simp [sF] at h;simp [EI,gH]
theorem Yd:∀ (l:List Cs) (pre cs:List PV),EJ l cs=true→HF l (.agg (pre++cs)) pre.length=cs
 | [],pre,cs,h=>by cases cs<;>simp [EJ] at h;simp [HF]
 | c::t,pre,cs,h=>by
  cases cs with
  | nil=>simp [EJ] at h
  | cons x r=>
   simp only [EJ,cA] at h;have h1:cQ (.agg (pre++x::r)) pre.length=x:=by simp [cQ,PV.cells]
   have h2:=Yd t (pre++[x]) r h.2;simp only [sX,List.singleton_append,mB,List.length_singleton] at h2;simp only [HF,h1,Yc c x h.1,h2]
theorem Ye:∀ (s:Sh) (r:PV),aJ s r=true→qM s r=r
 | .raw,_,_=>rfl
 | .one c,x,h=>Yc c x h
 | .agg l,x,h=>by
  cases x with
  | agg cs=>have:=Yd l [] cs h;simpa [qM] using this
  | _=>simp [aJ] at h
structure An where
 at_:Nat
 sh:Sh
 md:Nat
 deriving Inhabited
inductive TC where
 | skip
 | ops (l:List AO) (an:List An) (pairs:List (Nat×Nat)) (forget:List Nat)
 | seq (a b:TC)
 | cond (c:Opd) (a b:TC)
 | block (id:Nat) (b:TC)
 | loop (id:Nat) (b:TC)
 | lG (id:Nat) (b:TC)
 | exit (id:Nat)
 | ret
 | bad
 | rangeF (g:Opd) (f np:Nat) (ib:TC) (ps:List Nat) (as bd:TC)
 | yret (c:AC) (pre:List AO) (d:Nat) (y:Opd) (args:List Opd) (e:Nat) (fgt:List Nat)
 | cut (c:AC)
 | join (id:Nat) (b:TC)
 deriving Inhabited
def erase:TC→AC
 | .skip=>.skip
 | .ops l _ ps fg=>.ops l ps fg
 | .seq a b=>.seq (erase a) (erase b)
 | .cond c a b=>.cond c (erase a) (erase b)
 | .block id b=>.block id (erase b)
 | .loop _ b=>.loop (erase b)
 | .lG _ b=>.lG (erase b)
 | .exit id=>.exit id
 | .ret=>.ret
 | .bad=>.bad
 | .rangeF g _ _ _ ps as bd=>.rangeF g ps (erase as) (erase bd)
 | .yret c pre d y args e fgt=>.yret c pre d y args e fgt
 | .cut c=>c
 | .join _ b=>erase b
structure TFn where
 nparams:Nat
 results:List ARes
 body:TC
 deriving Inhabited
def TFn.fn (t:TFn):AFn:=⟨t.nparams,t.results,erase t.body⟩
def Cf:List An→Nat→An
 | [],_=>⟨0,.raw,0⟩
 | a::r,i=>bif Nat.beq a.at_ i then a else Cf r i
def HG:Nat→List PV→Hp→Option (PV×Hp):=fun _ _ _=>none
abbrev OK:=Option FV→Option (Nat×PV)→Hp→Prop
abbrev CK:=PV→List PV→Hp→(PV→Hp→Prop)→Prop
def wv (H:Hp) (K:OK) (p:PV):Prop:=K (some (.v p)) none H
def HH (H:Hp) (x:PV) (K:PV→Hp→Prop):Prop:=
 match x with
 | .bool b=>K (.bool b) H
 | .int k n=>K (.int k n) H
 | .nils | .emp=>K (.data []) H
 | .data rows=>K (.data rows) H
 | .own id lo len ext _=>
  (match H[id]? with
   | some b=>asr (decide (b.rows.length=ext)) (asr (decide (lo+len≤ext)) (asr b.pu (K (.data ((b.rows.drop lo).take len)) (H.set id { b with fz:=true }))))
   | none=>False)
 | _=>False
def KG:Hp→List PV→(List PV→Hp→Prop)→Prop
 | H,[],K=>K [] H
 | H,x::r,K=>HH H x fun y H'=>KG H' r fun ys H''=>K (y::ys) H''
def xU (H:Hp) (x:PV) (K:PV→Hp→Prop):Prop:=
 match x with
 | .agg cs=>KG H cs fun ys H'=>K (.agg ys) H'
 | x=>HH H x K
def EK:Hp→List PV→(List PV→Hp→Prop)→Prop
 | H,[],K=>K [] H
 | H,x::r,K=>xU H x fun y H'=>EK H' r fun ys H''=>K (y::ys) H''
def KH (H:Hp) (x:PV) (K:PV→Prop):Prop:=
 match x with
 | .tup ps=>EK H ps fun qs _=>K (.tup qs)
 | x=>xU H x fun q _=>K q
def KI (H:Hp) (x:PV) (K:PV→Prop):Prop:=
 match x with
 | .ptr id ext i off=>(match H[id]? with
  | some b=>asr (decide (b.rows.length=ext)) (match b.rows[i]? with
   | some row=>xU H row fun q _=>K (.eptr [q] 0 off)
   | none=>False)
  | none=>False)
 | .eptr rows i off=>K (.eptr rows i off)
 | x=>xU H x fun q _=>K q
def KJ (H:Hp):List PV→(List PV→Prop)→Prop
 | [],K=>K []
 | x::r,K=>KI H x fun y=>KJ H r fun ys=>K (y::ys)
def HI (pu:Bool) (H:Hp) (x:PV) (K:PV→Hp→Prop):Prop:=match pu with | true=>xU H x K | false=>K x H
def EL (E:Env) (F:aF) (pu:Bool) (esz:Nat):List PV→Hp→List (Nat×Opd)→(List PV→Hp→Prop)→Prop
 | rows,H,[],K=>K rows H
 | rows,H,(i,x)::r,K=>
  match evV E F x with
  | some p=>HI pu H p fun q H'=>asr (Nat.beq q.cells.length esz&&Nat.blt i rows.length&&jW q.cells) (EL E F pu esz (rows.set i q) H' r K)
  | none=>False
def Cg (op:BinOp) (k k':IntKind) (a b:Int) (K:PV→Prop):Prop:=
 match op with
 | .quo=>asr (decide (k=k')) (asr (!decide (b=0)) (K (.int k (k.wrap (a.tdiv b)))))
 | .rem=>asr (decide (k=k')) (asr (!decide (b=0)) (K (.int k (a.tmod b))))
 | .shl=>asr (!decide (b<0)) (K (.int k (k.wrap (a*2 ^ (min b.toNat k.bits)))))
 | .shr=>asr (!decide (b<0)) (K (.int k (a.fdiv (2 ^ (min b.toNat k.bits)))))
 | op=>asr (decide (k=k')) (match binI op k a b with | some r=>K r | none=>False)
def AV (n:Nat) (j:Int) (K:Nat→Prop):Nat→Prop
 | 0=>False
 | m+1=>aG (decide (j=((n-(m+1):Nat):Int))) (K (n-(m+1))) (AV n j K m)
def HJ:List PV→Bool
 | []=>true
 | .int .u8 _::r=>HJ r
 | _=>false
def Ot (agg:Bool) (n esz:Nat) (cs:List PV) (j:Int) (K:PV→Prop):Prop:=
 asr (!agg&&(Nat.beq esz 1&&(Nat.beq n cs.length&&HJ cs))) (asr (decide (0≤j)) (asr (decide (j<(n:Int))) (K (.int .u8 (aS (cs.getD j.toNat .nils))))))
def Ou (H:Hp) (x:PV) (K:List PV→Prop):Prop:=
 match x with
 | .nils | .emp=>K []
 | .data rows=>K rows
 | .own id lo len ext _=>
  (match H[id]? with
   | some b=>asr (decide (b.rows.length=ext)) (asr (decide (lo+len≤ext)) (K ((b.rows.drop lo).take len)))
   | none=>False)
 | _=>False
def EM (H:Hp) (pu:Bool) (esz bytes:Nat) (rows:List PV) (K:PV→Hp→Prop):Prop:=
 asr (decide ((rows.length+64)*(bytes+1)≤room)) (K (.own H.length 0 rows.length rows.length none) (H++[⟨false,pu,esz,rows⟩]))
def Ci (md:Nat) (H:Hp) (pu:Bool) (esz bytes:Nat) (s:PV) (ys:List PV) (K:PV→Hp→Prop):Prop:=
 match s with
 | .nils=>aG ys.isEmpty (K .nils H) (EM H pu esz bytes ys K)
 | .emp=>aG ys.isEmpty (K .emp H) (EM H pu esz bytes ys K)
 | .own id lo len ext cap=>
  (match H[id]? with
   | some b=>
    asr (decide (b.rows.length=ext)) (asr (decide (b.pu=pu)&&decide (b.esz=esz)) (asr (decide (lo+len≤ext))
     (aG ys.isEmpty (K (.own id lo len ext cap) H)
      (match cap with
       | some c=>
        let W1:=asr (!b.fz) (K (.own id lo (len+ys.length) ext cap) (H.set id { b with rows:=b.rows.take (lo+len)++(ys++b.rows.drop (lo+len+ys.length)) }));let W2:=EM H pu esz bytes ((b.rows.drop lo).take len++ys) K
        (match md with
         | 9=>aG (decide (len+ys.length≤c)) W1 W2
         | 8=>aG (decide (len+ys.length≤c)) W1 W2
         | 2=>asr (!decide (len+ys.length≤c)) W2
         | _=>asr (decide (len+ys.length≤c)) W1)
       | none=>
        let W1:=K (.own id lo (len+ys.length) ext none) (H.set id { b with rows:=b.rows.take (lo+len)++(ys++b.rows.drop (lo+len+ys.length)) });let W3:=asr (decide (lo=0)) (asr (decide (len=ext)) (asr (decide ((ext+ys.length+64)*(bytes+1)≤room))
          (K (.own id 0 (b.rows++ys).length (b.rows++ys).length none) (H.set id { b with rows:=b.rows++ys }))))
        let W4:=asr (decide (lo=0)) (asr (decide (len≤ext)) (asr (decide ((len+ys.length+64)*(bytes+1)≤room))
          (K (.own id 0 (len+ys.length) (len+ys.length) none) (H.set id { b with rows:=b.rows.take len++ys }))))
        asr (!b.fz) (match md with
         | 9=>aG (decide (lo+len+ys.length≤ext)) W1 W3
         | 8=>aG (decide (lo+len+ys.length≤ext)) W1 W4
         | 1=>asr (decide (lo+len+ys.length≤ext)) W1
         | _=>asr (!decide (lo+len+ys.length≤ext)) W3)))))
   | none=>False)
 | _=>False
def Ov (H:Hp) (esz:Nat) (lo hi mx:Option Int) (x:PV) (K:PV→Prop):Prop:=
 match x with
 | .nils=>asr (decide (lo.getD 0=0)&&(decide (hi.getD 0=0)&&decide (mx.getD 0=0))) (K .nils)
 | .emp=>asr (decide (lo.getD 0=0)&&(decide (hi.getD 0=0)&&decide (mx.getD 0=0))) (K .emp)
 | .data rows=>
  let h:=hi.getD rows.length;let l:=lo.getD 0
  (match mx with
   | none=>asr (decide (0≤l)) (asr (decide (l≤h)) (asr (decide (h≤rows.length)) (asr (decide (l=0)||pN esz rows) (K (.data ((rows.take h.toNat).drop l.toNat))))))
   | some m=>asr (decide (0≤l)) (asr (decide (l≤h)) (asr (decide (h≤m)) (asr (decide (m≤rows.length)) (asr (decide (l=0)||pN esz rows)
      (aG (decide (l=m)) (K .emp) (K (.data ((rows.take h.toNat).drop l.toNat)))))))))
 | .own id lo0 len ext cap=>
  let h:=hi.getD len;let l:=lo.getD 0
  (match H[id]? with
   | some b=>asr (b.esz==esz)
    (match mx with
     | none=>asr (decide (0≤l)) (asr (decide (l≤h)) (asr (decide (h≤len)||decide (h≤BS len cap)) (K (.own id (lo0+l.toNat) (h-l).toNat ext (cap.map fun c=>c-l.toNat)))))
     | some m=>asr (decide (0≤l)) (asr (decide (l≤h)) (asr (decide (h≤m)) (asr (decide (m≤len)||decide (m≤BS len cap)) (K (.own id (lo0+l.toNat) (h-l).toNat ext (some (m-l).toNat)))))))
   | none=>False)
 | _=>False
def xV (sh:Sh) (rows:List PV) (i:Nat) (K:PV→Prop):Prop:=
 match sh with
 | .raw=>(match rows[i]? with | some r=>K r | none=>False)
 | sh=>asr (decide (i<rows.length)) (asr (aJ sh (rows.getD i .nils)) (K (qM sh (rows.getD i .nils))))
def Yf:List Cs→Bool
 | []=>true
 | .i _::r=>Yf r
 | _=>false
def jb (sh:Sh) (esz sz:Nat):Sh:=
 match sh with
 | .agg l=>bif !(Nat.beq esz sz)&&(Nat.beq l.length sz&&Yf l) then .raw else .agg l
 | x=>x
def Yg:List Cs→Bool
 | []=>false
 | .d::_=>true
 | _::r=>Yg r
def Yh (sh:Sh) (pu:Bool):Sh:=
 match sh with
 | .agg l=>bif !pu&&Yg l then .raw else .agg l
 | x=>x
def kG (E:Env) (callK:CK) (a:An) (F:aF) (H:Hp) (o:AOp) (K:OK):Prop:=
 match o with
 | .pick c x y=>
  (match evV E F c with
   | some (.bool t)=>aG t (match evV E F x with | some p=>wv H K p | none=>False) (match evV E F y with | some p=>wv H K p | none=>False)
   | _=>False)
 | .bin op x y=>
  (match evV E F x,evV E F y with
   | some (.int k p),some (.int k' q)=>Cg op k k' p q (wv H K)
   | _,_=>False)
 | .load agg sz x=>
  (match ev E F x with
   | some (.v (.ptr id ext i off))=>
    (match H[id]? with
     | some b=>asr (decide (b.rows.length=ext)) (xV (Yh (jb a.sh b.esz sz) b.pu) b.rows i fun row=>match yeE agg sz row off with | some p=>wv H K p | none=>False)
     | none=>False)
   | _=>(match yad E HG F H (.load agg sz x) with | some ⟨x,bx,H'⟩=>K x bx H' | none=>False))
 | .store sz x y=>
  (match ev E F x with
   | some (.v (.ptr id ext i off))=>
    (match evV E F y with
     | some p=>
       (match H[id]? with
        | some b0=>
         HI b0.pu H p fun q H'=>
          (match H'[id]? with
           | some b=>asr (decide (b.rows.length=ext)) (asr (!b.fz) (xV (Yh a.sh b.pu) b.rows i fun row=>match yhc row off sz q with
            | some row'=>K none none (H'.set id { b with rows:=b.rows.set i row' })
            | none=>False))
           | none=>False)
        | none=>False)
     | none=>False)
   | _=>(match yad E HG F H (.store sz x y) with | some ⟨x,bx,H'⟩=>K x bx H' | none=>False))
 | .iad esz x i=>
  (match evV E F x,yd7 E F i with
   | some (.data rows),some n=>
    asr (decide (0≤n)) (asr (decide (n<rows.length)) (asr (aJ a.sh (rows.getD n.toNat .nils)) (asr (decide ((qM a.sh (rows.getD n.toNat .nils)).cells.length=esz)) (wv H K (.eptr [qM a.sh (rows.getD n.toNat .nils)] 0 0)))))
   | some (.own id lo len ext _),some n=>
    (match H[id]? with
     | some b=>asr (decide (0≤n)) (asr (decide (n<len)) (asr (decide (b.esz=esz)) (wv H K (.ptr id ext (lo+n.toNat) 0))))
     | none=>False)
   | some (.sub id ext r off m e),some j=>asr (Nat.beq e esz) (AV m j (fun k=>wv H K (.ptr id ext r (off+k*esz))) m)
   | _,_=>False)
 | .iadA n esz x i=>
  (match ev E F x,yd7 E F i with
   | some (.bp s o),some j=>AV n j (fun k=>K (some (.bp s (o+k*esz))) none H) n
   | some (.v (.ptr id e r o)),some j=>AV n j (fun k=>wv H K (.ptr id e r (o+k*esz))) n
   | some (.v (.eptr rows r o)),some j=>AV n j (fun k=>wv H K (.eptr rows r (o+k*esz))) n
   | _,_=>False)
 | .idx agg n esz x i=>
  (match evV E F x,yd7 E F i with
   | some (.agg cs),some j=>(match x with
    | .c _=>Ot agg n esz cs j (wv H K)
    | _=>AV n j (fun k=>match yeE agg esz (.agg cs) (k*esz) with | some p=>wv H K p | none=>False) n)
   | _,_=>False)
 | .slc esz x lo hi mx=>
  (match evV E F x,oG E F lo,oG E F hi,oG E F mx with
   | some p,some l,some h,some m=>(match (m.isSome&&h.isNone) with | true=>False | false=>Ov H esz l h m p (wv H K))
   | _,_,_,_=>False)
 | .mkSl pu esz bytes z l c=>
  (match yd7 E F l,yd7 E F c with
   | some l,some c=>asr (decide (0≤l)) (asr (decide (l≤c)) (asr (decide ((c.toNat+64)*(bytes+1)≤room))
      (K (some (.v (.own H.length 0 l.toNat c.toNat (some c.toNat)))) none (H++[⟨false,pu,esz,replicate c.toNat z⟩]))))
   | _,_=>False)
 | .app pu esz bytes s x=>
  (match evV E F s,evV E F x with
   | some s,some x=>Ou H x fun ys=>asr (pN esz ys) (asr (vL H pu x) (Ci a.md H pu esz bytes s ys fun r H'=>K (some (.v r)) none H'))
   | _,_=>False)
 | .appZ pu esz bytes z s n=>
  (match evV E F s,yd7 E F n with
   | some .nils,some k=>asr (decide (0≤k)) (aG (decide (k.toNat=0)) (wv H K .nils) (EM H pu esz bytes (replicate k.toNat z) fun r H'=>K (some (.v r)) none H'))
   | _,_=>False)
 | .eqN neg x=>
  (match evV E F x with
   | some .nils=>wv H K (.bool (bif neg then false else true))
   | some (.mt b)=>wv H K (.bool (bif neg then !b else b))
   | some (.data rows)=>asr (!rows.isEmpty) (wv H K (.bool neg))
   | some (.own _ _ _ _ _)=>wv H K (.bool neg)
   | _=>False)
 | .clr pu esz z x=>
  (match evV E F x with
   | some .nils=>wv H K (.tup [])
   | some .emp=>wv H K (.tup [])
   | some (.mt _)=>wv H K (.tup [])
   | some (.own id lo len ext _)=>(match H[id]? with
    | some b=>aG (decide (len=0)) (wv H K (.tup [])) (asr (decide (b.rows.length=ext)) (asr (decide (lo+len≤ext)) (asr (!b.fz) (asr (b.pu==pu) (asr (Nat.beq b.esz esz) (K (some (.v (.tup []))) none (H.set id { b with rows:=b.rows.take lo++(replicate len z++b.rows.drop (lo+len)) })))))))
    | none=>False)
   | _=>False)
 | .boxH pu esz x=>
  (match evV E F x with
   | some p=>HI pu H p fun q H'=>asr (Nat.beq q.cells.length esz&&jW q.cells) (K (some (.v (.ptr H'.length 1 0 0))) none (H'++[⟨false,pu,esz,[q]⟩]))
   | none=>False)
 | .bSl pu esz z len parts=>
  (match len with
   | 0=>wv H K .emp
   | len+1=>EL E F pu esz (replicate (len+1) z) H parts fun rows H'=>K (some (.v (.own H'.length 0 (len+1) (len+1) (some (len+1))))) none (H'++[⟨false,pu,esz,rows⟩]))
 | .buildN pu esz z len parts=>
  (match len with
   | 0=>wv H K .emp
   | len+1=>EL E F pu esz (replicate (len+1) z) H parts fun rows H'=>K (some (.v (.own H'.length 0 (len+1) (len+1) none))) none (H'++[⟨false,pu,esz,rows⟩]))
 | .bD esz z len parts=>
  (match len with
   | 0=>wv H K .emp
   | len+1=>EL E F true esz (replicate (len+1) z) H parts fun rows H'=>K (some (.v (.data rows))) none H')
 | .mvD x=>
  (match evV E F x with
   | some p=>HH H p fun q H'=>(match q with | .data rows=>K (some (.v (.data rows))) none H' | _=>False)
   | none=>False)
 | .call f args=>
  (match evV E F f,evs E F args with
   | some g,some vs=>callK g vs H fun r H'=>K (some (.v r)) none H'
   | _,_=>False)
 | o=>(match yad E HG F H o with | some ⟨x,bx,H'⟩=>K x bx H' | none=>False)
def jN:aF→Nat→FV→aF
 | [],_,_=>[]
 | (k,y)::r,s,x=>bif Nat.beq k s then (k,x)::r else (k,y)::jN r s x
def KK (F:aF) (g:Option (Nat×Bool)) (yes no:aF→Prop):Prop:=
 match g with
 | none=>yes F
 | some (s,want)=>(match fget F s with
  | some (.v (.bool b))=>(match want with
   | true=>aG b (yes (jN F s (.v (.bool true)))) (no (jN F s (.v (.bool false))))
   | false=>aG b (no (jN F s (.v (.bool true)))) (yes (jN F s (.v (.bool false)))))
  | some (.v (.tup []))=>no F
  | _=>False)
def xW (F:aF) (c:Opd) (b:Bool):aF:=
 match c with
 | .t s=>jN F s (.v (.bool b))
 | _=>F
def EN (F:aF):Option Nat→aF
 | some d=>bB F d (.v (.tup []))
 | none=>F
def Cj (p:PV) (K:PV→Prop):Prop:=
 match p with
 | .bool b=>K (.bool b)
 | .int k n=>K (.int k n)
 | .agg cs=>K (.agg cs)
 | .data r=>K (.data r)
 | .own a b c d e=>K (.own a b c d e)
 | .ptr a b c d=>K (.ptr a b c d)
 | .sub a b c d e f=>K (.sub a b c d e f)
 | p=>K p
def tL:List PV→(List PV→Prop)→Prop
 | [],K=>K []
 | x::r,K=>Cj x fun x=>tL r fun r=>K (x::r)
def xX (p:PV) (K:PV→Prop):Prop:=
 match p with
 | .agg cs=>tL cs fun cs=>K (.agg cs)
 | .tup cs=>tL cs fun cs=>K (.tup cs)
 | p=>Cj p K
def Cl (x:FV) (K:FV→Prop):Prop:=
 match x with
 | .v p=>xX p fun p=>K (.v p)
 | .box p=>xX p fun p=>K (.box p)
 | .bp s o=>K (.bp s o)
def xY:aF→(aF→Prop)→Prop
 | [],K=>K []
 | (k,x)::r,K=>Cl x fun x=>xY r fun r=>K ((k,x)::r)
def Cm (b:Bool) (K:Bool→Prop):Prop:=match b with | true=>K true | false=>K false
def xZ:Hp→(Hp→Prop)→Prop
 | [],K=>K []
 | ⟨fz,pu,esz,rows⟩::r,K=>Cm fz fun fz=>Cm pu fun pu=>xZ r fun r=>K (⟨fz,pu,esz,rows⟩::r)
theorem Yi (p:PV) (K:PV→Prop):Cj p K=K p:=by cases p<;>rfl
theorem Yj:∀ (l:List PV) (K:List PV→Prop),tL l K=K l
 | [],_=>rfl
 | x::r,K=>by simp only [tL,Yi,Yj r]
theorem jc (p:PV) (K:PV→Prop):xX p K=K p:=by cases p<;>simp only [xX,Yj,Yi]
theorem jd (x:FV) (K:FV→Prop):Cl x K=K x:=by cases x<;>simp only [Cl,jc]
theorem Yk:∀ (F:aF) (K:aF→Prop),xY F K=K F
 | [],_=>rfl
 | (k,x)::r,K=>by simp only [xY,jd,Yk r]
theorem je (b:Bool) (K:Bool→Prop):Cm b K=K b:=by cases b<;>rfl
theorem Yl:∀ (H:Hp) (K:Hp→Prop),xZ H K=K H
 | [],_=>rfl
 | ⟨fz,pu,esz,rows⟩::r,K=>by simp only [xZ,je,Yl r]
def Cn (F:aF) (H:Hp) (K:aF→Hp→Prop):Prop:=xY F fun F=>xZ H fun H=>K F H
theorem HK (F:aF) (H:Hp) (K:aF→Hp→Prop):Cn F H K=K F H:=by simp only [Cn,Yk,Yl]
def qN (E:Env) (callK:CK) (an:List An):List AO→Nat→aF→Hp→(aF→Hp→Prop)→Prop
 | [],_,F,H,K=>K F H
 | o::r,i,F,H,K=>
  KK F o.guard
   (fun F=>kG E callK (Cf an i) F H o.op fun x bx H'=>match ydh (kQ F bx) o.dst x with
    | none=>False
    | some F'=>Cn F' H' fun F' H'=>qN E callK an r (i+1) F' H' K)
   (fun F=>qN E callK an r (i+1) (EN F o.dst) H K)
def yFC (E:Env) (F:aF) (f:Opd) (as:List Opd):Option (List Nat):=
 match evV E F f,evs E F as with
 | some g,some vs=>(match ygJ E g vs with
  | some x=>some (x.id::eI (x.all.set x.j (.int .i64 0)))
  | none=>(match g with
   | .fn (.func n) first captured=>bif E.qui n then some (eI (first++vs++captured)) else none
   | _=>none))
 | _,_=>none
def AW (E:Env) (F:aF) (H:Hp) (o:AOp):FP:=
 match o with
 | .call f as=>bif qF E F f as then aO E F H (.call f as) else (match yFC E F f as with | some l=>⟨f.slots++AF as,[],List.range H.length,l,true,false⟩ | none=>aO E F H (.call f as))
 | o=>aO E F H o
def yCO (E:Env) (F:aF) (H:Hp) (o:AO):FP:=
 let p:=AW E F H o.op;⟨Ek o.guard++p.rd,o.dst.toList++p.wr,p.hr,p.hw,p.push,p.all⟩
def fpNo (o:AO):FP:=⟨Ek o.guard,o.dst.toList,[],[],false,false⟩
def qO (E:Env) (callK:CK) (an:List An) (F0:aF) (l0:List AO) (pairs:List (Nat×Nat)):List AO→Nat→aF→Hp→List FP→(aF→Hp→Prop)→Prop
 | [],_,F,H,ps,K=>asr (yhw ps.reverse pairs&&El F0 l0 l0) (K F H)
 | o::r,i,F,H,ps,K=>
  KK F o.guard
   (fun F=>kG E callK (Cf an i) F H o.op fun x bx H'=>match yfy (kQ F bx) o.dst x with
    | none=>False
    | some F'=>Cn F' H' fun F' H'=>qO E callK an F0 l0 pairs r (i+1) F' H' (yCO E F H o::ps) K)
   (fun F=>qO E callK an F0 l0 pairs r (i+1) (EN F o.dst) H (fpNo o::ps) K)
abbrev LP:=Nat→aF→aF→Hp→(Ex→aF→Hp→Prop)→Prop
abbrev YK:=List PV→Hp→(Option Nat→Hp→Prop)→Prop
def cC:YK:=fun _ _ _=>False
def Co (K:Nat) (H:Hp) (Q:Hp→Prop):Prop:=asr (jL (noY K) (fun _=>true) H) (Q H)
def WC (E:Env) (callK:CK) (lp:LP):aF→YK→TC→aF→Hp→(Ex→aF→Hp→Prop)→Prop
 | _,_,.skip,F,H,Q=>Q .norm F H
 | _,_,.ops l an [] fg,F,H,Q=>qN E callK an l 0 F H fun F' H'=>Cn (fdels F' fg) H' fun F' H'=>Q .norm F' H'
 | _,_,.ops l an (p::ps) fg,F,H,Q=>qO E callK an (vN F l) l (p::ps) l 0 (vN F l) H [] fun F' H'=>Cn (fdels F' fg) H' fun F' H'=>Q .norm F' H'
 | G,yk,.seq a b,F,H,Q=>WC E callK lp G yk a F H fun x F' H'=>match x with
  | .norm=>WC E callK lp G yk b F' H' Q
  | .exit i=>Q (.exit i) F' H'
  | .ret=>Q .ret F' H'
  | .brk k i=>Q (.brk k i) F' H'
 | G,yk,.cond c a b,F,H,Q=>(match evV E F c with
  | some (.bool t)=>aG t (WC E callK lp G yk a (xW F c true) H Q) (WC E callK lp G yk b (xW F c false) H Q)
  | _=>False)
 | G,yk,.block id b,F,H,Q=>WC E callK lp G yk b F H fun x F' H'=>match x with
  | .norm=>Q .norm F' H'
  | .exit i=>(bif Nat.beq i id then Q .norm F' H' else Q (.exit i) F' H')
  | .ret=>Q .ret F' H'
  | .brk k i=>Q (.brk k i) F' H'
 | G,_,.loop id _,F,H,Q=>lp id G F H Q
 | G,_,.lG id _,F,H,Q=>lp id G F H Q
 | G,_,.join id _,F,H,Q=>lp id G F H Q
 | _,_,.exit id,F,H,Q=>Q (.exit id) F H
 | _,_,.ret,F,H,Q=>Q .ret F H
 | _,_,.bad,_,_,_=>False
 | _,_,.cut _,_,_,_=>False
 | _,_,.rangeF g f np ib ps as bd,F,H,Q=>(match evV E F g with
  | some (.fn (.func n) first cap)=>asr (Nat.beq n f&&decide ((first++[PV.fn (.yield E.yn) [] []]++cap).length=np))
   (WC E callK lp (eJ F) (fun vs H K=>match yiL (eJ F) ps vs with
     | some F1=>WC E callK lp [] cC as F1 H fun x F2 H2=>match x with
      | .norm=>WC E callK lp [] cC bd F2 H2 fun x _ H3=>match x with
       | .norm=>K none H3
       | .exit i=>K (some i) H3
       | .ret | .brk _ _=>False
      | .exit _ | .ret | .brk _ _=>False
     | none=>False) ib (gT 0 (first++[PV.fn (.yield E.yn) [] []]++cap)) H fun x _ H'=>match x with
    | .norm | .ret=>Co E.yn H' fun H'=>Q .norm F H'
    | .brk k i=>asr (Nat.beq k E.yn) (Co E.yn H' fun H'=>Q (.exit i) F H')
    | .exit _=>False)
  | _=>False)
 | _,yk,.yret _ pre d y args e fgt,F,H,Q=>qN E callK [] pre 0 F H fun F1 H1=>(match evV E F1 y,evs E F1 args with
  | some (.fn (.yield k) [] []),some vs=>asr (Nat.beq k E.yn) (yk vs H1 fun r H2=>match r with
   | none=>Cn (fdels (bB (bB F1 d (.v (.bool true))) e (.v (.bool false))) fgt) H2 fun F' H'=>Q .norm F' H'
   | some i=>Q (.brk k i) (bB (bB F1 d (.v (.bool false))) e (.v (.bool true))) H2)
  | _,_=>False)
def Ow (E:Env) (callK:CK) (lp:LP) (G:aF) (ps:List Nat) (as bd:TC):YK:=fun vs H K=>match yiL G ps vs with
 | some F1=>WC E callK lp [] cC as F1 H fun x F2 H2=>match x with
  | .norm=>WC E callK lp [] cC bd F2 H2 fun x _ H3=>match x with
   | .norm=>K none H3
   | .exit i=>K (some i) H3
   | .ret | .brk _ _=>False
  | .exit _ | .ret | .brk _ _=>False
 | none=>False
abbrev Qx:Type:=Ex→aF→Hp→Prop
abbrev Ym (R:aF→Hp→Prop) (Q:Qx):Qx:=fun x F' H'=>match x with | .norm=>R F' H' | .exit i=>Q (.exit i) F' H' | .ret=>Q .ret F' H' | .brk k i=>Q (.brk k i) F' H'
def HL (E:Env) (callK:CK) (lp:LP) (fn:TFn) (args:List PV) (H:Hp) (K:PV→Hp→Prop):Prop:=
 asr (decide (args.length=fn.nparams)) (WC E callK lp [] cC fn.body (gT 0 args) H fun x F' H'=>match x with
  | .exit _ | .brk _ _=>False
  | .norm | .ret=>(match ydz F' H' fn.results with | some ps=>K (mE ps) H' | none=>False))
structure SE where
 E:Env
 sumK:Nat→Option (List PV→(PV→Prop)→Prop)
 inl:Nat→Option TFn
 lp:LP
 sumL:Nat→Option (List PV→HB→(PV→List PV→Prop)→Prop)
def HM (wp:List PV→HB→(PV→List PV→Prop)→Prop) (x:LocC) (H:Hp) (K:PV→Hp→Prop):Prop:=
 EK H (x.all.set x.j (.int .i64 0)) fun as H'=>match H'[x.id]? with
  | some b=>asr (!b.fz&&b.pu) (wp (as.set x.j x.y) b fun q rows=>K q (H'.set x.id { b with rows:=rows }))
  | none=>False
def jO (S:SE):Nat→CK
 | 0,_,_,_,_=>False
 | d+1,f,args,H,K=>
  match f with
  | .fn (.func n) first captured=>
   (match ygJ S.E f args with
   | some x=>(match S.sumL x.n with | some wp=>HM wp x H K | none=>False)
   | none=>
   match S.sumK n with
    | some wp=>(bif S.E.rb n then KJ (iQ H) (first++args++captured) fun as=>wp as fun r=>asr r.scalar (K r H)
     else EK H (first++args++captured) fun as H'=>wp as fun r=>K r (bif r.scalar then H else H'))
    | none=>(match S.inl n with
     | some fn=>(bif S.E.rb n then False else HL S.E (jO S d) S.lp fn (first++args++captured) H K)
     | none=>(match S.E.eff n (first++args++captured) H with
      | some (c,t,x,y)=>asr c (aG t (K x.1 x.2) (K y.1 y.2))
      | none=>False)))
  | _=>False
@[irreducible] def WP (S:SE) (d:Nat) (fn:TFn) (args:List PV) (K:PV→Prop):Prop:=
 HL S.E (jO S d) S.lp fn args [] fun r H=>KH H r K
abbrev EP:=Nat→Env→Prop
def fF (E e:Env):Prop:=e={ E with yn:=e.yn,ctx:=e.ctx,yl:=e.yl }
def bW (E:Env):EP:=fun _ e=>fF E e
def eK (E:Env):EP:=fun _ e=>e=E
def vU (E:Env):EP:=fun _ e=>e=E.ats (E.yn+1)
def aM (P:EP) (E:Env):Prop:=∀ n e,P n e→fF E e
theorem aM.uni (E:Env):aM (bW E) E:=fun _ _ h=>h
theorem aM.solo (E:Env):aM (eK E) E:=fun _ e h=>by cases h;rfl
theorem aM.ats (E:Env):aM (vU E) E:=fun _ e h=>by cases h;rfl
def hnd (E:Env) (G:aF) (ps:List Nat) (as bd:AC) (n:Nat):Nat→List PV→Hp→Option (Option Nat×Hp):=fun y vs H=>(match yiL G ps vs with
 | some F1=>(match exec (E.ats y) n as F1 H with
  | some (.norm,F2,H2)=>(match exec (E.ats y) n bd F2 H2 with
   | some (.norm,_,H3)=>some (none,H3)
   | some (.exit i,_,H3)=>some (some i,H3)
   | _=>none)
  | _=>none)
 | none=>none)
def Rng (E:Env) (G:aF) (ps:List Nat) (as bd:AC):EP:=fun n e=>e=E.push ⟨G,ps,as,bd⟩ (hnd E G ps as bd n)
theorem aM.rng (E:Env) (G:aF) (ps:List Nat) (as bd:AC):aM (Rng E G ps as bd) E:=fun _ e h=>by cases h;rfl
def Good (P:EP) (callK:CK):Prop:=
 ∀ f args H K,callK f args H K→∃ r H',K r H'∧∃ m0,∀ n e m,m0≤n→P n e→m0≤m→ygK e (yak e m) f args H=some (r,H')
theorem Good.sub {E:Env} {P:EP} {callK:CK} (h:Good (bW E) callK) (hP:aM P E):Good P callK:=fun f args H K hk=>by obtain ⟨r,H',k,m0,hm⟩:=h f args H K hk;exact ⟨r,H',k,m0,fun n e m h1 h2 h3=>hm n e m h1 (hP n e h2) h3⟩
section
variable {E:Env} {y:Nat} {cx:Nat→Option LCtx} {yl:Nat→Nat→List PV→Hp→Option (Option Nat×Hp)}
theorem KL (F:aF) (x:Opd):ev { E with yn:=y,ctx:=cx,yl:=yl } F x=ev E F x:=by cases x<;>rfl
theorem vV (F:aF) (x:Opd):evV { E with yn:=y,ctx:=cx,yl:=yl } F x=evV E F x:=by simp only [evV,KL]
theorem EQ (F:aF):∀ l:List Opd,evs { E with yn:=y,ctx:=cx,yl:=yl } F l=evs E F l
 | []=>rfl
 | x::r=>by simp only [evs,vV,EQ F r]
theorem Yn (F:aF) (x:Opd):yd7 { E with yn:=y,ctx:=cx,yl:=yl } F x=yd7 E F x:=by simp only [yd7,vV]
theorem jf (F:aF) (x:Option Opd):oG { E with yn:=y,ctx:=cx,yl:=yl } F x=oG E F x:=by cases x<;>simp only [oG,Yn]
theorem Yo (F:aF):∀ (l:List (Nat×Nat×Opd)) (cs:List PV),yh5 { E with yn:=y,ctx:=cx,yl:=yl } F cs l=yh5 E F cs l
 | [],_=>rfl
 | (_,_,x)::r,cs=>by simp only [yh5,vV,Yo F r]
theorem Yp (F:aF) (pu:Bool) (esz:Nat):∀ (l:List (Nat×Opd)) (rows:List PV) (H:Hp),yfb { E with yn:=y,ctx:=cx,yl:=yl } F pu esz rows H l=yfb E F pu esz rows H l
 | [],_,_=>rfl
 | (_,x)::r,rows,H=>by simp only [yfb,vV,Yp F pu esz r]
theorem Yq (F:aF) (x:Opd):lV { E with yn:=y,ctx:=cx,yl:=yl } F x=lV E F x:=by simp only [lV,KL]
theorem jg (F:aF) (x:Opd):rW { E with yn:=y,ctx:=cx,yl:=yl } F x=rW E F x:=by simp only [rW,KL]
theorem Yr (F:aF):∀ l:List (Nat×Opd),nO { E with yn:=y,ctx:=cx,yl:=yl } F l=nO E F l
 | []=>rfl
 | (_,x)::r=>by simp only [nO,Yq,Yr F r]
theorem jh (F:aF) (f:Opd) (as:List Opd):qF { E with yn:=y,ctx:=cx,yl:=yl } F f as=qF E F f as:=by simp only [qF,vV,EQ]
theorem ji (F:aF) (H:Hp) (o:AOp):aO { E with yn:=y,ctx:=cx,yl:=yl } F H o=aO E F H o:=by
 cases o<;>simp only [aO,Yq,jg,Yr,jh]
theorem jj {F:aF} {H:Hp} {o:AOp} (h:oK o=false) (c1 c2:Nat→List PV→Hp→Option (PV×Hp)):yad { E with yn:=y,ctx:=cx,yl:=yl } c1 F H o=yad E c2 F H o:=by
 cases o<;>first | (simp [oK] at h;done) | simp only [yad,KL,vV,EQ,Yn,jf,Yo,Yp]
end
def Ys (E:Env) (F:aF) (H:Hp) (o:AOp) (K:OK):Prop:=
 ∃ out:Out,K out.x out.bx out.h∧∃ m0,∀ m,m0≤m→yad E (yak E m) F H o=some out
def jk (P:EP) (F:aF) (H:Hp) (o:AOp) (K:OK):Prop:=
 ∃ out:Out,K out.x out.bx out.h∧∃ m0,∀ n e m,m0≤n→P n e→m0≤m→yad e (yak e m) F H o=some out
section
variable {E:Env} {callK:CK} {F:aF} {H:Hp} {K:OK}
theorem Yt {o:AOp} (h:oK o=false) (c1 c2:Nat→List PV→Hp→Option (PV×Hp)):yad E c1 F H o=yad E c2 F H o:=by
 cases o<;>first | rfl | simp [oK] at h
theorem Ox {o:AOp} (hc:oK o=false) (h:match yad E HG F H o with | some ⟨x,bx,H'⟩=>K x bx H' | none=>False):Ys E F H o K:=by
 split at h
 ·rename_i x bx H' he;exact ⟨⟨x,bx,H'⟩,h,0,fun m _=>by rw [Yt hc (yak E m) HG,he]⟩
 ·exact h.elim
theorem Oy {H:Hp} {x:PV} {K:PV→Hp→Prop} (h:HH H x K):∃ y H',K y H'∧yd1 H x=some (y,H'):=by
 unfold HH at h;split at h
 ·exact ⟨_,_,h,rfl⟩
 ·exact ⟨_,_,h,rfl⟩
 ·exact ⟨_,_,h,rfl⟩
 ·exact ⟨_,_,h,rfl⟩
 ·exact ⟨_,_,h,rfl⟩
 ·split at h
  ·rename_i b hb;obtain ⟨h1,h⟩:=bF.1 h;obtain ⟨h2,h⟩:=bF.1 h;obtain ⟨h3,h⟩:=bF.1 h;exact ⟨_,_,h,by simp only [yd1,hb];rw [VX ⟨by simpa using h1,by simpa using h2,h3⟩]⟩
  ·exact h.elim
 ·exact h.elim
theorem Yu:∀ (l:List PV) (H:Hp) (K:List PV→Hp→Prop),KG H l K→∃ ys H',K ys H'∧ydf H l=some (ys,H')
 | [],H,K,h=>⟨_,_,h,rfl⟩
 | x::r,H,K,h=>by simp only [KG] at h;obtain ⟨y,H1,h,e1⟩:=Oy h;obtain ⟨ys,H2,h,e2⟩:=Yu r H1 _ h;exact ⟨_,_,h,by simp only [ydf,e1,e2]⟩
theorem HN {H:Hp} {x:PV} {K:PV→Hp→Prop} (h:xU H x K):∃ y H',K y H'∧ybk H x=some (y,H'):=by
 cases x with
 | agg cs =>simp only [xU] at h;obtain ⟨ys,H',h,e⟩:=Yu cs H _ h;exact ⟨_,_,h,by simp only [ybk,e,Option.map]⟩
 | _ =>simp only [xU] at h;obtain ⟨y,H',h,e⟩:=Oy h;exact ⟨_,_,h,by simp only [ybk,e]⟩
theorem KM:∀ (l:List PV) (H:Hp) (K:List PV→Hp→Prop),EK H l K→∃ ys H',K ys H'∧yaw H l=some (ys,H')
 | [],H,K,h=>⟨_,_,h,rfl⟩
 | x::r,H,K,h=>by simp only [EK] at h;obtain ⟨y,H1,h,e1⟩:=HN h;obtain ⟨ys,H2,h,e2⟩:=KM r H1 _ h;exact ⟨_,_,h,by simp only [yaw,e1,e2]⟩
theorem jl {H:Hp} {x:PV} {K:PV→Prop} (h:KI H x K):∃ y,K y∧purP H x=some y:=by
 have base:∀ {x:PV},xU H x (fun q _=>K q)→∃ y,K y∧(match ybk H x with | some (q,_)=>some q | none=>none)=some y:=fun h=>by
  obtain ⟨y,H',h,e⟩:=HN h;exact ⟨y,h,by simp only [e]⟩
 cases x with
 | ptr id ext i off=>
  simp only [KI] at h;split at h
  ·rename_i b hb;obtain ⟨h1,h⟩:=bF.1 h;split at h
   ·rename_i row hrow;obtain ⟨y,H',h,e⟩:=HN h;exact ⟨_,h,by simp only [purP,hb,hrow,e];rw [VX (by simpa using h1)]⟩
   ·exact h.elim
  ·exact h.elim
 | eptr rows i off=>exact ⟨_,h,rfl⟩
 | _=>simp only [KI] at h;exact base h
theorem Yv {H:Hp}:∀ (l:List PV) (K:List PV→Prop),KJ H l K→∃ ys,K ys∧yo3 H l=some ys
 | [],K,h=>⟨_,h,rfl⟩
 | x::r,K,h=>by simp only [KJ] at h;obtain ⟨y,h,e1⟩:=jl h;obtain ⟨ys,h,e2⟩:=Yv r _ h;exact ⟨_,h,by simp only [yo3,e1,e2]⟩
theorem jm {H:Hp} {x:PV} {K:PV→Prop} (h:KH H x K):∃ q,K q∧purR H x=some q:=by
 cases x with
 | tup ps =>simp only [KH] at h;obtain ⟨ys,H',h,e⟩:=KM ps H _ h;exact ⟨_,h,by simp only [purR,e]⟩
 | _ =>simp only [KH] at h;obtain ⟨y,H',h,e⟩:=HN h;exact ⟨_,h,by simp only [purR,e]⟩
theorem Oz {pu:Bool} {H:Hp} {x:PV} {K:PV→Hp→Prop} (h:HI pu H x K):∃ y H',K y H'∧(if pu then ybk H x else some (x,H))=some (y,H'):=by
 cases pu with
 | true=>simp only [HI] at h;obtain ⟨y,H',h,e⟩:=HN h;exact ⟨y,H',h,by simpa using e⟩
 | false=>exact ⟨_,_,h,by simp⟩
theorem KN {pu:Bool} {esz:Nat}:∀ (l:List (Nat×Opd)) (rows:List PV) (H:Hp) (K:List PV→Hp→Prop),EL E F pu esz rows H l K →
  ∃ rows' H',K rows' H'∧yfb E F pu esz rows H l=some (rows',H')
 | [],rows,H,K,h=>⟨_,_,h,rfl⟩
 | (i,x)::r,rows,H,K,h=>by
  simp only [EL] at h;split at h
  ·rename_i p hp;obtain ⟨q,H',h,e⟩:=Oz h;obtain ⟨h1,h⟩:=bF.1 h;simp only [cA] at h1;obtain ⟨rows',H2,h,e2⟩:=KN r _ H' K h;refine ⟨rows',H2,h,?_⟩;simp only [yfb,hp,e];rw [VX ⟨fU h1.1.1,(show i+1≤rows.length from Aw h1.1.2),h1.2⟩];exact e2
  ·exact h.elim
theorem jo {op:BinOp} {k k':IntKind} {a b:Int} {K:PV→Prop} (h:Cg op k k' a b K):∃ r,K r∧binV op (.int k a) (.int k' b)=some r:=by
 cases op<;>simp only [Cg] at h
 case quo=>
  obtain ⟨h1,h2⟩:=bF.1 h;obtain ⟨h3,h4⟩:=bF.1 h2;have e1:k=k':=by simpa using h1
  have e2:¬b=0:=by simpa using h3
  exact ⟨_,h4,by simp [binV,e1,binI,e2]⟩
 case rem=>
  obtain ⟨h1,h2⟩:=bF.1 h;obtain ⟨h3,h4⟩:=bF.1 h2;have e1:k=k':=by simpa using h1
  have e2:¬b=0:=by simpa using h3
  exact ⟨_,h4,by simp [binV,e1,binI,e2]⟩
 case shl=>
  obtain ⟨h1,h2⟩:=bF.1 h;have e1:¬b<0:=by simpa using h1
  exact ⟨_,h2,by simp only [binV,Ei,e1,if_false]⟩
 case shr=>
  obtain ⟨h1,h2⟩:=bF.1 h;have e1:¬b<0:=by simpa using h1
  exact ⟨_,h2,by simp only [binV,Ei,e1,if_false]⟩
 all_goals
  obtain ⟨h1,h2⟩:=bF.1 h;have e1:k=k':=by simpa using h1
  split at h2
  ·rename_i r hr;exact ⟨r,h2,by simp only [binV,e1,if_true];rw [← e1];exact hr⟩
  ·exact h2.elim
theorem ER {n:Nat} {j:Int} {K:Nat→Prop}:∀ m,m≤n→AV n j K m→∃ k:Nat,K k∧j=(k:Int)∧k<n
 | 0,_,h=>h.elim
 | m+1,hm,h=>by
  simp only [AV] at h;obtain ⟨h1,h2⟩:=qL.1 h
  by_cases hj:j=((n-(m+1):Nat):Int)
  ·exact ⟨_,h1 (by simpa using hj),hj,by omega⟩
  ·exact ER m (by omega) (h2 (by simpa using hj))
theorem Yw:∀ (cs:List PV) (i:Nat),HJ cs=true→i<cs.length→cs[i]?=some (.int .u8 (aS (cs.getD i .nils)))
 | [],i,_,h=>by simp at h
 | x::r,i,hu,hi=>by
  cases x with
  | int k n=>
   cases k<;>simp only [HJ,fK] at hu
   cases i with
   | zero=>simp [aS]
   | succ i=>have:=Yw r i hu (by simpa using hi);simpa using this
  | _=>simp [HJ] at hu
theorem jp {x:PV} {K:List PV→Prop} (h:Ou H x K):∃ ys,K ys∧yf7 H x=some ys:=by
 unfold Ou at h;split at h
 ·exact ⟨_,h,rfl⟩
 ·exact ⟨_,h,rfl⟩
 ·exact ⟨_,h,rfl⟩
 ·split at h
  ·rename_i b hb;obtain ⟨h1,h2⟩:=bF.1 h;obtain ⟨h3,h4⟩:=bF.1 h2;exact ⟨_,h4,by simp only [yf7,hb];rw [VX ⟨by simpa using h1,by simpa using h3⟩]⟩
  ·exact h.elim
 ·exact h.elim
theorem KO {pu:Bool} {esz bytes:Nat} {rows:List PV} {K:PV→Hp→Prop} (h:EM H pu esz bytes rows K):∃ r H',K r H'∧ycj H pu esz bytes rows=some (r,H'):=by obtain ⟨h1,h2⟩:=bF.1 h;exact ⟨_,_,h2,by simp only [ycj];rw [VX (by simpa using h1)]⟩
def oL (H:Hp) (pu:Bool) (esz bytes:Nat) (ys:List PV):PV→Option (PV×Hp)
 | .nils=>if ys.isEmpty then some (.nils,H) else ycj H pu esz bytes ys
 | .emp=>if ys.isEmpty then some (.emp,H) else ycj H pu esz bytes ys
 | .own id lo len ext cap=>
  (match H[id]? with
   | some b=>if b.rows.length=ext∧b.pu=pu∧b.esz=esz∧lo+len≤ext then
    (if ys.isEmpty then some (.own id lo len ext cap,H) else nM H pu esz bytes ys id lo len ext cap b) else none
   | none=>none)
 | _=>none
theorem jq {md:Nat} {pu:Bool} {esz bytes:Nat} {s x:PV} {ys:List PV} {K:PV→Hp→Prop} (hy:yf7 H x=some ys) (hh:pN esz ys=true) (hs:vL H pu x=true) (h:Ci md H pu esz bytes s ys K) :
  ∃ r H',K r H'∧appV H pu esz bytes s x=some (r,H'):=by
 have e0:appV H pu esz bytes s x=oL H pu esz bytes ys s:=by simp only [appV,hy];rw [VX ⟨hh,hs⟩];cases s<;>rfl
 rw [e0];clear e0 hy hs;unfold Ci at h;split at h
 ·obtain ⟨h1,h2⟩:=qL.1 h
  cases hE:ys.isEmpty with
  | true=>exact ⟨_,_,h1 hE,by simp [oL,hE]⟩
  | false =>obtain ⟨r,H',hk,hf⟩:=KO (h2 hE);exact ⟨r,H',hk,by simp [oL,hE,hf]⟩
 ·obtain ⟨h1,h2⟩:=qL.1 h
  cases hE:ys.isEmpty with
  | true=>exact ⟨_,_,h1 hE,by simp [oL,hE]⟩
  | false =>obtain ⟨r,H',hk,hf⟩:=KO (h2 hE);exact ⟨r,H',hk,by simp [oL,hE,hf]⟩
 ·rename_i id lo len ext cap;split at h
  ·rename_i b hb;obtain ⟨h1,h⟩:=bF.1 h;obtain ⟨h2,h⟩:=bF.1 h;obtain ⟨h3,h⟩:=bF.1 h;simp only [cA,decide_eq_true_eq] at h1 h2 h3;obtain ⟨k1,k2⟩:=qL.1 h;have hc:b.rows.length=ext∧b.pu=pu∧b.esz=esz∧lo+len≤ext:=⟨h1,h2.1,h2.2,h3⟩
   cases hE:ys.isEmpty with
   | true=>exact ⟨_,_,k1 hE,by simp only [oL,hb];rw [VX hc];simp [hE]⟩
   | false=>
    have h:=k2 hE
    suffices ∃ r H',K r H'∧nM H pu esz bytes ys id lo len ext cap b=some (r,H') by obtain ⟨r,H',hk,hf⟩:=this;exact ⟨r,H',hk,by simp only [oL,hb];rw [VX hc];simp [hE,hf]⟩
    cases cap with
    | some c=>
     simp only at h;have key1:decide (len+ys.length≤c)=true→asr (!b.fz) (K (.own id lo (len+ys.length) ext (some c)) (H.set id { b with rows:=b.rows.take (lo+len)++(ys++b.rows.drop (lo+len+ys.length)) })) →
       ∃ r H',K r H'∧nM H pu esz bytes ys id lo len ext (some c) b=some (r,H'):=by
      intro e1 e2;obtain ⟨e3,e4⟩:=bF.1 e2;refine ⟨_,_,e4,?_⟩;simp only [nM];rw [VX (by simpa using e1),VX (by simpa using e3)]
     have key2:decide (len+ys.length≤c)=false→EM H pu esz bytes ((b.rows.drop lo).take len++ys) K →
       ∃ r H',K r H'∧nM H pu esz bytes ys id lo len ext (some c) b=some (r,H'):=by
      intro e1 e2;obtain ⟨r,H',hk,hf⟩:=KO e2;refine ⟨r,H',hk,?_⟩;simp only [nM];rw [VY (by simpa using e1)];exact hf
     split at h
     ·obtain ⟨a1,a2⟩:=qL.1 h
      cases hd:decide (len+ys.length≤c) with
      | true=>exact key1 hd (a1 hd)
      | false=>exact key2 hd (a2 hd)
     ·obtain ⟨a1,a2⟩:=qL.1 h
      cases hd:decide (len+ys.length≤c) with
      | true=>exact key1 hd (a1 hd)
      | false=>exact key2 hd (a2 hd)
     ·obtain ⟨a1,a2⟩:=bF.1 h;exact key2 (by simpa using a1) a2
     ·obtain ⟨a1,a2⟩:=bF.1 h;exact key1 a1 a2
    | none=>
     simp only at h;obtain ⟨hfz,h⟩:=bF.1 h;have hfz':¬b.fz=true:=by simpa using hfz
     have key1:decide (lo+len+ys.length≤ext)=true→K (.own id lo (len+ys.length) ext none) (H.set id { b with rows:=b.rows.take (lo+len)++(ys++b.rows.drop (lo+len+ys.length)) }) →
       ∃ r H',K r H'∧nM H pu esz bytes ys id lo len ext none b=some (r,H'):=by
      intro e1 e2;refine ⟨_,_,e2,?_⟩;simp only [nM];rw [VY hfz',VX (by simpa using e1)]
     have key3:decide (lo+len+ys.length≤ext)=false→asr (decide (lo=0)) (asr (decide (len=ext)) (asr (decide ((ext+ys.length+64)*(bytes+1)≤room))
        (K (.own id 0 (b.rows++ys).length (b.rows++ys).length none) (H.set id { b with rows:=b.rows++ys })))) →
       ∃ r H',K r H'∧nM H pu esz bytes ys id lo len ext none b=some (r,H'):=by
      intro e1 e2;obtain ⟨e3,e2⟩:=bF.1 e2;obtain ⟨e4,e2⟩:=bF.1 e2;obtain ⟨e5,e2⟩:=bF.1 e2;simp only [decide_eq_true_eq] at e3 e4 e5;refine ⟨_,_,e2,?_⟩;simp only [nM];rw [VY hfz',VY (by simpa using e1),VX ⟨e3,by omega,by rw [e4];exact e5⟩];have e6:b.rows.take len=b.rows:=uV (by omega);have e7:(b.rows++ys).length=len+ys.length:=by rw [mB,h1,e4]
      rw [e6,e7]
     have key4:decide (lo+len+ys.length≤ext)=false→asr (decide (lo=0)) (asr (decide (len≤ext)) (asr (decide ((len+ys.length+64)*(bytes+1)≤room))
        (K (.own id 0 (len+ys.length) (len+ys.length) none) (H.set id { b with rows:=b.rows.take len++ys })))) →
       ∃ r H',K r H'∧nM H pu esz bytes ys id lo len ext none b=some (r,H'):=by
      intro e1 e2;obtain ⟨e3,e2⟩:=bF.1 e2;obtain ⟨e4,e2⟩:=bF.1 e2;obtain ⟨e5,e2⟩:=bF.1 e2;simp only [decide_eq_true_eq] at e3 e4 e5;refine ⟨_,_,e2,?_⟩;simp only [nM];rw [VY hfz',VY (by simpa using e1),VX ⟨e3,e4,e5⟩]
     split at h
     ·obtain ⟨a1,a2⟩:=qL.1 h
      cases hd:decide (lo+len+ys.length≤ext) with
      | true=>exact key1 hd (a1 hd)
      | false=>exact key3 hd (a2 hd)
     ·obtain ⟨a1,a2⟩:=qL.1 h
      cases hd:decide (lo+len+ys.length≤ext) with
      | true=>exact key1 hd (a1 hd)
      | false=>exact key4 hd (a2 hd)
     ·obtain ⟨a1,a2⟩:=bF.1 h;exact key1 a1 a2
     ·obtain ⟨a1,a2⟩:=bF.1 h;exact key3 (by simpa using a1) a2
  ·exact h.elim
 ·exact h.elim
theorem jr {esz:Nat} {lo hi mx:Option Int} {x:PV} {K:PV→Prop} (h:Ov H esz lo hi mx x K):∃ r,K r∧yf8 H esz lo hi mx x=some r:=by
 unfold Ov at h;split at h
 ·obtain ⟨h1,h2⟩:=bF.1 h;simp only [cA,decide_eq_true_eq] at h1;exact ⟨_,h2,by simp only [yf8];rw [VX h1]⟩
 ·obtain ⟨h1,h2⟩:=bF.1 h;simp only [cA,decide_eq_true_eq] at h1;exact ⟨_,h2,by simp only [yf8];rw [VX h1]⟩
 ·rename_i rows;simp only at h;split at h
  ·obtain ⟨h1,h⟩:=bF.1 h;obtain ⟨h2,h⟩:=bF.1 h;obtain ⟨h3,h⟩:=bF.1 h;obtain ⟨h4,h⟩:=bF.1 h;simp only [sY,decide_eq_true_eq] at h1 h2 h3 h4;exact ⟨_,h,by simp only [yf8];rw [VX ⟨h1,h2,h3,h4⟩]⟩
  ·rename_i m;obtain ⟨h1,h⟩:=bF.1 h;obtain ⟨h2,h⟩:=bF.1 h;obtain ⟨h3,h⟩:=bF.1 h;obtain ⟨h4,h⟩:=bF.1 h;obtain ⟨h5,h⟩:=bF.1 h;obtain ⟨k1,k2⟩:=qL.1 h;simp only [sY,decide_eq_true_eq] at h1 h2 h3 h4 h5
   by_cases hl:lo.getD 0=m
   ·exact ⟨_,k1 (by simpa using hl),by simp only [yf8];rw [VX ⟨h1,h2,h3,h4,h5⟩,VX hl]⟩
   ·exact ⟨_,k2 (by simpa using hl),by simp only [yf8];rw [VX ⟨h1,h2,h3,h4,h5⟩,VY hl]⟩
 ·rename_i id lo0 len ext cap;simp only at h;split at h
  ·rename_i b hb;obtain ⟨h0,h⟩:=bF.1 h;split at h
   ·obtain ⟨h1,h⟩:=bF.1 h;obtain ⟨h2,h⟩:=bF.1 h;obtain ⟨h3,h⟩:=bF.1 h;simp only [sY,decide_eq_true_eq] at h1 h2 h3;exact ⟨_,h,by simp only [yf8,hb,h0,Bool.true_eq_false,if_false];rw [VX ⟨h1,h2,h3⟩]⟩
   ·obtain ⟨h1,h⟩:=bF.1 h;obtain ⟨h2,h⟩:=bF.1 h;obtain ⟨h3,h⟩:=bF.1 h;obtain ⟨h4,h⟩:=bF.1 h;simp only [sY,decide_eq_true_eq] at h1 h2 h3 h4;exact ⟨_,h,by simp only [yf8,hb,h0,Bool.true_eq_false,if_false];rw [VX ⟨h1,h2,h3,h4⟩]⟩
  ·exact h.elim
 ·exact h.elim
theorem Yx {sh:Sh} {rows:List PV} {i:Nat} {K:PV→Prop} (h:xV sh rows i K):∃ r,K r∧rows[i]?=some r:=by
 have key:asr (decide (i<rows.length)) (asr (aJ sh (rows.getD i .nils)) (K (qM sh (rows.getD i .nils))))→∃ r,K r∧rows[i]?=some r:=by
  intro h;obtain ⟨h1,h⟩:=bF.1 h;obtain ⟨h2,h⟩:=bF.1 h;have hi:i<rows.length:=by simpa using h1
  rw [Ye _ _ h2] at h;refine ⟨_,h,?_⟩;rw [bY hi,cO,bY hi];rfl
 unfold xV at h;split at h
 ·split at h
  ·rename_i r hr;exact ⟨r,h,hr⟩
  ·exact h.elim
 ·exact key h
theorem js {a:An} {o:AOp} (hc:oK o=false) (h:kG E callK a F H o K):Ys E F H o K:=by
 cases o
 case pick c x y=>
  simp only [kG] at h;split at h
  ·rename_i t ht;obtain ⟨h1,h2⟩:=qL.1 h
   cases t with
   | true=>
    have h:=h1 rfl;split at h
    ·rename_i p hp;exact ⟨⟨some (.v p),none,H⟩,h,0,fun m _=>by simp only [yad,ht,hp];rfl⟩
    ·exact h.elim
   | false=>
    have h:=h2 rfl;split at h
    ·rename_i p hp;exact ⟨⟨some (.v p),none,H⟩,h,0,fun m _=>by simp only [yad,ht,hp];rfl⟩
    ·exact h.elim
  ·exact h.elim
 case bin op x y=>
  simp only [kG] at h;split at h
  ·rename_i k p k' q hx hy;obtain ⟨r,hk,hr⟩:=jo h;exact ⟨⟨some (.v r),none,H⟩,hk,0,fun m _=>by simp only [yad,hx,hy,hr];rfl⟩
  ·exact h.elim
 case eqN neg x=>
  simp only [kG] at h;split at h
  ·rename_i hx;exact ⟨⟨some (.v (.bool (bif neg then false else true))),none,H⟩,h,0,fun m _=>by simp only [yad,hx];cases neg<;>rfl⟩
  ·rename_i b hx;exact ⟨⟨some (.v (.bool (bif neg then !b else b))),none,H⟩,h,0,fun m _=>by simp only [yad,hx];cases neg<;>rfl⟩
  ·rename_i rows hx;obtain ⟨h1,h⟩:=bF.1 h
   cases rows with
   | nil=>simp at h1
   | cons q l=>exact ⟨⟨some (.v (.bool neg)),none,H⟩,h,0,fun m _=>by simp only [yad,hx];cases neg<;>rfl⟩
  ·rename_i hx;exact ⟨⟨some (.v (.bool neg)),none,H⟩,h,0,fun m _=>by simp only [yad,hx];cases neg<;>rfl⟩
  ·exact h.elim
 case load agg sz x=>
  simp only [kG] at h;split at h
  ·rename_i id ext i off hx;split at h
   ·rename_i b hb;obtain ⟨h1,h⟩:=bF.1 h;obtain ⟨row,h,hr⟩:=Yx h;split at h
    ·rename_i p hp;exact ⟨⟨some (.v p),none,H⟩,h,0,fun m _=>by simp only [yad,hx,hb];rw [VX (by simpa using h1)];simp only [hr,hp];rfl⟩
    ·exact h.elim
   ·exact h.elim
  ·exact Ox rfl h
 case store sz x y=>
  simp only [kG] at h;split at h
  ·rename_i id ext i off hx;split at h
   ·rename_i p hp;split at h
    ·rename_i b0 hb0;obtain ⟨q,H',h,hq⟩:=Oz h;split at h
     ·rename_i b hb;obtain ⟨h1,h⟩:=bF.1 h;obtain ⟨h2,h⟩:=bF.1 h;obtain ⟨row,h,hr⟩:=Yx h;split at h
      ·rename_i row' hrow;refine ⟨⟨none,none,H'.set id { b with rows:=b.rows.set i row' }⟩,h,0,fun m _=>?_⟩;have e1:b.rows.length=ext:=by simpa using h1
       have e2:b.fz=false:=by simpa using h2
       simp only [yad,hp,hx,hb0,hq,hb,hr,hrow];rw [VX ⟨e1,e2⟩]
      ·exact h.elim
     ·exact h.elim
    ·exact h.elim
   ·exact h.elim
  ·exact Ox rfl h
 case iad esz x i=>
  simp only [kG] at h;split at h
  ·rename_i rows n hx hi;obtain ⟨h1,h⟩:=bF.1 h;obtain ⟨h2,h⟩:=bF.1 h;obtain ⟨h3,h⟩:=bF.1 h;obtain ⟨h4,h⟩:=bF.1 h;simp only [decide_eq_true_eq] at h1 h2;rw [Ye _ _ h3] at h h4;have hlt:n.toNat<rows.length:=by omega
   have e:rows[n.toNat]?=some (rows.getD n.toNat .nils):=by rw [bY hlt,cO,bY hlt];rfl
   refine ⟨⟨_,_,_⟩,h,0,fun m _=>?_⟩;simp only [yad,hx,hi];rw [VX ⟨h1,h2⟩];simp only [e];rw [VX (by simpa using h4)];rfl
  ·rename_i id lo len ext cap n hx hi;split at h
   ·rename_i b hb;obtain ⟨h1,h⟩:=bF.1 h;obtain ⟨h2,h⟩:=bF.1 h;obtain ⟨h3,h⟩:=bF.1 h;simp only [decide_eq_true_eq] at h1 h2 h3;refine ⟨⟨_,_,_⟩,h,0,fun m _=>?_⟩;simp only [yad,hx,hi];rw [VX ⟨h1,h2⟩];simp only [hb];rw [VX h3];rfl
   ·exact h.elim
  ·rename_i id ext r off mm e j hx hi;obtain ⟨h1,h⟩:=bF.1 h;have h1:e=esz:=fU h1;subst h1;obtain ⟨k,h',rfl,hk⟩:=ER mm (bV _) h;clear h;refine ⟨⟨_,_,_⟩,h',0,fun m _=>?_⟩;simp only [yad,hx,hi];rw [VX ⟨by omega,by omega,by trivial⟩];simp [outV]
  ·exact h.elim
 case iadA n esz x i=>
  simp only [kG] at h;split at h
  ·rename_i s o j hx hi;obtain ⟨k,h',rfl,hk⟩:=ER n (bV _) h;clear h;refine ⟨⟨_,_,_⟩,h',0,fun m _=>?_⟩;simp only [yad,hx,hi];rw [VX ⟨by omega,by omega⟩];simp
  ·rename_i id e r o j hx hi;obtain ⟨k,h',rfl,hk⟩:=ER n (bV _) h;clear h;refine ⟨⟨_,_,_⟩,h',0,fun m _=>?_⟩;simp only [yad,hx,hi];rw [VX ⟨by omega,by omega⟩];simp [outV]
  ·rename_i rows r o j hx hi;obtain ⟨k,h',rfl,hk⟩:=ER n (bV _) h;clear h;refine ⟨⟨_,_,_⟩,h',0,fun m _=>?_⟩;simp only [yad,hx,hi];rw [VX ⟨by omega,by omega⟩];simp [outV]
  ·exact h.elim
 case idx agg n esz x i=>
  simp only [kG] at h;split at h
  ·rename_i cs j hx hi;split at h
   ·obtain ⟨h0,k0⟩:=bF.1 h;obtain ⟨h1,k1⟩:=bF.1 k0;obtain ⟨h2,k2⟩:=bF.1 k1;clear h k0 k1;simp only [cA,decide_eq_true_eq,pI] at h0 h1 h2;obtain ⟨ha,he,hn,hu⟩:=h0;have he:=fU he;have hn:=fU hn;subst ha;subst he;refine ⟨⟨_,_,_⟩,k2,0,fun m _=>?_⟩;simp only [yad,hx,hi];rw [VX ⟨h1,h2⟩];have hlt:j.toNat<cs.length:=by omega
    have hcell:cs[j.toNat]?=some (.int .u8 (aS (cs.getD j.toNat .nils))):=Yw cs _ hu hlt;simp only [yeE,Nat.mul_one,PV.cells,fK,if_false,hcell];rfl
   obtain ⟨k,h',rfl,hk⟩:=ER n (bV _) h;clear h;split at h'
   ·rename_i p hp;refine ⟨⟨_,_,_⟩,h',0,fun m _=>?_⟩;simp only [yad,hx,hi];rw [VX ⟨by omega,by omega⟩];simp only [dL,hp];rfl
   ·exact h'.elim
  ·exact h.elim
 case slc esz x lo hi mx=>
  simp only [kG] at h;split at h
  ·rename_i p l hh m hx hl hhi hm;split at h
   ·exact h.elim
   ·rename_i hb;obtain ⟨r,h,hr⟩:=jr h;refine ⟨⟨_,_,_⟩,h,0,fun _ _=>?_⟩;simp only [yad,hx,hl,hhi,hm];rw [VY (by rw [hb];exact GY)];simp only [hr];rfl
  ·exact h.elim
 case mkSl pu esz bytes z l c=>
  simp only [kG] at h;split at h
  ·rename_i l c hl hc;obtain ⟨h1,h⟩:=bF.1 h;obtain ⟨h2,h⟩:=bF.1 h;obtain ⟨h3,h⟩:=bF.1 h;simp only [decide_eq_true_eq] at h1 h2 h3;refine ⟨⟨_,_,_⟩,h,0,fun _ _=>?_⟩;simp only [yad,hl,hc];rw [VX ⟨h1,h2,h3⟩];rfl
  ·exact h.elim
 case app pu esz bytes s x=>
  simp only [kG] at h;split at h
  ·rename_i s x hs hx;obtain ⟨ys,h,hy⟩:=jp h;obtain ⟨h1,h⟩:=bF.1 h;obtain ⟨h2,h⟩:=bF.1 h;obtain ⟨r,H',h,hr⟩:=jq hy h1 h2 h;refine ⟨⟨_,_,_⟩,h,0,fun _ _=>?_⟩;simp only [yad,hs,hx,hr];rfl
  ·exact h.elim
 case appZ pu esz bytes z s n=>
  simp only [kG] at h;split at h
  ·rename_i k hs hk;obtain ⟨h1,h⟩:=bF.1 h;have h1:0≤k:=by simpa using h1
   obtain ⟨ha,hb⟩:=qL.1 h
   cases h0:decide (k.toNat=0) with
   | true=>
    refine ⟨⟨_,_,_⟩,ha h0,0,fun _ _=>?_⟩;have h0:k.toNat=0:=by simpa using h0
    simp only [yad,hs,hk,appZ];rw [VX h1,VX h0];rfl
   | false=>
    obtain ⟨r,H',h2,hr⟩:=KO (hb h0);refine ⟨⟨_,_,_⟩,h2,0,fun _ _=>?_⟩;have h0:¬k.toNat=0:=by simpa using h0
    simp only [yad,hs,hk,appZ];rw [VX h1,VY h0,hr];rfl
  ·exact h.elim
 case clr pu esz z x=>
  simp only [kG] at h;split at h
  ·rename_i hx;exact ⟨⟨_,_,_⟩,h,0,fun _ _=>by simp only [yad,hx,clrV];rfl⟩
  ·rename_i hx;exact ⟨⟨_,_,_⟩,h,0,fun _ _=>by simp only [yad,hx,clrV];rfl⟩
  ·rename_i hx;exact ⟨⟨_,_,_⟩,h,0,fun _ _=>by simp only [yad,hx,clrV];rfl⟩
  ·rename_i id lo len ext cap hx;split at h
   ·rename_i b hb;obtain ⟨ha,hb2⟩:=qL.1 h
    cases len with
    | zero=>exact ⟨⟨_,_,_⟩,ha rfl,0,fun _ _=>by simp only [yad,hx,clrV];rfl⟩
    | succ len =>have h:=hb2 (by simp);obtain ⟨h1,h⟩:=bF.1 h;obtain ⟨h2,h⟩:=bF.1 h;obtain ⟨h3,h⟩:=bF.1 h;obtain ⟨h4,h⟩:=bF.1 h;obtain ⟨h5,h⟩:=bF.1 h;simp only [decide_eq_true_eq,pI,beq_iff_eq] at h1 h2 h3 h4;have h5:=fU h5;refine ⟨⟨_,_,_⟩,h,0,fun _ _=>?_⟩;simp only [yad,hx,clrV,hb];rw [VX ⟨h1,h2,h3,h4,h5⟩];rfl
   ·exact h.elim
  ·exact h.elim
 case boxH pu esz x=>
  simp only [kG] at h;split at h
  ·rename_i p hp;obtain ⟨q,H',h,hq⟩:=Oz h;obtain ⟨h1,h⟩:=bF.1 h;simp only [cA] at h1;refine ⟨⟨_,_,_⟩,h,0,fun _ _=>?_⟩;simp only [yad,hp,hq];rw [VX ⟨fU h1.1,h1.2⟩]
  ·exact h.elim
 case bSl pu esz z len parts=>
  simp only [kG] at h;split at h
  ·exact ⟨⟨_,_,_⟩,h,0,fun _ _=>by simp only [yad,if_true];rfl⟩
  ·obtain ⟨rows,H',h,e⟩:=KN _ _ _ _ h;refine ⟨⟨_,_,_⟩,h,0,fun _ _=>?_⟩;simp only [yad,e];rfl
 case buildN pu esz z len parts=>
  simp only [kG] at h;split at h
  ·exact ⟨⟨_,_,_⟩,h,0,fun _ _=>by simp only [yad,if_true];rfl⟩
  ·obtain ⟨rows,H',h,e⟩:=KN _ _ _ _ h;refine ⟨⟨_,_,_⟩,h,0,fun _ _=>?_⟩;simp only [yad,e];rfl
 case bD esz z len parts=>
  simp only [kG] at h;split at h
  ·exact ⟨⟨_,_,_⟩,h,0,fun _ _=>by simp only [yad,if_true];rfl⟩
  ·obtain ⟨rows,H',h,e⟩:=KN _ _ _ _ h;refine ⟨⟨_,_,_⟩,h,0,fun _ _=>?_⟩;simp only [yad,e];rfl
 case mvD x=>
  simp only [kG] at h;split at h
  ·rename_i p hp;obtain ⟨y,H',h,e⟩:=Oy h;split at h
   ·exact ⟨⟨_,_,_⟩,h,0,fun _ _=>by simp only [yad,hp,e];rfl⟩
   ·exact h.elim
  ·exact h.elim
 case call f args=>simp [oK] at hc
 all_goals exact Ox rfl h
theorem Yy {P:EP} (hP:aM P E) (hG:Good P callK) {a:An} {o:AOp} (h:kG E callK a F H o K):jk P F H o K:=by
 cases hc:oK o with
 | false =>obtain ⟨out,hk,m0,hm⟩:=js hc h;refine ⟨out,hk,0,fun n e m _ hp _=>?_⟩;have hl:=hP n e hp;unfold fF at hl;rw [hl,jj hc _ (yak E m0)];exact hm m0 (bV _)
 | true=>
  cases o with
  | call f args=>
   simp only [kG] at h;split at h
   ·rename_i g vs hg hvs;obtain ⟨r,H',h,m0,hm⟩:=hG _ _ _ _ h;refine ⟨⟨_,_,_⟩,h,m0,fun n e m hn hp hle=>?_⟩;have hl:=hP n e hp;have e1:evV e F f=some g:=by unfold fF at hl;rw [hl,vV];exact hg
    have e2:evs e F args=some vs:=by unfold fF at hl;rw [hl,EQ];exact hvs
    simp only [yad,e1,e2,hm n e m hn hp hle];rfl
   ·exact h.elim
  | _=>simp [oK] at hc
theorem ES:∀ (F:aF) (s:Nat) (x:FV),fget F s=some x→jN F s x=F
 | [],_,_,h=>by simp [fget] at h
 | (k,y)::r,s,x,h=>by
  simp only [fget] at h;simp only [jN]
  by_cases hk:k=s
  ·subst hk;simp only [if_true,bU] at h;subst h;simp
  ·rw [VY hk] at h;have:Nat.beq k s=false:=by
    cases e:Nat.beq k s with
    | true=>exact absurd (fU e) hk
    | false=>rfl
   rw [this,ES r s x h];rfl
theorem Yz {c:Opd} {b:Bool} (h:evV E F c=some (.bool b)):xW F c b=F:=by
 cases c with
 | t s=>
  simp only [evV,ev] at h;simp only [xW];apply ES
  cases e:fget F s with
  | none=>simp [e] at h
  | some fv=>cases fv<;>simp [e] at h;rw [h]
 | _=>rfl
theorem ywg {g:Option (Nat×Bool)} {yes no:aF→Prop} (h:KK F g yes no):(ycN F g=some true∧yes F)∨(ycN F g=some false∧no F):=by
 unfold KK at h;split at h
 ·exact .inl ⟨rfl,h⟩
 ·rename_i s want;split at h
  ·rename_i b hb;have e:ycN F (some (s,want))=some (b==want):=by simp only [ycN,hb]
   split at h
   ·cases b with
    | true=>have h:yes (jN F s (.v (.bool true))):=h;rw [ES _ _ _ hb] at h;exact .inl ⟨by rw [e];rfl,h⟩
    | false=>have h:no (jN F s (.v (.bool false))):=h;rw [ES _ _ _ hb] at h;exact .inr ⟨by rw [e];rfl,h⟩
   ·cases b with
    | true=>have h:no (jN F s (.v (.bool true))):=h;rw [ES _ _ _ hb] at h;exact .inr ⟨by rw [e];rfl,h⟩
    | false=>have h:yes (jN F s (.v (.bool false))):=h;rw [ES _ _ _ hb] at h;exact .inl ⟨by rw [e];rfl,h⟩
  ·rename_i hb;exact .inr ⟨by simp only [ycN,hb],h⟩
  ·exact h.elim
theorem KP {P:EP} (hP:aM P E) (hG:Good P callK) {an:List An}:∀ (l:List AO) (i:Nat) (F:aF) (H:Hp) (K:aF→Hp→Prop),qN E callK an l i F H K →
  ∃ F' H',K F' H'∧∃ m0,∀ n e m,m0≤n→P n e→m0≤m→mC e (yak e m) l F H=some (F',H')
 | [],i,F,H,K,h=>⟨F,H,h,0,fun _ _ _ _ _ _=>rfl⟩
 | o::r,i,F,H,K,h=>by
  simp only [qN] at h;rcases ywg h with ⟨hg,h⟩ | ⟨hg,h⟩
  ·obtain ⟨out,h,m0,hm⟩:=Yy hP hG h;split at h
   ·exact h.elim
   ·rename_i F' hF';rw [HK] at h;obtain ⟨F2,H2,hk,m1,hm1⟩:=KP hP hG r (i+1) F' out.h K h;refine ⟨F2,H2,hk,max m0 m1,fun n e m hn hp hle=>?_⟩;have e0:yeX e (yak e m) F H o=some (F',out.h):=by
     simp only [yeX,hg,hm n e m (by omega) hp (by omega),hF',Option.map]
    simp only [mC,e0];exact hm1 n e m (by omega) hp (by omega)
  ·obtain ⟨F2,H2,hk,m1,hm1⟩:=KP hP hG r (i+1) (EN F o.dst) H K h;refine ⟨F2,H2,hk,m1,fun n e m hn hp hle=>?_⟩;have e0:yeX e (yak e m) F H o=some (EN F o.dst,H):=by
    simp only [yeX,hg]
    cases o.dst<;>rfl
   simp only [mC,e0];exact hm1 n e m hn hp hle
structure Cov (p q:FP):Prop where
 rd:q.rd=p.rd
 wr:q.wr=p.wr
 h:p.all=true∨((∀ x,x∈q.hr→x∈p.hr)∧(∀ x,x∈q.hw→x∈p.hw)∧(q.push=true→p.push=true)∧q.all=false)
theorem Cov.tight (p:FP) (H H1:Hp):Cov p (p.tight H H1):=by
 unfold FP.tight
 cases h:p.all with
 | true=>exact ⟨rfl,rfl,.inl h⟩
 | false=>exact ⟨rfl,rfl,.inr ⟨fun _ h=>h,fun _ h=>h,fun h=>h,h⟩⟩
def yw3:List FP→List FP→Prop
 | [],[]=>True
 | p::r,q::s=>Cov p q∧yw3 r s
 | _,_=>False
theorem yw3.get:∀ (l l':List FP),yw3 l l'→∀ (i:Nat) (p:FP),l[i]?=some p→∃ q:FP,l'[i]?=some q∧Cov p q
 | [],_,_,i,p,e=>by simp at e
 | p::r,[],h,_,_,_=>h.elim
 | p::r,q::s,h,i,x,e=>by
  obtain ⟨h1,h2⟩:=h
  cases i with
  | zero=>simp at e;subst e;exact ⟨q,rfl,h1⟩
  | succ i=>simp at e;simpa using yw3.get r s h2 i x e
theorem OA:∀ l:List Nat,kD l []=false
 | []=>rfl
 | x::r=>by simp only [kD,OA r];rfl
theorem OB:∀ (l m:List Nat),kD l m=true↔∃ x,x∈l∧x∈m
 | [],m=>by simp [kD]
 | y::r,m=>by
  simp only [kD,sY,OB r m,List.elem_eq_mem,decide_eq_true_eq,qAp];constructor
  ·rintro (h | ⟨x,h1,h2⟩)
   ·exact ⟨y,.inl rfl,h⟩
   ·exact ⟨x,.inr h1,h2⟩
  ·rintro ⟨x,rfl | h1,h2⟩
   ·exact .inl h2
   ·exact .inr ⟨x,h1,h2⟩
theorem OC {a b a' b':List Nat} (h:kD a b=false) (ha:∀ x,x∈a'→x∈a) (hb:∀ x,x∈b'→x∈b):kD a' b'=false:=by
 cases e:kD a' b' with
 | false=>rfl
 | true=>
  obtain ⟨x,h1,h2⟩:=(OB _ _).1 e;have:kD a b=true:=(OB _ _).2 ⟨x,ha x h1,hb x h2⟩;rw [h] at this
  cases this
theorem YA {a:List Nat} (h:∀ x,x∈a→x∈([]:List Nat)):a=[]:=by
 cases a with
 | nil=>rfl
 | cons x r=>exact absurd (h x iP) (by simp)
theorem jt {p q p' q':FP} (h:vM p q=false) (hp:Cov p p') (hq:Cov q q'):vM p' q'=false:=by
 have hpx:∀ {x x':FP},x.heapy=false→Cov x x'→x'.push=false∧x'.all=false∧x'.hr=[]∧x'.hw=[]:=by
  intro x x' hx hc;simp only [FP.heapy,Ax,Bool.not_eq_false',List.isEmpty_iff] at hx;obtain ⟨⟨⟨h1,h2⟩,h3⟩,h4⟩:=hx;rcases hc.h with h | ⟨k1,k2,k3,k4⟩
  ·rw [h2] at h;cases h
  ·rw [h3] at k1;rw [h4] at k2;refine ⟨?_,k4,YA k1,YA k2⟩
   cases e:x'.push with
   | false=>rfl
   | true=>rw [k3 e] at h1;cases h1
 simp only [vM,Ax] at h;obtain ⟨⟨⟨⟨⟨⟨⟨⟨A,B⟩,C⟩,D⟩,E⟩,G⟩,I⟩,J⟩,K⟩:=h;have A':kD p'.wr q'.rd=false:=by rw [hp.wr,hq.rd];exact A
 have B':kD p'.wr q'.wr=false:=by rw [hp.wr,hq.wr];exact B
 have C':kD q'.wr p'.rd=false:=by rw [hp.rd,hq.wr];exact C
 cases ea:p.all with
 | true =>rw [ea,pM] at D;obtain ⟨h1,h2,h3,h4⟩:=hpx D hq;simp [vM,A',B',C',h1,h2,h3,h4,OA,kD,FP.heapy]
 | false=>
  cases eb:q.all with
  | true =>rw [eb,pM] at E;obtain ⟨h1,h2,h3,h4⟩:=hpx E hp;simp [vM,A',B',C',h1,h2,h3,h4,OA,kD,FP.heapy]
  | false=>
   rcases hp.h with h|⟨k1,k2,k3,k4⟩
   ·rw [ea] at h;cases h
   rcases hq.h with h|⟨l1,l2,l3,l4⟩
   ·rw [eb] at h;cases h
   have G':(p'.push&&q'.push)=false:=by
    cases e1:p'.push with
    | false=>rfl
    | true=>
     cases e2:q'.push with
     | false=>rfl
     | true=>rw [k3 e1,l3 e2] at G;cases G
   simp only [vM,A',B',C',k4,l4,oE,G',OC I k2 l1,OC J k2 l2,OC K l2 k1,Bool.or_self]
theorem YB {l l':List FP} (ht:yw3 l l'):∀ (pairs:List (Nat×Nat)),yhw l pairs=true→yhw l' pairs=true
 | [],_=>rfl
 | (i,j)::r,h=>by
  simp only [yhw,cA] at h ⊢;refine ⟨?_,YB ht r h.2⟩;have h1:=h.1;split at h1
  ·rename_i p q e1 e2;obtain ⟨p',k1,c1⟩:=yw3.get l l' ht i p e1;obtain ⟨q',k2,c2⟩:=yw3.get l l' ht j q e2;rw [k1,k2];simp only [pI] at h1 ⊢;exact jt h1 c1 c2
  ·cases h1
theorem HO {E e:Env} (h:fF E e) (f:PV) (args:List PV):ygJ e f args=ygJ E f args:=by unfold fF at h;rw [h];rfl
theorem ju {p q:PV} {H H1:Hp} (h:ybk H p=some (q,H1)):EffI (cP p) H H1 H H1:=by
 obtain ⟨H1',e,k⟩:=EF (H':=H) (fun _ _=>rfl) h;rw [h] at e
 cases e
 exact k
theorem OD:∀ (l ps:List PV) (H H1:Hp),yaw H l=some (ps,H1)→H1.length=H.length∧∀ id,id∉eI l→H1[id]?=H[id]?
 | [],ps,H,H1,h=>by simp only [yaw,bU,Prod.mk.injEq] at h;rw [← h.2];exact ⟨rfl,fun _ _=>rfl⟩
 | x::r,ps,H,H1,h=>by
  simp only [yaw] at h;split at h
  ·rename_i y H2 hy;split at h
   ·rename_i ys H3 hys;simp only [bU,Prod.mk.injEq] at h;obtain ⟨_,rfl⟩:=h;obtain ⟨l1,o1⟩:=OD r ys H2 _ hys;have k:=ju hy;refine ⟨l1.trans k.len.1,fun id hid=>?_⟩;simp only [eI,qAz,not_or] at hid;rw [o1 id hid.2,(k.out id hid.1).1]
   ·cases h
  ·cases h
theorem jv {call:Nat→List PV→Hp→Option (PV×Hp)} {x:LocC} {H H1:Hp} {r:PV} (h:tA call x H=some (r,H1)):∀ id,id∈cV 0 H H1→id∈x.id::eI (x.all.set x.j (.int .i64 0)):=by
 intro id hm;unfold tA at h;split at h
 ·rename_i as H' hp;split at h
  ·rename_i b hb;split at h
   ·split at h
    ·rename_i q rows hq;simp only [bU,Prod.mk.injEq] at h;obtain ⟨_,rfl⟩:=h;obtain ⟨l1,o1⟩:=OD _ _ _ _ hp
     by_cases hi:id=x.id
     ·rw [hi];exact iP
     ·by_cases hj:id∈eI (x.all.set x.j (.int .i64 0))
      ·exact gL _ hj
      ·refine absurd hm ?_;have:=Oj 0 H (H'.set x.id { b with rows:=rows }) (by simp [l1]) id (by
        rw [xI (fun e=>hi e.symm),o1 id hj])
       simpa using this
    ·cases h
   ·cases h
  ·cases h
 ·cases h
theorem OE {H H1:Hp} {l:List Nat} (h1:H1.length=H.length) (h2:∀ id,id∉l→H1[id]?=H[id]?):∀ id,id∈cV 0 H H1→id∈l:=by
 intro id hm
 by_cases hj:id∈l
 ·exact hj
 ·refine absurd hm ?_;have:=Oj 0 H H1 h1 id (h2 id hj);simpa using this
theorem jw {e:Env} {call:Nat→List PV→Hp→Option (PV×Hp)} {n:Nat} {first captured vs:List PV} {H H1:Hp} {r:PV} (hq:e.qui n=true) (h:mU e call (.fn (.func n) first captured) vs H=some (r,H1)):∀ id,id∈cV 0 H H1→id∈eI (first++vs++captured):=by
 simp only [mU,hq,if_true] at h;split at h
 ·split at h
  ·split at h
   ·split at h
    ·cases h
     exact OE rfl fun _ _=>rfl
    ·cases h
   ·cases h
  ·cases h
 ·split at h
  ·rename_i x hx
   cases h
   split at hx
   ·rename_i as H' hp;obtain ⟨l1,o1⟩:=OD _ _ _ _ hp;split at hx
    ·split at hx
     ·cases hx
      exact OE rfl fun _ _=>rfl
     ·cases hx
      exact OE l1 o1
    ·cases hx
   ·cases hx
  ·cases h
theorem jx {e:Env} (hl:fF E e) {call:Nat→List PV→Hp→Option (PV×Hp)} {F:aF} {H:Hp} {o:AOp} {out:Out} (h:yad e call F H o=some out) (a b _ _:List Nat) :
  Cov ⟨a++(AW E F H o).rd,b++(AW E F H o).wr,(AW E F H o).hr,(AW E F H o).hw,(AW E F H o).push,(AW E F H o).all⟩
   ((⟨a++(aO E F H o).rd,b++(aO E F H o).wr,(aO E F H o).hr,(aO E F H o).hw,(aO E F H o).push,(aO E F H o).all⟩:FP).tight H out.h):=by
 unfold AW;split
 ·rename_i f as
  cases hq:qF E F f as with
  | true=>exact Cov.tight _ _ _
  | false=>
  rw [cond_false];split
  ·rename_i l hli;unfold yFC at hli;split at hli
   ·rename_i g vs hg hvs;have hg':evV e F f=some g:=by unfold fF at hl;rw [hl,vV];exact hg
    have hv':evs e F as=some vs:=by unfold fF at hl;rw [hl,EQ];exact hvs
    simp only [yad,hg',hv'] at h;split at h
    ·rename_i r H1 hr
     cases h
     have key:∀ id,id∈cV 0 H H1→id∈l:=by
      split at hli
      ·rename_i x hx
       cases hli
       simp only [ygK,(HO hl g vs).trans hx] at hr;exact jv hr
      ·rename_i hx;simp only [ygK,(HO hl g vs).trans hx] at hr;split at hli
       ·rename_i n first captured
        cases hqu:E.qui n with
        | false=>rw [hqu] at hli;cases hli
        | true=>
         rw [hqu] at hli
         cases hli
         have:e.qui n=true:=by unfold fF at hl;rw [hl];exact hqu
         exact jw this hr
       ·cases hli
     simp only [aO,hq,AD,FP.tight,if_true];exact ⟨rfl,rfl,.inr ⟨fun _ h=>h,key,fun h=>h,rfl⟩⟩
    ·cases h
   ·cases hli
  ·exact Cov.tight _ _ _
 ·exact Cov.tight _ _ _
theorem OF {P:EP} (hP:aM P E) (hG:Good P callK) {an:List An} {F0:aF} {l0:List AO} {pairs:List (Nat×Nat)}:∀ (l:List AO) (i:Nat) (F:aF) (H:Hp) (ps:List FP) (K:aF→Hp→Prop),qO E callK an F0 l0 pairs l i F H ps K →
  ∃ F' H' qs,K F' H'∧yhw (ps.reverse++qs) pairs=true∧El F0 l0 l0=true∧∃ m0,∀ n e m,m0≤n→P n e→m0≤m→∃ qt,yw3 qs qt∧yf9 e (yak e m) l F H=some (F',H',qt)
 | [],i,F,H,ps,K,h=>by simp only [qO] at h;obtain ⟨h1,h⟩:=bF.1 h;simp only [cA] at h1;exact ⟨F,H,[],h,by simpa using h1.1,h1.2,0,fun _ _ _ _ _ _=>⟨[],trivial,rfl⟩⟩
 | o::r,i,F,H,ps,K,h=>by
  simp only [qO] at h;have hfp:∀ n e,P n e→∀ F H,ydd e F H o=ydd E F H o:=by
   intro n e hp F H;have hl:=hP n e hp;unfold fF at hl;rw [hl];simp only [ydd,ji]
  rcases ywg h with ⟨hg,h⟩|⟨hg,h⟩
  ·obtain ⟨out,h,m0,hm⟩:=Yy hP hG h;split at h
   ·exact h.elim
   ·rename_i F' hF';rw [HK] at h;obtain ⟨F2,H2,qs,hk,ha,hb,m1,hm1⟩:=OF hP hG r (i+1) F' out.h (yCO E F H o::ps) K h;refine ⟨F2,H2,yCO E F H o::qs,hk,by simpa using ha,hb,max m0 m1,fun n e m hn hp hle=>?_⟩;obtain ⟨qt,ht,hq⟩:=hm1 n e m (by omega) hp (by omega);have ho:=hm n e m (by omega) hp (by omega);have e0:yfc e (yak e m) o (F,H)=some (F',out.h):=by
     simp only [yfc,hg,ho,hF',Option.map]
    refine ⟨(ydd E F H o).tight H out.h::qt,⟨?_,ht⟩,?_⟩
    ·simp only [ydd,hg,yCO];exact jx (hP n e hp) ho _ _ [] []
    ·simp only [yf9,e0,hq,hfp n e hp]
  ·obtain ⟨F2,H2,qs,hk,ha,hb,m1,hm1⟩:=OF hP hG r (i+1) (EN F o.dst) H (fpNo o::ps) K h;refine ⟨F2,H2,fpNo o::qs,hk,by simpa using ha,hb,m1,fun n e m hn hp hle=>?_⟩;obtain ⟨qt,ht,hq⟩:=hm1 n e m hn hp hle;have e0:yfc e (yak e m) o (F,H)=some (EN F o.dst,H):=by
    simp only [yfc,hg]
    cases o.dst<;>rfl
   have e2:ydd E F H o=fpNo o:=by simp only [ydd,hg,fpNo]
   refine ⟨(fpNo o).tight H H::qt,⟨Cov.tight _ _ _,ht⟩,?_⟩;simp only [yf9,e0,hq,hfp n e hp,e2]
def bP (P:EP) (c:AC) (F:aF) (H:Hp) (Q:Ex→aF→Hp→Prop):Prop:=
 ∃ x F' H',Q x F' H'∧∃ m0,∀ n e m,m0≤n→P n e→m0≤m→exec e m c F H=some (x,F',H')
theorem bP.sub {P P':EP} {c:AC} {F:aF} {H:Hp} {Q:Ex→aF→Hp→Prop} (h:bP P c F H Q) (hs:∀ n e,P' n e→P n e):bP P' c F H Q:=by obtain ⟨x,F',H',h1,m0,h2⟩:=h;exact ⟨x,F',H',h1,m0,fun n e m k1 k2 k3=>h2 n e m k1 (hs n e k2) k3⟩
def cJ (P:EP) (c:TC) (F:aF) (H:Hp) (Q:Ex→aF→Hp→Prop):Prop:=bP P (erase c) F H Q
def ybs:TC→Bool
 | .seq a b | .cond _ a b=>ybs a&&ybs b
 | .block _ b=>ybs b
 | .loop _ b=>ybs b
 | .lG _ b=>ybs b
 | .join _ b=>ybs b
 | .rangeF _ _ _ _ _ _ _=>false
 | _=>true
def LpOk (P:EP) (E:Env) (lp:LP) (G:aF):TC→Prop
 | .seq a b=>LpOk P E lp G a∧LpOk P E lp G b
 | .cond _ a b=>LpOk P E lp G a∧LpOk P E lp G b
 | .block _ b=>LpOk P E lp G b
 | .loop id b=>LpOk P E lp G b∧∀ F H Q,lp id G F H Q→cJ P (.loop id b) F H Q
 | .lG id b=>LpOk P E lp G b∧∀ F H Q,lp id G F H Q→cJ P (.lG id b) F H Q
 | .join id b=>LpOk P E lp G b∧∀ F H Q,lp id G F H Q→cJ P (.join id b) F H Q
 | .rangeF _ f np ib ps as bd=>(∃ rs,E.fns f=some ⟨np,rs,erase ib⟩∧rs.length=0)∧(ybs ib=true∧ybs as=true∧ybs bd=true)∧(∀ G,LpOk (Rng E G ps (erase as) (erase bd)) E lp G ib)∧LpOk (vU E) E lp [] as∧LpOk (vU E) E lp [] bd
 | _=>True
def lW:TC→List (Nat×TC)
 | .seq a b | .cond _ a b=>lW a++lW b
 | .block _ b=>lW b
 | .loop id b=>lW b++[(id,.loop id b)]
 | .lG id b=>lW b++[(id,.lG id b)]
 | .join id b=>lW b++[(id,.join id b)]
 | _=>[]
theorem yA {P:EP} {E:Env} {lp:LP} {G:aF}:∀ (c:TC),ybs c=true→(∀ p∈lW c,∀ F H Q,lp p.1 G F H Q→cJ P p.2 F H Q)→LpOk P E lp G c
 | .skip,_,_ | .ops _ _ _ _,_,_ | .exit _,_,_ | .ret,_,_ | .bad,_,_ | .yret _ _ _ _ _ _ _,_,_ | .cut _,_,_=>trivial
 | .rangeF _ _ _ _ _ _ _,hf,_=>by simp [ybs] at hf
 | .seq a b,hf,h=>by simp only [ybs,cA] at hf;exact ⟨yA a hf.1 fun p hp=>h p (by simp only [lW,qAz];exact .inl hp),yA b hf.2 fun p hp=>h p (by simp only [lW,qAz];exact .inr hp)⟩
 | .cond _ a b,hf,h=>by simp only [ybs,cA] at hf;exact ⟨yA a hf.1 fun p hp=>h p (by simp only [lW,qAz];exact .inl hp),yA b hf.2 fun p hp=>h p (by simp only [lW,qAz];exact .inr hp)⟩
 | .block _ b,hf,h=>yA b hf h
 | .loop id b,hf,h=>⟨yA b hf fun p hp=>h p (by simp only [lW,qAz];exact .inl hp),h (id,.loop id b) (by simp [lW])⟩
 | .lG id b,hf,h=>⟨yA b hf fun p hp=>h p (by simp only [lW,qAz];exact .inl hp),h (id,.lG id b) (by simp [lW])⟩
 | .join id b,hf,h=>⟨yA b hf fun p hp=>h p (by simp only [lW,qAz];exact .inl hp),h (id,.join id b) (by simp [lW])⟩
def cS (P:EP) (E:Env) (yk:YK):Prop:=∀ vs H K,yk vs H K→∃ r H',K r H'∧∃ m0,∀ n e,m0≤n→P n e→e.yl e.yn E.yn vs H=some (r,H')
theorem cS.no (P:EP) (E:Env):cS P E cC:=fun _ _ _ h=>h.elim
def bN (P:EP) (E:Env) (callK:CK) (c:TC):Prop:=ybs c=false→Good (bW E) callK∧∀ n e,P n e→e=E
theorem bP.up {P:EP} {c:AC} {F:aF} {H:Hp} {Q:Ex→aF→Hp→Prop} {x:Ex} {F':aF} {H':Hp} {m0:Nat} (hk:Q x F' H') (h:∀ n e k,m0≤n→P n e→m0≤k→exec e (k+1) c F H=some (x,F',H')):bP P c F H Q:=
 ⟨x,F',H',hk,m0+1,fun n e m hn hp hm=>by
  obtain ⟨k,rfl⟩:∃ k,m=k+1:=⟨m-1,by omega⟩;exact h n e k (by omega) hp (by omega)⟩
def AX (E:Env) (F:aF) (H:Hp):Option (Ex×aF×Hp)→Option (Ex×aF×Hp)
 | some (.norm,_,H') | some (.ret,_,H')=>(match clrY E.yn H.length H' with | some H2=>some (.norm,F,H2) | none=>none)
 | some (.brk k i,_,H')=>if k=E.yn then (match clrY E.yn H.length H' with | some H2=>some (.exit i,F,H2) | none=>none) else none
 | _=>none
theorem HP {E:Env} {n:Nat} {g:Opd} {ps:List Nat} {as bd:AC} {F:aF} {H:Hp} {f:Nat} {first cap:List PV} {fn:AFn} (hg:evV E F g=some (.fn (.func f) first cap)) (hf:E.fns f=some fn) (hc:(first++[PV.fn (.yield E.yn) [] []]++cap).length=fn.nparams∧fn.results.length=0) :
  exec E (n+1) (.rangeF g ps as bd) F H=AX E F H (exec (E.push ⟨eJ F,ps,as,bd⟩ (hnd E (eJ F) ps as bd n)) n fn.body (gT 0 (first++[PV.fn (.yield E.yn) [] []]++cap)) H):=by
 simp only [exec,hg];simp only [hf];rw [VX hc];rfl
theorem YC {K n0:Nat}:∀ (H:Hp) (i:Nat),jL (noY K) (fun _=>true) H=true→badY K n0 [] i H=[]
 | [],_,_=>rfl
 | b::r,i,h=>by simp only [jL,cA] at h;have h1:ybp (noY K) (fun id=>!memB [] id) b.rows=true:=h.1;simp only [badY,h1,Bool.not_true,Bool.and_false,cond_false];exact YC r (i+1) h.2
theorem jy {K n0:Nat} {H:Hp} (h:jL (noY K) (fun _=>true) H=true):clrY K n0 H=some H:=by simp only [clrY,YC H 0 h,h,cond_true]
theorem nS {lp:LP}:∀ (c:TC) (P:EP) (_:aM P E) (_:Good P callK) (_:bN P E callK c) (G:aF) (yk:YK) (_:cS P E yk) (_:LpOk P E lp G c) (F:aF) (H:Hp) (Q:Ex→aF→Hp→Prop),WC E callK lp G yk c F H Q→bP P (erase c) F H Q
 | .skip,P,hP,hG,hR,G,yk,hY,_,F,H,Q,h=>by simp only [WC] at h;exact bP.up (m0:=0) h fun n e k _ _ _=>by simp only [erase,exec]
 | .exit id,P,hP,hG,hR,G,yk,hY,_,F,H,Q,h=>by simp only [WC] at h;exact bP.up (m0:=0) h fun n e k _ _ _=>by simp only [erase,exec]
 | .ret,P,hP,hG,hR,G,yk,hY,_,F,H,Q,h=>by simp only [WC] at h;exact bP.up (m0:=0) h fun n e k _ _ _=>by simp only [erase,exec]
 | .bad,P,hP,hG,hR,G,yk,hY,_,F,H,Q,h=>by simp only [WC] at h
 | .cut _,P,hP,hG,hR,G,yk,hY,_,F,H,Q,h=>by simp only [WC] at h
 | .ops l an ps fg,P,hP,hG,hR,G,yk,hY,_,F,H,Q,h=>by
  cases ps with
  | nil =>simp only [WC] at h;obtain ⟨F',H',hk,m0,hm⟩:=KP hP hG l 0 F H _ h;rw [HK] at hk;exact bP.up (m0:=m0) hk fun n e k hn hp hle=>by simp only [erase,exec,yeG,hm n e k hn hp hle]
  | cons p ps=>
   simp only [WC] at h;obtain ⟨F',H',qs,hk,ha,hb,m0,hm⟩:=OF hP hG l 0 _ H [] _ h;rw [HK] at hk;refine bP.up (m0:=m0) hk fun n e k hn hp hle=>?_
   obtain ⟨qt,ht,hq⟩:=hm n e k hn hp hle;simp only [erase,exec,yeG,hq];rw [VX ⟨YB ht _ (by simpa using ha),hb⟩]
 | .seq a b,P,hP,hG,hR,G,yk,hY,hl,F,H,Q,h=>by
  simp only [WC] at h;simp only [LpOk] at hl;have hRa:bN P E callK a:=fun hf=>hR (by simp only [ybs,hf,oE])
  have hRb:bN P E callK b:=fun hf=>hR (by simp only [ybs,hf,Bool.and_false])
  obtain ⟨x,F',H',hk,m0,hm⟩:=nS a P hP hG hRa G yk hY hl.1 F H _ h
  cases x with
  | norm =>obtain ⟨x2,F2,H2,hk2,m1,hm1⟩:=nS b P hP hG hRb G yk hY hl.2 F' H' Q hk;exact bP.up (m0:=max m0 m1) hk2 fun n e k hn hp hle=>by simp only [erase,exec,hm n e k (by omega) hp (by omega),hm1 n e k (by omega) hp (by omega)]
  | exit i=>exact bP.up (m0:=m0) hk fun n e k hn hp hle=>by simp only [erase,exec,hm n e k hn hp hle]
  | ret=>exact bP.up (m0:=m0) hk fun n e k hn hp hle=>by simp only [erase,exec,hm n e k hn hp hle]
  | brk _ _=>exact bP.up (m0:=m0) hk fun n e k hn hp hle=>by simp only [erase,exec,hm n e k hn hp hle]
 | .cond c a b,P,hP,hG,hR,G,yk,hY,hl,F,H,Q,h=>by
  simp only [WC] at h;simp only [LpOk] at hl;have hRa:bN P E callK a:=fun hf=>hR (by simp only [ybs,hf,oE])
  have hRb:bN P E callK b:=fun hf=>hR (by simp only [ybs,hf,Bool.and_false])
  split at h
  ·rename_i t ht;have hte:∀ n e,P n e→evV e F c=some (.bool t):=fun n e hp=>by
    have hl:=hP n e hp;unfold fF at hl;rw [hl,vV];exact ht
   obtain ⟨h1,h2⟩:=qL.1 h
   cases t with
   | true =>obtain ⟨x,F',H',hk,m0,hm⟩:=nS a P hP hG hRa G yk hY hl.1 F H Q (Yz ht ▸ h1 rfl);exact bP.up (m0:=m0) hk fun n e k hn hp hle=>by simp only [erase,exec,hte n e hp,hm n e k hn hp hle]
   | false =>obtain ⟨x,F',H',hk,m0,hm⟩:=nS b P hP hG hRb G yk hY hl.2 F H Q (Yz ht ▸ h2 rfl);exact bP.up (m0:=m0) hk fun n e k hn hp hle=>by simp only [erase,exec,hte n e hp,hm n e k hn hp hle]
  ·exact h.elim
 | .block id b,P,hP,hG,hR,G,yk,hY,hl,F,H,Q,h=>by
  simp only [WC] at h;simp only [LpOk] at hl;have hRb:bN P E callK b:=fun hf=>hR (by simp only [ybs,hf])
  obtain ⟨x,F',H',hk,m0,hm⟩:=nS b P hP hG hRb G yk hY hl F H _ h
  cases x with
  | norm=>exact bP.up (m0:=m0) hk fun n e k hn hp hle=>by simp only [erase,exec,hm n e k hn hp hle]
  | exit i=>
   simp only at hk
   cases hb:Nat.beq i id with
   | true =>rw [hb] at hk;have e:=fU hb;subst e;exact bP.up (m0:=m0) (x:=.norm) hk fun n e k hn hp hle=>by simp only [erase,exec,hm n e k hn hp hle,if_true]
   | false=>
    rw [hb] at hk;have e:¬i=id:=fun e=>by subst e;rw [Nat.beq_refl] at hb;cases hb
    exact bP.up (m0:=m0) (x:=.exit i) hk fun n e' k hn hp hle=>by simp only [erase,exec,hm n e' k hn hp hle,e,if_false]
  | ret=>exact bP.up (m0:=m0) hk fun n e k hn hp hle=>by simp only [erase,exec,hm n e k hn hp hle]
  | brk _ _=>exact bP.up (m0:=m0) hk fun n e k hn hp hle=>by simp only [erase,exec,hm n e k hn hp hle]
 | .loop id b,P,hP,hG,hR,G,yk,hY,hl,F,H,Q,h=>by simp only [WC] at h;simp only [LpOk] at hl;exact hl.2 F H Q h
 | .lG id b,P,hP,hG,hR,G,yk,hY,hl,F,H,Q,h=>by simp only [WC] at h;simp only [LpOk] at hl;exact hl.2 F H Q h
 | .join id b,P,hP,hG,hR,G,yk,hY,hl,F,H,Q,h=>by simp only [WC] at h;simp only [LpOk] at hl;exact hl.2 F H Q h
 | .yret c pre d y args e0 fgt,P,hP,hG,hR,G,yk,hY,_,F,H,Q,h=>by
  simp only [WC] at h;obtain ⟨F1,H1,hk,m0,hm⟩:=KP hP hG pre 0 F H _ h;split at hk
  ·rename_i k vs hy hvs;obtain ⟨hb,hk⟩:=bF.1 hk;have hb:=fU hb;subst hb;obtain ⟨r,H2,hk,m1,hm1⟩:=hY _ _ _ hk;have hye:∀ n e,P n e→evV e F1 y=some (.fn (.yield E.yn) [] [])∧evs e F1 args=some vs:=fun n e hp=>by
    have hl:=hP n e hp;unfold fF at hl;rw [hl,vV,EQ];exact ⟨hy,hvs⟩
   cases r with
   | none=>
    simp only [HK] at hk;refine bP.up (m0:=max m0 m1) hk fun n e k hn hp hle=>?_
    simp only [erase,exec,yeG,hm n e k (by omega) hp (by omega),(hye n e hp).1,(hye n e hp).2,hm1 n e (by omega) hp]
   | some i=>
    refine bP.up (m0:=max m0 m1) hk fun n e k hn hp hle=>?_
    simp only [erase,exec,yeG,hm n e k (by omega) hp (by omega),(hye n e hp).1,(hye n e hp).2,hm1 n e (by omega) hp]
  ·exact hk.elim
 | .rangeF g f np ib ps as bd,P,hP,hG,hR,G,yk,hY,hl,F,H,Q,h=>by
  simp only [WC] at h;simp only [LpOk] at hl;obtain ⟨⟨rs,hfn,hrs⟩,hflat,hl1,hl2,hl3⟩:=hl;obtain ⟨hU,hE⟩:=hR rfl;split at h
  ·rename_i n first cap hg;obtain ⟨hc,h2⟩:=bF.1 h;clear h;simp only [cA,decide_eq_true_eq] at hc;have hn:=fU hc.1;subst hn;have hq:∀ (P':EP) (c:TC) (_:aM P' E),ybs c=true→bN P' E callK c:=fun _ _ _ hf hf'=>by rw [hf] at hf';cases hf'
   have hyo:cS (Rng E (eJ F) ps (erase as) (erase bd)) E (fun vs H K=>match yiL (eJ F) ps vs with
      | some F1=>WC E callK lp [] cC as F1 H fun x F2 H2=>match x with
       | .norm=>WC E callK lp [] cC bd F2 H2 fun x _ H3=>match x with
        | .norm=>K none H3
        | .exit i=>K (some i) H3
        | .ret | .brk _ _=>False
       | .exit _ | .ret | .brk _ _=>False
      | none=>False):=by
    intro vs H K hk;simp only at hk;split at hk
    ·rename_i F1 hF1;obtain ⟨x,F2,H2,hk,m0,hm⟩:=nS as (vU E) (aM.ats E) (hU.sub (aM.ats E)) (hq _ _ (aM.ats E) hflat.2.1) [] cC (cS.no _ _) hl2 F1 H _ hk
     cases x with
     | norm=>
      simp only at hk;obtain ⟨x,F3,H3,hk,m1,hm1⟩:=nS bd (vU E) (aM.ats E) (hU.sub (aM.ats E)) (hq _ _ (aM.ats E) hflat.2.2) [] cC (cS.no _ _) hl3 F2 H2 _ hk;have key:∀ n e,max m0 m1≤n→Rng E (eJ F) ps (erase as) (erase bd) n e→e.yl e.yn E.yn vs H=hnd E (eJ F) ps (erase as) (erase bd) n (E.yn+1) vs H:=by
       intro n e hn he
       cases he
       simp only [Env.push,if_true]
      cases x with
      | norm =>refine ⟨none,H3,hk,max m0 m1,fun n e hn he=>?_⟩;rw [key n e hn he];simp only [hnd,hF1,hm n _ n (by omega) rfl (by omega),hm1 n _ n (by omega) rfl (by omega)]
      | exit i =>refine ⟨some i,H3,hk,max m0 m1,fun n e hn he=>?_⟩;rw [key n e hn he];simp only [hnd,hF1,hm n _ n (by omega) rfl (by omega),hm1 n _ n (by omega) rfl (by omega)]
      | ret=>exact hk.elim
      | brk _ _=>exact hk.elim
     | exit i=>exact hk.elim
     | ret=>exact hk.elim
     | brk _ _=>exact hk.elim
    ·exact hk.elim
   obtain ⟨x,F',H',hk,m0,hm⟩:=nS ib (Rng E (eJ F) ps (erase as) (erase bd)) (aM.rng E (eJ F) ps (erase as) (erase bd)) (hU.sub (aM.rng E (eJ F) ps (erase as) (erase bd))) (hq _ _ (aM.rng E (eJ F) ps (erase as) (erase bd)) hflat.1) (eJ F) _ hyo (hl1 _) _ H _ h2;have hclr:∀ {H':Hp} {Q':Hp→Prop},Co E.yn H' Q'→Q' H'∧clrY E.yn H.length H'=some H':=fun hw=>by
    obtain ⟨h1,h2⟩:=bF.1 hw;exact ⟨h2,jy h1⟩
   have run:∀ k,m0≤k→exec (E.push ⟨eJ F,ps,erase as,erase bd⟩ (hnd E (eJ F) ps (erase as) (erase bd) k)) k (erase ib) (gT 0 (first++[PV.fn (.yield E.yn) [] []]++cap)) H=some (x,F',H'):=fun k hle=>hm k _ k hle rfl hle
   cases x with
   | norm=>
    obtain ⟨hk,hcl⟩:=hclr hk;refine bP.up (m0:=m0) hk fun n e k hn hp hle=>?_
    cases hE n e hp
    simp only [erase];rw [HP hg hfn ⟨hc.2,hrs⟩];simp only;rw [run k hle];simp only [AX,hcl]
   | ret=>
    obtain ⟨hk,hcl⟩:=hclr hk;refine bP.up (m0:=m0) hk fun n e k hn hp hle=>?_
    cases hE n e hp
    simp only [erase];rw [HP hg hfn ⟨hc.2,hrs⟩];simp only;rw [run k hle];simp only [AX,hcl]
   | brk k0 i=>
    obtain ⟨hb,hk2⟩:=bF.1 hk;clear hk;have hb:=fU hb;subst hb;obtain ⟨hk,hcl⟩:=hclr hk2;refine bP.up (m0:=m0) hk fun n e k hn hp hle=>?_
    cases hE n e hp
    simp only [erase];rw [HP hg hfn ⟨hc.2,hrs⟩];simp only;rw [run k hle];simp only [AX,if_true,hcl]
   | exit i=>exact hk.elim
  ·exact h.elim
theorem jz {lp:LP} {G:aF} {ps:List Nat} {as bd:TC} (hU:Good (bW E) callK) (ha:ybs as=true) (hb:ybs bd=true) (hla:LpOk (vU E) E lp [] as) (hlb:LpOk (vU E) E lp [] bd):cS (Rng E G ps (erase as) (erase bd)) E (Ow E callK lp G ps as bd):=by
 intro vs H K hk;unfold Ow at hk;have hq:∀ c,ybs c=true→bN (vU E) E callK c:=fun _ hf hf'=>by rw [hf] at hf';cases hf'
 split at hk
 ·rename_i F1 hF1;obtain ⟨x,F2,H2,hk,m0,hm⟩:=nS as (vU E) (aM.ats E) (hU.sub (aM.ats E)) (hq _ ha) [] cC (cS.no _ _) hla F1 H _ hk
  cases x with
  | norm=>
   simp only at hk;obtain ⟨x,F3,H3,hk,m1,hm1⟩:=nS bd (vU E) (aM.ats E) (hU.sub (aM.ats E)) (hq _ hb) [] cC (cS.no _ _) hlb F2 H2 _ hk;have key:∀ n e,Rng E G ps (erase as) (erase bd) n e→e.yl e.yn E.yn vs H=hnd E G ps (erase as) (erase bd) n (E.yn+1) vs H:=by
    intro n e he
    cases he
    simp only [Env.push,if_true]
   cases x with
   | norm =>refine ⟨none,H3,hk,max m0 m1,fun n e hn he=>?_⟩;rw [key n e he];simp only [hnd,hF1,hm n _ n (by omega) rfl (by omega),hm1 n _ n (by omega) rfl (by omega)]
   | exit i =>refine ⟨some i,H3,hk,max m0 m1,fun n e hn he=>?_⟩;rw [key n e he];simp only [hnd,hF1,hm n _ n (by omega) rfl (by omega),hm1 n _ n (by omega) rfl (by omega)]
   | ret=>exact hk.elim
   | brk _ _=>exact hk.elim
  | exit i=>exact hk.elim
  | ret=>exact hk.elim
  | brk _ _=>exact hk.elim
 ·exact hk.elim
theorem cJ.intro {id:Nat} {P:EP} (hP:aM P E) (hG:Good P callK) {lp:LP} {b:TC} (hf:ybs b=true) {G:aF} {yk:YK} (hY:cS P E yk) (hl:LpOk P E lp G b) {Q:Ex→aF→Hp→Prop} (R:Nat→aF→Hp→Prop) (h0:∀ F H,¬R 0 F H)
  (hs:∀ n F H,R (n+1) F H→WC E callK lp G yk b F H fun x F' H'=>match x with | .norm=>R n F' H' | .exit i=>Q (.exit i) F' H' | .ret=>Q .ret F' H' | .brk k i=>Q (.brk k i) F' H') :
  ∀ n F H,R n F H→cJ P (.loop id b) F H Q
 | 0,F,H,h=>(h0 F H h).elim
 | n+1,F,H,h=>by
  obtain ⟨x,F',H',hk,m0,hm⟩:=nS b P hP hG (fun hf'=>by rw [hf] at hf';cases hf') G yk hY hl F H _ (hs n F H h)
  cases x with
  | norm =>have hk:R n F' H':=hk;obtain ⟨x2,F2,H2,hk2,m1,hm1⟩:=cJ.intro (id:=id) hP hG hf hY hl R h0 hs n F' H' hk;simp only [erase] at hm1;exact bP.up (m0:=max m0 m1) hk2 fun n e k hn hp hle=>by simp only [erase,exec,hm n e k (by omega) hp (by omega),hm1 n e k (by omega) hp (by omega)]
  | exit i=>exact bP.up (m0:=m0) hk fun n e k hn hp hle=>by simp only [erase,exec,hm n e k hn hp hle]
  | ret=>exact bP.up (m0:=m0) hk fun n e k hn hp hle=>by simp only [erase,exec,hm n e k hn hp hle]
  | brk _ _=>exact bP.up (m0:=m0) hk fun n e k hn hp hle=>by simp only [erase,exec,hm n e k hn hp hle]
theorem cJ.introG {id:Nat} {P:EP} (hP:aM P E) (hG:Good P callK) {lp:LP} {b:TC} (hf:ybs b=true) {G:aF} {yk:YK} (hY:cS P E yk) (hl:LpOk P E lp G b) {Q:Ex→aF→Hp→Prop} (R:Nat→aF→Hp→Prop) (h0:∀ F H,¬R 0 F H)
  (hs:∀ n F H,R (n+1) F H→WC E callK lp G yk b F H fun x F' H'=>match x with | .norm=>R n (fdels F' (fP (erase b))) (tH (fdels F' (fP (erase b))) H.length H') | .exit i=>Q (.exit i) F' H' | .ret=>Q .ret F' H' | .brk k i=>Q (.brk k i) F' H') :
  ∀ n F H,R n F H→cJ P (.lG id b) F H Q
 | 0,F,H,h=>(h0 F H h).elim
 | n+1,F,H,h=>by
  obtain ⟨x,F',H',hk,m0,hm⟩:=nS b P hP hG (fun hf'=>by rw [hf] at hf';cases hf') G yk hY hl F H _ (hs n F H h)
  cases x with
  | norm =>have hk:R n (fdels F' (fP (erase b))) (tH (fdels F' (fP (erase b))) H.length H'):=hk;obtain ⟨x2,F2,H2,hk2,m1,hm1⟩:=cJ.introG (id:=id) hP hG hf hY hl R h0 hs n _ _ hk;simp only [erase] at hm1;exact bP.up (m0:=max m0 m1) hk2 fun n e k hn hp hle=>by simp only [erase,exec,hm n e k (by omega) hp (by omega),hm1 n e k (by omega) hp (by omega)]
  | exit i=>exact bP.up (m0:=m0) hk fun n e k hn hp hle=>by simp only [erase,exec,hm n e k hn hp hle]
  | ret=>exact bP.up (m0:=m0) hk fun n e k hn hp hle=>by simp only [erase,exec,hm n e k hn hp hle]
  | brk _ _=>exact bP.up (m0:=m0) hk fun n e k hn hp hle=>by simp only [erase,exec,hm n e k hn hp hle]
theorem cJ.introC {id:Nat} {P:EP} {b:TC} {Q:Ex→aF→Hp→Prop} (R:Nat→aF→Hp→Prop) (h0:∀ F H,¬R 0 F H)
  (hs:∀ n F H,R (n+1) F H→bP P (erase b) F H fun x F' H'=>match x with | .norm=>R n (fdels F' (fP (erase b))) (tH (fdels F' (fP (erase b))) H.length H') | .exit i=>Q (.exit i) F' H' | .ret=>Q .ret F' H' | .brk k i=>Q (.brk k i) F' H') :
  ∀ n F H,R n F H→cJ P (.lG id b) F H Q
 | 0,F,H,h=>(h0 F H h).elim
 | n+1,F,H,h=>by
  obtain ⟨x,F',H',hk,m0,hm⟩:=hs n F H h
  cases x with
  | norm =>have hk:R n (fdels F' (fP (erase b))) (tH (fdels F' (fP (erase b))) H.length H'):=hk;obtain ⟨x2,F2,H2,hk2,m1,hm1⟩:=cJ.introC (id:=id) R h0 hs n _ _ hk;simp only [erase] at hm1;exact bP.up (m0:=max m0 m1) hk2 fun n e k hn hp hle=>by simp only [erase,exec,hm n e k (by omega) hp (by omega),hm1 n e k (by omega) hp (by omega)]
  | exit i=>exact bP.up (m0:=m0) hk fun n e k hn hp hle=>by simp only [erase,exec,hm n e k hn hp hle]
  | ret=>exact bP.up (m0:=m0) hk fun n e k hn hp hle=>by simp only [erase,exec,hm n e k hn hp hle]
  | brk _ _=>exact bP.up (m0:=m0) hk fun n e k hn hp hle=>by simp only [erase,exec,hm n e k hn hp hle]
end
def iS (P:EP) (n:Nat) (as:List PV) (r:PV):Prop:=∃ m0,∀ k e m,m0≤k→P k e→m0≤m→yaO e (yak e m) n as=some r
def qP (E:Env) (n:Nat) (as:List PV) (r:PV):Prop:=iS (bW E) n as r
def kH (E:Env) (n:Nat) (as:List PV) (r:PV):Prop:=iS (eK E) n as r
theorem iS.sub {P P':EP} {n:Nat} {as:List PV} {r:PV} (h:iS P n as r) (hs:∀ k e,P' k e→P k e):iS P' n as r:=by obtain ⟨m0,hm⟩:=h;exact ⟨m0,fun k e m h1 h2 h3=>hm k e m h1 (hs k e h2) h3⟩
theorem qP.solo {E:Env} {n:Nat} {as:List PV} {r:PV} (h:qP E n as r):kH E n as r:=iS.sub h fun _ e h=>by cases h;rfl
def OG (E:Env):Prop:=∀ n as H x,E.eff n as H=some x→E.qui n=false∧E.frz n=false∧(∀ as,E.sum n as=none)∧E.rb n=false
def HQ (P:EP) (n:Nat) (as:List PV) (b:HB) (q:PV) (rows:List PV):Prop:=∃ m0,∀ k e m,m0≤k→P k e→m0≤m→yn4 (yak e m) n as b=some (q,rows)
structure SEOk (P:EP) (S:SE):Prop where
 sb:aM P S.E
 sum:∀ n wp,S.sumK n=some wp→∀ as K,wp as K→∃ r,K r∧iS P n as r
 inl:∀ n fn,S.inl n=some fn→S.E.fns n=some fn.fn∧S.E.qui n=false∧S.E.frz n=false∧(∀ as,S.E.sum n as=none)∧(∀ as H,S.E.eff n as H=none)∧ybs fn.body=true∧LpOk P S.E S.lp [] fn.body
 eff:OG S.E
 sumL:∀ n wp,S.sumL n=some wp→∀ as b K,wp as b K→∃ q rows,K q rows∧HQ P n as b q rows
section
variable {S:SE} {P:EP} {callK:CK} {H:Hp}
theorem tM {E e:Env} (h:fF E e):e.fns=E.fns∧e.sum=E.sum∧e.qui=E.qui∧e.frz=E.frz∧e.rb=E.rb∧e.nl=E.nl∧e.eff=E.eff:=by unfold fF at h;rw [h];exact ⟨rfl,rfl,rfl,rfl,rfl,rfl,rfl⟩
theorem KQ (hP:aM P S.E) (hG:Good P callK) {fn:TFn} (hR:bN P S.E callK fn.body) (hl:LpOk P S.E S.lp [] fn.body) {n:Nat} (hf:S.E.fns n=some fn.fn) (he:∀ as H,S.E.eff n as H=none) {args:List PV} {K:PV→Hp→Prop} (h:HL S.E callK S.lp fn args H K) :
  ∃ r H',K r H'∧∃ m0,∀ k e m,m0≤k→P k e→m0≤m→yak e m n args H=some (r,H'):=by
 obtain ⟨h1,h⟩:=bF.1 h;have h1:args.length=fn.nparams:=by simpa using h1
 obtain ⟨x,F',H',hk,m0,hm⟩:=nS fn.body P hP hG hR [] cC (cS.no _ _) hl _ H _ h;have key:(match ydz F' H' fn.results with | some ps=>K (mE ps) H' | none=>False)→(x=.norm∨x=.ret) →
   ∃ r H',K r H'∧∃ m0,∀ k e m,m0≤k→P k e→m0≤m→yak e m n args H=some (r,H'):=by
  intro hk hx;split at hk
  ·rename_i ps hps;refine ⟨_,_,hk,m0+1,fun k e m hkl hp hle=>?_⟩;obtain ⟨q,rfl⟩:∃ q,m=q+1:=⟨m-1,by omega⟩;have e0:=hm k e q (by omega) hp (by omega);obtain ⟨l1,_,_,_,_,_,l7⟩:=tM (hP k e hp);simp only [yak,Env.effx,vK,l7,l1,he,hf,TFn.fn,h1,if_true];rw [e0];rcases hx with rfl | rfl<;>simp only [hps]
  ·exact hk.elim
 cases x with
 | norm=>exact key hk (.inl rfl)
 | exit i=>exact hk.elim
 | brk _ _=>exact hk.elim
 | ret=>exact key hk (.inr rfl)
theorem Cp {e:Env} {call:Nat→List PV→Hp→Option (PV×Hp)} {f:PV} {args:List PV} (h:ygJ e f args=none):ygK e call f args H=mU e call f args H:=by simp only [ygK,h]
theorem dV (hS:SEOk P S):∀ d,Good P (jO S d)
 | 0,f,args,H,K,h=>h.elim
 | d+1,f,args,H,K,h=>by
  unfold jO at h;split at h
  ·rename_i n first captured;split at h
   ·rename_i x hx;split at h
    ·rename_i wp hwp;unfold HM at h;obtain ⟨as,H',h,hp⟩:=KM _ _ _ h;split at h
     ·rename_i b hb;obtain ⟨hc,h⟩:=bF.1 h;simp only [cA,pI] at hc;obtain ⟨q,rows,hk,m0,hm⟩:=hS.sumL _ wp hwp _ _ _ h;refine ⟨q,_,hk,m0,fun k e m hkl he hle=>?_⟩;simp only [ygK,HO (hS.sb k e he),hx,tA,hp,hb];rw [VX hc];simp only [hm k e m hkl he hle]
     ·exact h.elim
    ·exact h.elim
   rename_i hx;have hx':∀ k e,P k e→ygJ e (.fn (.func n) first captured) args=none:=fun k e he=>(HO (hS.sb k e he) _ _).trans hx
   split at h
   ·rename_i wp hwp
    cases hb:S.E.rb n with
    | true =>rw [hb,cond_true] at h;obtain ⟨as,h,hp⟩:=Yv _ _ h;obtain ⟨r,hk,m0,hm⟩:=hS.sum n wp hwp as _ h;obtain ⟨hs,hk⟩:=bF.1 hk;refine ⟨r,_,hk,m0,fun k e m hkl he hle=>?_⟩;obtain ⟨_,_,_,_,l5,_,_⟩:=tM (hS.sb k e he);rw [Cp (hx' k e he)];simp only [mU,l5,hb,if_true,hp,hm k e m hkl he hle,hs]
    | false=>
     rw [hb,cond_false] at h;obtain ⟨as,H',h,hp⟩:=KM _ _ _ h;obtain ⟨r,hk,m0,hm⟩:=hS.sum n wp hwp as _ h;refine ⟨r,_,hk,m0,fun k e m hkl he hle=>?_⟩;obtain ⟨_,_,_,_,l5,_,_⟩:=tM (hS.sb k e he);rw [Cp (hx' k e he)];simp only [mU,l5,hb,fK,if_false,hp,hm k e m hkl he hle]
     cases r.scalar<;>simp
   ·split at h
    ·rename_i fn hfn;obtain ⟨h1,h2,h3,h4,h6,h7,h5⟩:=hS.inl n fn hfn
     cases hb:S.E.rb n with
     | true =>rw [hb,cond_true] at h;exact h.elim
     | false=>
      rw [hb,cond_false] at h;obtain ⟨r,H',hk,m0,hm⟩:=KQ hS.sb (dV hS d) (fun hf=>by rw [h7] at hf;cases hf) h5 h1 h6 h;refine ⟨r,H',hk,m0,fun k e m hkl he hle=>?_⟩;obtain ⟨_,l2,l3,l4,l5,_,_⟩:=tM (hS.sb k e he);have e0:∀ as,yaO e (yak e m) n as=none:=by
       intro as;simp only [yaO,l2,l3,h4 as,h2];rfl
      rw [Cp (hx' k e he)];simp only [mU,e0,l3,l4,l5,h2,h3,hb]
      cases yaw H (first++args++captured)<;>simp only [fK,if_false,hm k e m hkl he hle]
    ·split at h
     ·rename_i c t x y he;obtain ⟨hc,h⟩:=bF.1 h;subst hc;obtain ⟨h2,h3,h4,h7⟩:=hS.eff n _ _ _ he;obtain ⟨r,H',h,hrt⟩:∃ r H',K r H'∧(bif t then x else y)=(r,H'):=by
       cases t with
       | true=>exact ⟨_,_,h,rfl⟩
       | false=>exact ⟨_,_,h,rfl⟩
      refine ⟨r,H',h,1,fun k e m hkl hp hle=>?_⟩;obtain ⟨k,rfl⟩:∃ k,m=k+1:=⟨m-1,by omega⟩;obtain ⟨_,l2,l3,l4,l5,_,l7⟩:=tM (hS.sb _ e hp);have e0:∀ as,yaO e (yak e (k+1)) n as=none:=by
       intro as;simp only [yaO,l2,l3,h4 as,h2];rfl
      have hi:yak e (k+1) n (first++args++captured) H=some (r,H'):=by simp only [yak,Env.effx,vK,l7,he,hrt]
      rw [Cp (hx' _ e hp)];simp only [mU,e0,l3,l4,l5,h2,h3,h7]
      cases yaw H (first++args++captured)<;>simp only [fK,if_false,hi]
     ·exact h.elim
  ·exact h.elim
theorem YD (hS:SEOk P S) {d:Nat} {fn:TFn} {n:Nat} (hR:bN P S.E (jO S d) fn.body) (hl:LpOk P S.E S.lp [] fn.body) (hf:S.E.fns n=some fn.fn) (hq:S.E.qui n=true) (hs:∀ as,S.E.sum n as=none) (he:∀ as H,S.E.eff n as H=none) {as:List PV} {K:PV→Prop} (h:WP S d fn as K) (hn:S.E.nl n=false:=by kernel_rfl) :
  ∃ r,K r∧iS P n as r:=by
 unfold WP at h;obtain ⟨r,H',hk,m0,hm⟩:=KQ hS.sb (dV hS d) hR hl hf he h;obtain ⟨q,hk,hq'⟩:=jm hk;refine ⟨q,hk,m0,fun k e m hkl hp hle=>?_⟩;obtain ⟨_,l2,l3,_,_,l6,_⟩:=tM (hS.sb k e hp);simp only [yaO,l2,l3,l6,hs as,hq,hm k e m hkl hp hle,hn,kC,cond_false,hq',if_true]
theorem bN.flat {E:Env} {c:TC} (h:ybs c=true:=by kernel_rfl):bN P E callK c:=fun hf=>by rw [h] at hf;cases hf
end
def tN (P:EP) (lp:LP) (G:aF):List (Nat×TC)→Prop
 | []=>True
 | p::r=>(∀ F H Q,lp p.1 G F H Q→cJ P p.2 F H Q)∧tN P lp G r
theorem tN.mem {P:EP} {lp:LP} {G:aF}:∀ {l:List (Nat×TC)},tN P lp G l→∀ p∈l,∀ F H Q,lp p.1 G F H Q→cJ P p.2 F H Q
 | [],_,p,hp=>by cases hp
 | q::r,h,p,hp=>by
  rcases qAp.1 hp with rfl|hp
  ·exact h.1
  ·exact tN.mem h.2 p hp
theorem gA {P:EP} {E:Env} {lp:LP} {G:aF} {c:TC} {l:List (Nat×TC)} (h:tN P lp G l) (e:lW c=l) (hf:ybs c=true:=by kernel_rfl):LpOk P E lp G c:=yA c hf (by rw [e];exact h.mem)
theorem bC {P:EP} {E:Env} {lp:LP} {G:aF} {c:TC} (e:lW c=[]) (hf:ybs c=true:=by kernel_rfl):LpOk P E lp G c:=gA (l:=[]) trivial e hf
theorem LpOk.sub {P P':EP} {E:Env} {lp:LP} {G:aF} (hs:∀ n e,P' n e→P n e):∀ (c:TC),ybs c=true→LpOk P E lp G c→LpOk P' E lp G c
 | .skip,_,_ | .ops _ _ _ _,_,_ | .exit _,_,_ | .ret,_,_ | .bad,_,_ | .yret _ _ _ _ _ _ _,_,_ | .cut _,_,_=>trivial
 | .rangeF _ _ _ _ _ _ _,hf,_=>by simp [ybs] at hf
 | .seq a b,hf,h=>by simp only [ybs,cA] at hf;exact ⟨LpOk.sub hs a hf.1 h.1,LpOk.sub hs b hf.2 h.2⟩
 | .cond _ a b,hf,h=>by simp only [ybs,cA] at hf;exact ⟨LpOk.sub hs a hf.1 h.1,LpOk.sub hs b hf.2 h.2⟩
 | .block _ b,hf,h=>LpOk.sub hs b hf h
 | .loop _ b,hf,h=>⟨LpOk.sub hs b hf h.1,fun F H Q k=>(h.2 F H Q k).sub hs⟩
 | .lG _ b,hf,h=>⟨LpOk.sub hs b hf h.1,fun F H Q k=>(h.2 F H Q k).sub hs⟩
 | .join _ b,hf,h=>⟨LpOk.sub hs b hf h.1,fun F H Q k=>(h.2 F H Q k).sub hs⟩
theorem SEOk.solo {S:SE} (h:SEOk (bW S.E) S):SEOk (eK S.E) S where
 sb:=aM.solo _
 sum:=fun n wp hw as K k=>by
  obtain ⟨r,h1,h2⟩:=h.sum n wp hw as K k;exact ⟨r,h1,h2.sub fun _ _ he=>aM.solo _ _ _ he⟩
 inl:=fun n fn hf=>by
  obtain ⟨h1,h2,h3,h4,h5,h6,h7⟩:=h.inl n fn hf;exact ⟨h1,h2,h3,h4,h5,h6,LpOk.sub (fun n e he=>aM.solo _ n e he) _ h6 h7⟩
 eff:=h.eff
 sumL:=fun n wp hw as b K k=>by obtain ⟨q,rows,h1,m0,h2⟩:=h.sumL n wp hw as b K k;exact ⟨q,rows,h1,m0,fun k e m k1 k2 k3=>h2 k e m k1 (aM.solo _ _ _ k2) k3⟩
def yiW:List (Nat×(List PV→(PV→Prop)→Prop))→Nat→Option (List PV→(PV→Prop)→Prop)
 | [],_=>none
 | (k,f)::r,n=>bif Nat.beq k n then some f else yiW r n
def yfD:List (Nat×TFn)→Nat→Option TFn
 | [],_=>none
 | (k,f)::r,n=>bif Nat.beq k n then some f else yfD r n
def yC (P:EP):List (Nat×(List PV→(PV→Prop)→Prop))→Prop
 | []=>True
 | (k,f)::r=>(∀ as K,f as K→∃ q,K q∧iS P k as q)∧yC P r
def yD (P:EP) (E:Env) (lp:LP):List (Nat×TFn)→Prop
 | []=>True
 | (k,f)::r=>(E.fns k=some f.fn∧E.qui k=false∧E.frz k=false∧(∀ as,E.sum k as=none)∧(∀ as H,E.eff k as H=none)∧ybs f.body=true∧LpOk P E lp [] f.body)∧yD P E lp r
theorem YE {P:EP}:∀ (l:List (Nat×(List PV→(PV→Prop)→Prop))),yC P l→∀ n wp,yiW l n=some wp→∀ as K,wp as K→∃ r,K r∧iS P n as r
 | [],_,_,_,h=>by simp [yiW] at h
 | (k,f)::r,hl,n,wp,h=>by
  simp only [yC] at hl;simp only [yiW] at h
  cases hc:Nat.beq k n with
  | true =>rw [hc] at h;simp only [cond_true,bU] at h;have:=fU hc;subst this;subst h;exact hl.1
  | false =>rw [hc] at h;exact YE r hl.2 n wp (by simpa using h)
theorem YF {P:EP} {E:Env} {lp:LP}:∀ (l:List (Nat×TFn)),yD P E lp l→∀ n fn,yfD l n=some fn→E.fns n=some fn.fn∧E.qui n=false∧E.frz n=false∧(∀ as,E.sum n as=none)∧(∀ as H,E.eff n as H=none)∧ybs fn.body=true∧LpOk P E lp [] fn.body
 | [],_,_,_,h=>by simp [yfD] at h
 | (k,f)::r,hl,n,fn,h=>by
  simp only [yD] at hl;simp only [yfD] at h
  cases hc:Nat.beq k n with
  | true =>rw [hc] at h;simp only [cond_true,bU] at h;have:=fU hc;subst this;subst h;exact hl.1
  | false =>rw [hc] at h;exact YF r hl.2 n fn (by simpa using h)
theorem bZ {P:EP} {E:Env} {ls:List (Nat×(List PV→(PV→Prop)→Prop))} {li:List (Nat×TFn)} {lp:LP} (hb:aM P E) (hs:yC P ls) (hi:yD P E lp li) (he:OG E):SEOk P ⟨E,yiW ls,yfD li,lp,fun _=>none⟩ where
 sb:=hb
 sum:=fun n wp h=>YE ls hs n wp h
 inl:=fun n fn h=>YF li hi n fn h
 eff:=he
 sumL:=fun n wp h=>by cases h
theorem ka {add sub n:Nat} (h1:Nat.beq n add=false) (h2:Nat.beq n sub=false) (as:List PV):sumC add sub n as=none:=by
 unfold sumC;split
 ·rw [h1,h2];rfl
 ·rfl
def ET (p0 p1 p2:Int) (K:Int→Int→Prop):Prop:=
 asr (decide (p2.toNat≤1)) (K (((p0.toNat+p1.toNat+p2.toNat)%18446744073709551616:Nat):Int) (((p0.toNat+p1.toNat+p2.toNat)/18446744073709551616:Nat):Int))
def tO:List PV:=([0,1,2,2,3,3,3,3,4,4,4,4,4,4,4,4,5,5,5,5,5,5,5,5,5,5,5,5,5,5,5,5,6,6,6,6,6,6,6,6,6,6,6,6,6,6,6,6,6,6,6,6,6,6,6,6,6,6,6,6,6,6,6,6,7,7,7,7,7,7,7,7,7,7,7,7,7,7,7,7,7,7,7,7,7,7,7,7,7,7,7,7,7,7,7,7,7,7,7,7,7,7,7,7,7,7,7,7,7,7,7,7,7,7,7,7,7,7,7,7,7,7,7,7,7,7,7,7,8,8,8,8,8,8,8,8,8,8,8,8,8,8,8,8,8,8,8,8,8,8,8,8,8,8,8,8,8,8,8,8,8,8,8,8,8,8,8,8,8,8,8,8,8,8,8,8,8,8,8,8,8,8,8,8,8,8,8,8,8,8,8,8,8,8,8,8,8,8,8,8,8,8,8,8,8,8,8,8,8,8,8,8,8,8,8,8,8,8,8,8,8,8,8,8,8,8,8,8,8,8,8,8,8,8,8,8,8,8,8,8,8,8,8,8,8,8,8,8,8,8,8,8,8,8,8,8]:List Int).map (PV.int .u8)
def OH (w:Int→Int→Int→(Int→Int→Prop)→Prop) (as:List PV) (K:PV→Prop):Prop:=
 match as with
 | [(.int .u64 p0),(.int .u64 p1),(.int .u64 p2)]=>w p0 p1 p2 (fun (r0:Int) (r1:Int)=>K (.tup [(.int .u64 r0),(.int .u64 r1)]))
 | _=>False
def yoh (as:List PV) (K:PV→Prop):Prop:=OH ET as K
def EU (p0 p1 p2:Int) (K:Int→Int→Prop):Prop:=
 asr (decide (p2.toNat≤1)) (K (((p0.toNat+18446744073709551616-p1.toNat-p2.toNat)%18446744073709551616:Nat):Int) ((bif Nat.ble (p1.toNat+p2.toNat) p0.toNat then 0 else 1:Nat):Int))
def OI (w:Int→Int→Int→(Int→Int→Prop)→Prop) (as:List PV) (K:PV→Prop):Prop:=
 match as with
 | [(.int .u64 p0),(.int .u64 p1),(.int .u64 p2)]=>w p0 p1 p2 (fun (r0:Int) (r1:Int)=>K (.tup [(.int .u64 r0),(.int .u64 r1)]))
 | _=>False
def yoj (as:List PV) (K:PV→Prop):Prop:=OI EU as K
theorem kb {P:Program} {E:Env} (hE:EO P E) (hm:P.follows .mixedOrders=true) {n:Nat} {as:List PV} {r:PV} (hs:E.sum n as=none) (hq:E.qui n=true) (h:kH E n as r):qJ P E.glob n as r:=by
 obtain ⟨m0,hm0⟩:=h;have:=hm0 m0 E m0 (bV _) rfl (bV _);simp only [yaO,hs,hq,if_true] at this;refine XW hE hm (n:=m0) ?_;unfold topV;split at this
 ·rename_i x H hx;rw [hx];exact this
 ·cases this
end Go.Pf
namespace Go.Pf
open Go Go.RowKit
section
variable {P:Program} {E:Env}
theorem kc {b:Bool} {call} (hc:yaT P E call) {I:Nat→Prop} {w:World} {f:Nat} {args:List PV} {vs:List Value} {r q:PV} {H:Hp} (himm:∀ b,I b→b<w.heap.size)
  (hg:∀ n x,E.glob n=some x→I n∧∃ vs,0<vs.length∧RC I w x vs∧At w n 0 vs) (hv:bG ⟨fun _=>none,fun _=>none,I,fun _=>none⟩ [] w args vs) (hin:call f args []=some (r,H)) (h:kC b H r=some q) :
  nQ P f vs.toArray w fun v w'=>Bel w.heap.size w w'∧VP (fun b=>I b∨(w.heap.size≤b∧b<w'.heap.size)) w' q v:=by
 let g0:Gh:=⟨fun _=>none,fun _=>none,I,fun _=>none⟩;have hr:Rel E 0 g0 [] [] #[] w:=by
  refine ⟨jJ _,fun s fv e=>by simp [fget] at e,fun id hb e=>by simp at e,fun id id' hb b o b' o' e=>by simp at e,fun id b o e=>by simp [g0] at e,fun s s' b e=>by simp [g0] at e,fun s b id o e=>by simp [g0] at e,fun s b e=>by simp [g0] at e,himm,hg⟩
 refine (hc f args [] r H hin 0 g0 [] #[] w vs hr (Lps.none_ fun _=>rfl) hv).mono ?_;rintro v w' ⟨g',n1,r1,hvr⟩;obtain ⟨g2,H2,r2,n2,hvp⟩:=WU r1 hvr h;have n3:=n1.trans n2;have noR:∀ b,¬RngR g0 b:=fun b ⟨id,o,e⟩=>by simp [g0] at e
 have noM:∀ b,¬kZ g0 b:=fun b ⟨s,e⟩=>by simp [g0] at e
 refine ⟨⟨⟨n3.os,n3.tape,n3.output,n3.size,fun k hk=>n3.kept k hk (noR k) (noM k)⟩,n3.drawn⟩,NT (fun b hb=>⟨?_,rfl⟩) hvp⟩;rcases qA4 b w.heap.size with h1 | h1
 ·rcases hb with hb | hb
  ·rcases n3.immb b h1 hb with h2 | h2
   ·exact .inl h2
   ·exact absurd h2 (noR b)
  ·exact absurd (n3.rng b h1 hb) (noR b)
 ·exact .inr ⟨h1,hb.elim (r2.imm b) r2.brng⟩
theorem kd (hE:EO P E) (hm:P.follows .mixedOrders=true) {n f:Nat} {q:PV} (h:∀ b,topV E n f [.mt b]=some q):qJ P E.glob f [.data []] q:=by
 intro I w vs himm hgl hv;simp only [fW,fD,RC] at hv;obtain ⟨v,vr,rfl,⟨a,len,cap,e,hl,hc,hm2,_⟩,rfl⟩:=hv;simp only [kO,and_true] at e;subst e;have hl:len=0:=hl;subst hl;have hh:=h a.isNone;unfold topV at hh;split at hh
 ·rename_i r H hin;refine kc (XV hE hm n) himm hgl (args:=[.mt a.isNone]) ?_ hin hh;simp only [bG,VR];exact ⟨_,_,rfl,⟨a,cap,rfl,hm2,rfl⟩,rfl⟩
 ·cases hh
end
def EV (esz bytes:Nat) (z:PV):AFn:=⟨1,[.tmp 2],
 (.seq
  (.ops [⟨some 2,(.mv (.c .nils)),none⟩] [] [2])
  (.seq
   (.seq
    (.ops [⟨some 3,(.mv (.t 0)),none⟩,
     ⟨some 4,(.eqN false (.t 3)),none⟩] [] [3])
    (.cond (.t 4)
     (.seq (.ops [⟨some 2,(.mv (.c .nils)),none⟩] [] [0,4]) .ret)
     .skip))
   (.seq
    (.ops [⟨some 5,(.bSl true esz z 0 []),none⟩,
     ⟨some 6,(.mv (.t 0)),none⟩,
     ⟨some 7,(.app true esz bytes (.t 5) (.t 6)),none⟩,
     ⟨some 2,(.mv (.t 7)),none⟩] [] [0,4,5,6,7])
    .ret)))⟩
abbrev pT:=List (Nat×Nat×Nat)
def KR (esz bytes:Nat) (rows:List PV):Bool:=pN esz rows&&decide ((rows.length+64)*(bytes+1)≤room)
def yhN:pT→Nat→List PV→Option PV
 | [],_,_=>none
 | (k,esz,bytes)::r,n,as=>bif Nat.beq k n then (match as with
  | [.data rows]=>(bif KR esz bytes rows then some (.data rows) else none)
  | _=>none) else yhN r n as
def KS:pT→Nat→Bool
 | [],_=>false
 | (k,_,_)::r,n=>Nat.beq k n||KS r n
section
variable {P:Program} {E:Env}
theorem ke {n esz bytes:Nat} {z:PV} (hf:E.fns n=some (EV esz bytes z)) (he:∀ as H,E.eff n as H=none) (hnl:E.nl n=false) (b:Bool):topV E 12 n [.mt b]=some (.data []):=by
 unfold topV
 cases b<;>simp [yak,Env.effx,vK,he,exec,hf,EV,yeG,mC,yeX,ycN,yad,evV,ev,gT,fget,bB,fdels,fC,kQ,ydh,outV,Option.map,ydz,yvS,mE,kC,hnl,purR,ybk,yd1,appV,yf7,pN,vL]
theorem kg {n esz bytes:Nat} {z:PV} (hf:E.fns n=some (EV esz bytes z)) (he:∀ as H,E.eff n as H=none) (hnl:E.nl n=false) {x:PV} {r:List PV} (h:KR esz bytes (x::r)=true):topV E 12 n [.data (x::r)]=some (.data (x::r)):=by simp only [KR,cA,decide_eq_true_eq,gS] at h;obtain ⟨h1,h2⟩:=h;unfold topV;simp [yak,Env.effx,vK,he,exec,hf,EV,yeG,mC,yeX,ycN,yad,evV,ev,gT,fget,bB,fdels,fC,kQ,ydh,outV,Option.map,ydz,yvS,mE,kC,hnl,purR,ybk,yd1,appV,yf7,h1,vL,ycj,h2]
theorem YG (hE:EO P E) (hm:P.follows .mixedOrders=true) (he:∀ n as H,E.eff n as H=none) (hnl:∀ n,E.nl n=false):∀ (cl:pT),(∀ n esz bytes,(n,esz,bytes)∈cl→∃ z,E.fns n=some (EV esz bytes z))→∀ n as r,yhN cl n as=some r→qJ P E.glob n as r
 | [],_,_,_,_,h=>by simp [yhN] at h
 | (k,esz,bytes)::t,hc,n,as,r,h=>by
  simp only [yhN] at h
  cases hb:Nat.beq k n with
  | false=>rw [hb] at h;exact YG hE hm he hnl t (fun n e b hm=>hc n e b (gL _ hm)) n as r (by simpa using h)
  | true=>
   rw [hb] at h;have e:=fU hb;subst e;simp only [cond_true] at h;split at h
   ·rename_i rows
    cases hk:KR esz bytes rows with
    | false=>rw [hk] at h;simp at h
    | true=>
     rw [hk] at h;simp only [cond_true,bU] at h;subst h;obtain ⟨z,hf⟩:=hc k esz bytes iP
     cases rows with
     | nil=>exact kd hE hm (fun b=>ke hf (he k) (hnl k) b)
     | cons x r=>exact XW hE hm (kg hf (he k) (hnl k) hk)
   ·cases h
end
def YH:List (Nat×PV)→Nat→Option PV
 | [],_=>none
 | (k,a)::r,n=>bif Nat.beq k n then some a else YH r n
theorem qJ.any {P:Program} {G:Nat→Option PV} {f:FuncId} {as:List PV} {r:PV} (h:qJ P (fun _=>none) f as r):qJ P G f as r:=
 fun I w vs hI _ hv=>h I w vs hI (fun _ _ e=>nomatch e) hv
def tP (add sub:Nat) (tab:List (Nat×AFn)) (qui:List Nat) (cl:pT) (gl:List (Nat×PV)):Env:=
 { glob:=YH gl,sum:=fun n as=>match sumC add sub n as with | some r=>some r | none=>yhN cl n as,fns:=ytI tab,frz:=fun _=>false,qui:=memN qui,nl:=fun n=>memN qui (n+1000000),rb:=fun n=>memN qui (n+3000000),lo:=fun n=>bif memN qui (n+4000000) then some 1 else bif memN qui (n+5000000) then some 0 else bif memN qui (n+2000000) then some 4 else none,dn:=fun n=>memN qui (n+6000000) }
def KT (add sub:Nat) (cl:pT) (n:Nat):Bool:=Nat.beq n add||(Nat.beq n sub||KS cl n)
theorem YI:∀ (cl:pT) (n:Nat) (as:List PV),KS cl n=false→yhN cl n as=none
 | [],_,_,_=>rfl
 | (k,_,_)::r,n,as,h=>by simp only [KS,Ax] at h;simp only [yhN,h.1,cond_false];exact YI r n as h.2
theorem kh {add sub:Nat} {tab:List (Nat×AFn)} {qui:List Nat} {cl:pT} {gl:List (Nat×PV)} {n:Nat} (h:KT add sub cl n=false) (as:List PV):(tP add sub tab qui cl gl).sum n as=none:=by simp only [KT,Ax] at h;simp only [tP,ka h.1 h.2.1,YI cl n as h.2.2]
theorem ki {P:Program} {add sub:Nat} {tab:List (Nat×AFn)} {qui:List Nat} {cl:pT} {gl:List (Nat×PV)} (hm:P.follows .mixedOrders=true) (ha:IsExtern P add add64Entry) (hs:IsExtern P sub HE) (ht:Cd P tab)
  (hd:∀ n∈Ce qui,ja P n) (hc:∀ n esz bytes,(n,esz,bytes)∈cl→∃ z,ytI tab n=some (EV esz bytes z)):EO P (tP add sub tab qui cl gl) where
 sum:=by
  intro n as r h;simp only [tP] at h;split at h
  ·rename_i q hq;cases h;exact Ya ha hs n as _ hq
  ·exact (YG (iz (qui:=[]) ha hs ht) hm (fun _ _ _=>rfl) (fun _=>rfl) cl (fun n e b hmem=>hc n e b hmem) n as r h).any
 fns:=fun n fn h=>Oo tab ht n fn h
 eff:=fun _ _ _ _ _ _ _ h=>by cases h
 dn:=fun n h=>hd n (Yb h)
 top:=fun _ _=>rfl
 yl:=fun _ _ _ _ _ _ h=>by cases h
end Go.Pf
namespace Go.Pf
abbrev Ls:Type:=List PV
def O (d:Nat) (x:AOp):AO:=⟨some d,x,none⟩
def M (d s:Nat):AO:=⟨some d,.mv (.t s),none⟩
def I (n:Int):Opd:=.c (.int .i64 n)
def oX (d:Nat) (op:BinOp) (a b:Nat):AO:=⟨some d,.bin op (.t a) (.t b),none⟩
def oT (d sz a:Nat):AO:=⟨some d,.load true sz (.t a),none⟩
def oF (d sz a:Nat):AO:=⟨some d,.load false sz (.t a),none⟩
def oQ (l:List AO) (d:List Nat):TC:=.ops l [] [] d
abbrev bO (E:Env) (wp:List PV→(PV→Prop)→Prop) (n:Nat):Prop:=∀ as K,wp as K→∃ r,K r∧qP E n as r
abbrev OkL (E:Env) (wp:List PV→HB→(PV→List PV→Prop)→Prop) (n:Nat):Prop:=∀ as b K,wp as b K→∃ q rows,K q rows∧HQ (bW E) n as b q rows
abbrev AY (E:Env) (wp:List PV→(PV→Prop)→Prop) (n:Nat):Prop:=∀ as K,wp as K→∃ r,K r∧kH E n as r
theorem bO.solo {E:Env} {wp:List PV→(PV→Prop)→Prop} {n:Nat} (h:bO E wp n):AY E wp n:=fun as K k=>by obtain ⟨r,h1,h2⟩:=h as K k;exact ⟨r,h1,h2.solo⟩
theorem kH.unique {E:Env} {n:Nat} {as:List PV} {r r':PV} (h:kH E n as r) (h':kH E n as r'):r=r':=by obtain ⟨m,hm⟩:=h;obtain ⟨m',hm'⟩:=h';have e:=hm (m+m') E (m+m') (by omega) rfl (by omega);rw [hm' (m+m') E (m+m') (by omega) rfl (by omega)] at e;exact (Option.some.inj e).symm
theorem yE {E:Env} {n:Nat} {wp:List PV→(PV→Prop)→Prop} (ok:AY E wp n) {as:List PV} {x:PV}
  (h:∀ K:PV→Prop,K x→wp as K) {K:PV→Prop} (k:wp as K):K x:=by
 obtain ⟨r,h1,h2⟩:=ok as K k;obtain ⟨q,h3,h4⟩:=ok as (fun y=>y=x) (h _ rfl);subst h3;rw [← h2.unique h4];exact h1
theorem cW {E:Env} {n:Nat} {wp:List PV→(PV→Prop)→Prop} (ok:∀ as K,wp as K→∃ r,K r∧qP E n as r) {as:List PV} {x:PV}
 (h:∀ K:PV→Prop,K x→wp as K) {K:PV→Prop} (k:wp as K):K x:=yE (bO.solo ok) h k
end Go.Pf
namespace Go.Pf
open Go
inductive DS where
 | b
 | i (k:IntKind)
 | s (e:DS)
 | a (l:List DS)
def DS.isA:DS→Bool
 | .a _=>true
 | _=>false
def PV.isAgg:PV→Bool
 | .agg _=>true
 | _=>false
mutual
def HasF:DS→List PV→Prop
 | .b,c=>∃ x,c=[.bool x]
 | .i k,c=>∃ n,c=[.int k n]∧iL k n
 | .s e,c=>∃ rows:List PV,c=[.data rows]∧rows.length≤maxLen∧∀ x∈rows,x.isAgg=e.isA∧HasF e x.cells
 | .a l,c=>HasL l c
def HasL:List DS→List PV→Prop
 | [],c=>c=[]
 | d::l,c=>∃ c1 c2,c=c1++c2∧HasF d c1∧HasL l c2
end
mutual
def iT (P:Program):DS→TypeId→Bool
 | .b,t=>(match P.underlying t with | some .bool=>true | _=>false)
 | .i k,t=>(match P.underlying t with | some (.int q)=>decide (q=k) | _=>false)
 | .s e,t=>(match P.underlying t with | some (.slice u)=>decide (0<P.cellsOf u)&&iT P e u | _=>false)
 | .a l,t=>(match P.underlying t with | some (.struct fs)=>mF P l (fs.toList.map (·.type)) | some (.array n u)=>mF P l (replicate n u) | _=>false)
def mF (P:Program):List DS→List TypeId→Bool
 | [],[]=>true
 | d::l,t::r=>iT P d t&&mF P l r
 | _,_=>false
end
theorem YJ (P:Program):∀ (l:List DS) (ts:List TypeId),mF P l ts=true→l.length=ts.length
 | [],[],_=>rfl
 | _::l,_::r,h=>by unfold mF at h;simp only [cA] at h;simp [YJ P l r h.2]
 | [],_::_,h=>by unfold mF at h;cases h
 | _::_,[],h=>by unfold mF at h;cases h
theorem YL (P:Program):∀ (l:List DS) (ts:List TypeId),mF P l ts=true→∀ (j:Nat) d t,l[j]?=some d→ts[j]?=some t→iT P d t=true
 | [],[],_,_,_,_,h,_=>by simp at h
 | d::l,t::r,h,0,d',t',h1,h2=>by unfold mF at h;simp only [cA] at h;simp only [GV,bU] at h1 h2;subst h1;subst h2;exact h.1
 | d::l,t::r,h,j+1,d',t',h1,h2=>by unfold mF at h;simp only [cA] at h;exact YL P l r h.2 j d' t' (by simpa using h1) (by simpa using h2)
 | [],_::_,h,_,_,_,_,_=>by unfold mF at h;cases h
 | _::_,[],h,_,_,_,_,_=>by unfold mF at h;cases h
section
variable {H:Type} {enc:TypeId×Value→H} {P:Program} {w:World} {I:Nat→Prop}
theorem kj {l1 l2:List PV} {v1 v2:List Value} (h1:yaz I w l1 v1) (h2:yaz I w l2 v2):yaz I w (l1++l2) (v1++v2):=NL h1 h2
def yJN (enc:TypeId×Value→H) (P:Program) (w:World) (I:Nat→Prop) (n:Nat):Prop:=
 ∀ (d:DS) (t:TypeId) (cs:List Value) (x:DataW H×List MemPlace),t<P.types.size→iT P d t=true→DataW.trod enc P w 0 (fun _=>true) true n t cs=some x→(∀ p∈x.2,I p.block)→∃ pcs,HasF d pcs∧yaz I w pcs cs
theorem YM {n:Nat} (ih:yJN enc P w I n) {l:List DS} {ts:List TypeId} (hl:mF P l ts=true) (hrow:∀ t∈ts,t<P.types.size) {cs:List Value} {xs:List (DataW H×List MemPlace)} (off:Nat→Nat)
  (hoff:∀ j t,ts[j]?=some t→off (j+1)=off j+P.cellsOf t) (hend:cs.length≤off ts.length) (hx:∀ j t,ts[j]?=some t→DataW.trod enc P w 0 (fun _=>true) true n t ((cs.drop (off j)).take (P.cellsOf t))=xs[j]?)
  (hxl:xs.length=ts.length) (hI:∀ p∈xs.flatMap (·.2),I p.block) :
  ∀ (r j:Nat),j+r=ts.length→∃ pcs,HasL (l.drop j) pcs∧yaz I w pcs (cs.drop (off j)):=by
 have hll:=YJ P l ts hl;intro r;induction r with
 | zero=>
  intro j hj;refine ⟨[],?_,?_⟩
  ·rw [oD (by omega)];simp only [HasL]
  ·rw [oD (by rw [show j=ts.length by omega];exact hend)];simp only [yaz]
 | succ r ihr=>
  intro j hj;obtain ⟨pcs,h1,h2⟩:=ihr (j+1) (by omega);have ht:ts[j]?=some ts[j]:=bY (by omega);have hd:l[j]?=some l[j]:=bY (by omega);have hxj:xs[j]?=some xs[j]:=bY (by omega);have h:=hx j _ ht;rw [hxj] at h;obtain ⟨pc,k1,k2⟩:=ih l[j] ts[j] _ _ (hrow _ (mL _)) (YL P l ts hl j _ _ hd ht) h (fun p hp=>hI p (List.mem_flatMap.2 ⟨xs[j],mL _,hp⟩));refine ⟨pc++pcs,?_,?_⟩
  ·rw [List.drop_eq_getElem_cons (by omega)];simp only [HasL];exact ⟨pc,pcs,rfl,k1,h1⟩
  ·have e:cs.drop (off j)=(cs.drop (off j)).take (P.cellsOf ts[j])++cs.drop (off (j+1)):=by
    rw [hoff j _ ht,← List.drop_drop,List.take_append_drop]
   rw [e];exact kj k2 h2
theorem km {d:DS} {pcs:List PV} (h:HasF d pcs):∃ x:PV,x.isAgg=d.isA∧x.cells=pcs∧∀ vs,yaz I w pcs vs→RC I w x vs:=by
 have one:∀ y:PV,y.isAgg=false→pcs=[y]→d.isA=false→∃ x:PV,x.isAgg=d.isA∧x.cells=pcs∧∀ vs,yaz I w pcs vs→RC I w x vs:=by
  intro y hy e hd;refine ⟨y,hy.trans hd.symm,?_,?_⟩
  ·subst e;cases y<;>first | rfl | cases hy
  ·intro vs hv;subst e;simp only [yaz] at hv;obtain ⟨v,vr,rfl,_,h1,rfl⟩:=hv;exact h1
 cases d with
 | b=>simp only [HasF] at h;obtain ⟨x,e⟩:=h;exact one _ rfl e rfl
 | i k=>simp only [HasF] at h;obtain ⟨x,e,_⟩:=h;exact one _ rfl e rfl
 | s e=>simp only [HasF] at h;obtain ⟨x,e,_⟩:=h;exact one _ rfl e rfl
 | a l=>exact ⟨.agg pcs,rfl,rfl,fun vs hv=>by simp only [RC];exact hv⟩
theorem ko (K:Kids P (·<P.types.size)):∀ n,yJN enc P w I n:=by
 intro n;induction n with
 | zero=>intro d t cs x _ _ h;simp [DataW.trod] at h
 | succ n ih=>
  intro d t cs x hrow hty h hI
  cases d with
  | b=>
   unfold iT at hty;split at hty
   ·rename_i ht;obtain ⟨b,rfl,_⟩:=DataW.trod_bool ht h;refine ⟨[.bool b],by simp only [HasF];exact ⟨b,rfl⟩,?_⟩;simp only [yaz,RC];exact ⟨_,_,rfl,rfl,rfl,rfl⟩
   ·cases hty
  | i k=>
   unfold iT at hty;split at hty
   ·rename_i q ht;simp only [decide_eq_true_eq] at hty;subst hty;obtain ⟨m,rfl,_,hw⟩:=DataW.trod_int ht h;have hk:iL q m:=by
     unfold iL;simpa [Lit.wf] using hw
    refine ⟨[.int q m],by simp only [HasF];exact ⟨m,rfl,hk⟩,?_⟩;simp only [yaz,RC];exact ⟨_,_,rfl,rfl,⟨rfl,hk⟩,rfl⟩
   ·cases hty
  | s e=>
   unfold iT at hty;split at hty
   ·rename_i u ht;simp only [cA,decide_eq_true_eq] at hty;obtain ⟨hpos,hty⟩:=hty;rcases DataW.trod_slice ht h with ⟨rfl,_⟩ | ⟨a,len,cap,elems,rest,m,hm,rfl,rfl,_,hle,hcap,hlen,hel,_⟩
    ·refine ⟨[.data []],?_,?_⟩
     ·simp only [HasF];exact ⟨[],rfl,by simp,by simp⟩
     ·simp only [yaz,RC];exact ⟨_,_,rfl,rfl,⟨none,0,0,rfl,rfl,by omega,by decide,by simp⟩,rfl⟩
    ·have hmn:m=n:=by omega
     subst hmn;have hru:=K.slice hrow ht;have hspot0:len≠0→a.spot=none:=by
      intro h0;have hb:=hel 0 (by omega);rw [bY (by omega)] at hb;obtain ⟨cs',hc,hy⟩:=GU.1 hb;obtain ⟨_,hcl,hcg⟩:=World.cells?_some hc;have h0:=hcg 0 hpos;rw [bY (by omega)] at h0;have e0:(a.add (0*P.cellsOf u)).add 0=a:=by simp [Addr.add]
      rw [e0] at h0;unfold World.cell? at h0;split at h0
      ·split at h0
       ·cases h0
       ·rename_i hs;simpa using hs
      ·cases h0
     have hadd:a.spot=none→∀ k i:Nat,(a.add k).add i=⟨a.block,a.off+k+i,none⟩:=by
      intro hs k i;obtain ⟨ab,ao,as⟩:=a;simp only at hs;subst hs;simp only [Addr.add]
      by_cases h1:k=0<;>by_cases h2:i=0<;>simp [h1,h2,vG]
     have yf7:∀ (r j:Nat),j+r=len→∃ rows:List PV,rows.length=r∧(∀ x∈rows,x.isAgg=e.isA∧HasF e x.cells)∧(r≠0→a.spot=none∧I a.block)∧dM I w rows (P.cellsOf u) a.block (a.off+j*P.cellsOf u):=by
      intro r;induction r with
      | zero=>intro j _;exact ⟨[],rfl,by simp,fun h=>absurd rfl h,by simp only [dM]⟩
      | succ r ihr=>
       intro j hj;obtain ⟨rows,l1,l2,_,l4⟩:=ihr (j+1) (by omega);have hj2:j<elems.length:=by omega
       have hb:=hel j (by omega);rw [bY hj2] at hb;obtain ⟨cs',hc,hy⟩:=GU.1 hb;obtain ⟨_,hcl,hcg⟩:=World.cells?_some hc;obtain ⟨pcs,k1,k2⟩:=ih e u cs' _ hru hty hy (fun p hp=>hI p (by
        simp only [qAz,List.mem_flatMap];exact .inr ⟨elems[j],.inl (mL _),hp⟩))
       obtain ⟨x,x1,x2,x3⟩:=km (I:=I) (w:=w) k1;have hspot:=hspot0 (by omega);have hIa:I a.block:=hI (.cell a.block a.off) (by
        simp only [qAz];left;exact MemPlace.mem_row.2 ⟨0,Nat.mul_pos (by omega) hpos,rfl⟩)
       refine ⟨x::rows,by simp [l1],?_,fun _=>⟨hspot,hIa⟩,?_⟩
       ·intro y hy;rcases qAp.1 hy with rfl | hy
        ·exact ⟨x1,by rw [x2];exact k1⟩
        ·exact l2 y hy
       ·simp only [dM];refine ⟨⟨cs',hcl,x3 _ k2,?_⟩,?_⟩
        ·intro i v hi;have hi2:i<P.cellsOf u:=by rw [← hcl];exact (Au.1 hi).1
         have:=hcg i hi2;rw [hi] at this;rw [← this,hadd hspot]
        ·rw [vG,show j*P.cellsOf u+P.cellsOf u=(j+1)*P.cellsOf u by rw [dH,jI]];exact l4
     obtain ⟨rows,l1,l2,l3,l4⟩:=yf7 len 0 (by omega);refine ⟨[.data rows],?_,?_⟩
     ·simp only [HasF];exact ⟨rows,rfl,by omega,l2⟩
     ·simp only [yaz,RC];refine ⟨_,_,rfl,rfl,⟨some a,len,cap,rfl,l1.symm,hle,hcap,?_⟩,rfl⟩
      by_cases h0:len=0
      ·left;exact DX (by omega)
      ·right;obtain ⟨hs,hIa⟩:=l3 h0;refine ⟨a.block,a.off,P.cellsOf u,?_,hIa,hpos,by simpa using l4⟩
       cases a;simp only at hs;subst hs;rfl
   ·cases hty
  | a l=>
   unfold iT at hty;split at hty
   ·rename_i fs ht;obtain ⟨xs,m,hm,rfl,hcl,hxl,hxs⟩:=DataW.trod_struct ht h;have hmn:m=n:=by omega
    subst hmn;obtain ⟨k1,k2,k3⟩:=K.struct hrow ht;have:=YM ih (l:=l) (ts:=fs.toList.map (·.type)) hty (fun t ht=>by obtain ⟨f,hf,rfl⟩:=List.mem_map.1 ht;exact k1 f hf) (cs:=cs) (xs:=xs) (fun j=>((fs.toList.take j).map fun f=>P.cellsOf f.type).sum)
     (fun j t hj=>by
      rw [rT,pH] at hj;obtain ⟨f,hf,rfl⟩:=hj;obtain ⟨hlt,hf2⟩:=Au.1 hf;show ((fs.toList.take (j+1)).map _).sum=_;rw [uX,hf];simp)
     (by simp only [jH,xJ];rw [hcl,k2];exact bV _)
     (fun j t hj=>by
      rw [rT,pH] at hj;obtain ⟨f,hf,rfl⟩:=hj;have:=hxs j f (by simpa using hf);rw [← this,k3 j f hf])
     (by simp [hxl]) hI (fs.toList.map (·.type)).length 0 (by omega)
    obtain ⟨pcs,p1,p2⟩:=this;exact ⟨pcs,by simp only [HasF];exact p1,by simpa using p2⟩
   ·rename_i q u ht;obtain ⟨xs,m,hm,rfl,hcl,hxl,hxs⟩:=DataW.trod_array ht h;have hmn:m=n:=by omega
    subst hmn;obtain ⟨k1,k2⟩:=K.array hrow ht;have:=YM ih (l:=l) (ts:=replicate q u) hty (fun t ht=>by rw [(List.mem_replicate.1 ht).2];exact k1) (cs:=cs) (xs:=xs) (fun j=>j*P.cellsOf u)
     (fun j t hj=>by
      have:t=u:=(List.mem_replicate.1 (List.mem_of_getElem? hj)).2;subst this;show (j+1)*_=_;rw [dH,jI])
     (by rw [uW,hcl,k2];exact bV _)
     (fun j t hj=>by
      have e:t=u:=(List.mem_replicate.1 (List.mem_of_getElem? hj)).2;subst e;have hlt:j<q:=by have:=(Au.1 hj).1;simpa using this
      exact hxs j hlt)
     (by simp [hxl]) hI (replicate q u).length 0 (by omega)
    obtain ⟨pcs,p1,p2⟩:=this;exact ⟨pcs,by simp only [HasF];exact p1,by simpa using p2⟩
   ·cases hty
end
end Go.Pf
namespace Go.Pf
open Go Go.ChangeShapes Go.WideShapes Go.ChangeAt Go.RowKit
def ypr:List DS→List PV→Prop
 | [],as=>as=[]
 | d::l,as=>∃ x r,as=x::r∧x.isAgg=d.isA∧HasF d x.cells∧ypr l r
section
variable {H:Type} {enc:TypeId×Value→H} {P:Program}
theorem kr (K:Kids P (·<P.types.size)) {w:World} {I:Nat→Prop} {base:Nat} {d:DS} {t:TypeId} {v:Value} {x:DataW H} {p:List MemPlace} (hrow:t<P.types.size) (hty:iT P d t=true)
  (hval:Value.okWide P w .any base t v) (h:DataW.Trod enc P w 0 (fun _=>true) true t v x p) (hI:∀ q∈p,I q.block) :
  ∃ y:PV,y.isAgg=d.isA∧HasF d y.cells∧fD I w y v:=by
 obtain ⟨n,hn⟩:=h;obtain ⟨pcs,h1,h2⟩:=ko (I:=I) K n d t _ _ hrow hty hn hI;have single:∀ y:PV,pcs=[y]→y.isAgg=false→d.isA=false→v.cells.toList=[v]→∃ y:PV,y.isAgg=d.isA∧HasF d y.cells∧fD I w y v:=by
  intro y e hy hd hv;subst e;refine ⟨y,hy.trans hd.symm,?_,?_⟩
  ·have:y.cells=[y]:=by cases y<;>first | rfl | cases hy
   rw [this];exact h1
  ·rw [hv] at h2;simp only [yaz] at h2;obtain ⟨u,vr,e,_,h3,h4⟩:=h2;simp only [kO] at e;obtain ⟨rfl,_⟩:=e
   cases y<;>first | exact h3 | (simp only [RC] at h3;done) | (simp only [fD];exact h3) | cases hy
 cases d with
 | b=>
  unfold iT at hty;split at hty
  ·rename_i ht;obtain ⟨b,rfl⟩:=okWide_bool ht hval;simp only [HasF] at h1;obtain ⟨z,e⟩:=h1;exact single _ e rfl rfl rfl
  ·cases hty
 | i k=>
  unfold iT at hty;split at hty
  ·rename_i q ht;obtain ⟨m,rfl⟩:=okWide_int ht hval;simp only [HasF] at h1;obtain ⟨z,e,_⟩:=h1;exact single _ e rfl rfl rfl
  ·cases hty
 | s e=>
  unfold iT at hty;split at hty
  ·rename_i u ht;obtain ⟨a,len,cap,rfl⟩:=okWide_slice ht hval;simp only [HasF] at h1;obtain ⟨z,e,_⟩:=h1;exact single _ e rfl rfl rfl
  ·cases hty
 | a l=>
  have key:∀ cs,v=.agg cs→∃ y:PV,y.isAgg=(DS.a l).isA∧HasF (DS.a l) y.cells∧fD I w y v:=by rintro cs rfl;refine ⟨.agg pcs,rfl,h1,?_⟩;simp only [fD];exact ⟨cs.toList,rfl,h2⟩
  unfold iT at hty;split at hty
  ·rename_i fs ht;obtain ⟨cs,e,_⟩:=okWide_struct ht hval;exact key cs e
  ·rename_i q u ht;have hval2:=hval;unfold Value.okWide at hval2;rw [ht] at hval2;obtain ⟨cs,e,_⟩:=hval2;exact key cs e
  ·cases hty
theorem YN (K:Kids P (·<P.types.size)) {w:World} {I:Nat→Prop} {base:Nat}:∀ (ts:List TypeId) (dss:List DS) (vs:List Value) (xs:List (DataW H)) (p:List MemPlace),mF P dss ts=true→(∀ t∈ts,t<P.types.size) →
  (∀ (j:Nat) t v,ts[j]?=some t→vs[j]?=some v→Value.okWide P w .any base t v)→DataW.TrodAll enc P w 0 (fun _=>true) true ts vs xs p→(∀ q∈p,I q.block)→∃ as,ypr dss as∧fW I w as vs
 | [],[],[],[],p,_,_,_,_,_=>⟨[],by simp only [ypr],by simp only [fW]⟩
 | t::ts,d::dss,v::vs,x::xs,p,hty,hrow,hval,h,hI=>by
  unfold mF at hty;simp only [cA] at hty;obtain ⟨p1,q,h1,h2,rfl⟩:=h;obtain ⟨y,y1,y2,y3⟩:=kr K (hrow t (iP ..)) hty.1 (hval 0 t v rfl rfl) h1 (fun z hz=>hI z (List.mem_append_left _ hz));obtain ⟨as,a1,a2⟩:=YN K ts dss vs xs q hty.2 (fun u hu=>hrow u (gL _ hu)) (fun j u z hj hz=>hval (j+1) u z hj hz) h2 (fun z hz=>hI z (List.mem_append_right _ hz));refine ⟨y::as,?_,?_⟩
  ·simp only [ypr];exact ⟨y,as,rfl,y1,y2,a1⟩
  ·simp only [fW];exact ⟨v,vs,rfl,y3,a2⟩
 | [],_::_,_,_,_,hty,_,_,_,_=>by unfold mF at hty;cases hty
 | _::_,[],_,_,_,hty,_,_,_,_=>by unfold mF at hty;cases hty
 | [],[],_::_,_,_,_,_,_,h,_=>h.elim
 | [],[],[],_::_,_,_,_,_,h,_=>h.elim
 | _::_,_::_,[],_,_,_,_,_,h,_=>h.elim
 | _::_,_::_,_::_,[],_,_,_,_,h,_=>h.elim
theorem ks (K:Kids P (·<P.types.size)) {n:FuncId} {fn:Func} {G:Nat→Option PV} {dss:List DS} {ts:List TypeId} (hty:mF P dss ts=true) (hrow:∀ t∈ts,t<P.types.size)
  (hf : P.funcs[n]? = some fn) (hn : (fn.name == "runtime.NumGoroutine") = false) (hb : fn.body.isSome = true) (hsum : ∀ as, ypr dss as → qJ P G n as (.bool true))
  {W:World} {base:Nat} {args:Array Value} {ds:List (DataW H)} {p:List MemPlace} {I:Nat→Prop} (hval:∀ (j:Nat) t v,ts[j]?=some t→args.toList[j]?=some v→Value.okWide P W .any base t v)
  (hA:DataW.TrodAll enc P W 0 (fun _=>true) true ts args.toList ds p) (hI:∀ q∈p,I q.block) (himm:∀ b,I b→b<W.heap.size) (hG:NQ G I W) :
  Calls P n args W fun e W'=>e=.returned (.bool true)∧Below W.heap.size W W':=by
 obtain ⟨as,a1,a2⟩:=YN (I:=I) K ts dss args.toList ds p hty hrow hval hA hI;have h:=hsum as a1 I W args.toList himm hG a2;have e:(callFunc n (args.toList).toArray).run P W=.ok (.enter n args) W:=by
  have h1 : fn.name ≠ "runtime.NumGoroutine" := by simpa using hn
  obtain ⟨c,hc⟩:=xH.1 hb;simp [callFunc,hf,h1,hc]
 unfold nQ at h;rw [e] at h;refine Calls.mono h fun e w' he=>?_
 cases e with
 | returned v =>obtain ⟨h1,h2⟩:=he;simp only [VP,fD,RC,kO,and_true] at h2;exact ⟨by rw [h2],h1.toBelow⟩
 | panicked ch=>exact he.elim
 | outgrown=>exact he.elim
theorem ku (K:Kids P (·<P.types.size)) (hz:∀ t e,t<P.types.size→P.underlying t=some (.slice e)→0<P.cellsOf e) {W W':World} (hb:Below W.heap.size W W') {sp:Nat→Bool} :
  ∀ {ts:List TypeId} {vs:List Value} {ds:List (DataW H)} {ps:List MemPlace},(∀ t∈ts,t<P.types.size)→DataW.TrodAll enc P W 0 (fun _=>true) true ts vs ds ps→(∀ p∈ps,p.block<W.heap.size)→(∀ p∈ps,sp p.block=true)→DataW.TrodAll enc P W' 0 sp true ts vs ds ps:=by
 intro ts vs ds ps hT h hlt hs;have carry:∀ {ts:List TypeId} {vs:List Value} {ds:List (DataW H)} {ps:List MemPlace},DataW.TrodAll enc P W 0 (fun _=>true) true ts vs ds ps→(∀ p∈ps,p.block<W.heap.size)→DataW.TrodAll enc P W' 0 (fun _=>true) true ts vs ds ps:=by
  intro ts;induction ts with
  | nil=>
   intro vs ds ps h _
   cases vs with
   | nil=>cases ds with
    | nil=>exact h
    | cons _ _=>exact h.elim
   | cons _ _=>exact h.elim
  | cons t ts ih=>
   intro vs ds ps h hlt
   cases vs with
   | nil=>exact h.elim
   | cons v vs=>cases ds with
    | nil=>exact h.elim
    | cons d ds =>obtain ⟨p,q,⟨n,h1⟩,h2,e⟩:=h;subst e;exact ⟨p,q,⟨n,DataW.trod_carry n _ _ _ h1 (fun x hx=>hb.same (hlt x (List.mem_append_left _ hx)))⟩,ih h2 (fun x hx=>hlt x (List.mem_append_right _ hx)),rfl⟩
 exact DataW.TrodAll.respare K hz hT (carry h hlt) hs
theorem kv {f:Func} {s:ChangeSpec} {yhw fresh handsOn again:Bool} {W W':World} {args:Array Value} {v:Value} {ds gs:List (DataW H)} {before pa pv:List MemPlace}
  (hW:DataW.Whole enc P f.params.toList s.vars yhw W args.toList ds gs before)
  (hres:∀ (b:Nat) (sp:Nat→Bool) (hd:Bool),DataW.TrodAll enc P W' b sp hd f.resultTypes.toList (v.resultList f.resultTypes.size) (s.fn H (ds++gs)).results [])
  (hargs:∀ sp:Nat→Bool,(∀ p∈before,sp p.block=true)→DataW.TrodAll enc P W' 0 sp true f.params.toList args.toList (s.fn H (ds++gs)).args pa)
  (hvars:∀ sp:Nat→Bool,(∀ p∈before,sp p.block=true)→DataW.TrodVars enc P W' sp s.vars (s.fn H (ds++gs)).vars pv)
  (hps:before=pa++pv) (hb:Below W.heap.size W W')
  (hok:∀ (j:Nat) (t:TypeId) (r:Value),f.resultTypes[j]?=some t→(v.resultList f.resultTypes.size)[j]?=some r→Value.okWide P W' .any 0 t r) :
  s.post enc P f yhw fresh handsOn again W args v W':=by
 have hlt:∀ p∈before,p.block<W.heap.size:=fun p hp=>hW.lt p hp
 have hold:∀ p∈before,(fun b=>decide (b<W.heap.size)) p.block=true:=fun p hp=>by simpa using hlt p hp
 refine ⟨ds,gs,before,[],pa,pv,hW,hres _ _ _,hargs _ hold,hvars _ hold,World.keptBut_mono (fun p hp=>⟨hp,?_⟩) (hb.frame (·∈before)),fun _=>?_⟩
 ·rw [hps,qAz] at hp;exact Or.inr hp
 ·obtain ⟨_,_,_,_,_,hz,hn⟩:=hW;refine ⟨hok,_,_,([]++pa)++pv,⟨[]++pa,pv,trodAll_append (hargs _ (fun _ _=>rfl)) (hres _ _ _),hvars _ (fun _ _=>rfl),rfl,?_,?_⟩,?_⟩
  ·intro b off hp;have hin:MemPlace.cell b off∈before:=by rw [hps];simpa using hp
   rw [hb.frozen (hlt _ hin)];exact hz b off hin
  ·intro ha;have:=hn ha;rw [hps] at this;simpa using this
  ·intro p hp _;rw [hps];simpa using hp
theorem kw (K:Kids P (·<P.types.size)) (hz:∀ t e,t<P.types.size→P.underlying t=some (.slice e)→0<P.cellsOf e) {n:FuncId} {fn:Func} {G:Nat→Option PV} {dss:List DS} {s:ChangeSpec} {bt:TypeId}
  (hty : mF P dss fn.params.toList = true) (hrow : ∀ t ∈ fn.params.toList, t < P.types.size) (hf : P.funcs[n]? = some fn) (hn : (fn.name == "runtime.NumGoroutine") = false) (hb : fn.body.isSome = true)
  (hvars:s.vars=[]) (hfn:∀ ds:List (DataW H),ds.length=fn.params.toList.length→s.fn H (ds++[])={ results:=[.lit (.bool true)],args:=ds })
  (hrt:fn.resultTypes.toList=[bt]) (hbt:P.underlying bt=some .bool) (hsum:∀ as,ypr dss as→qJ P G n as (.bool true)) {yhw fresh handsOn again:Bool}
  {W:World} {base:Nat} {args:Array Value} {ds gs:List (DataW H)} {before:List MemPlace} (hval:∀ (j:Nat) t v,fn.params[j]?=some t→args[j]?=some v→Value.okWide P W .any base t v)
  (hW:DataW.Whole enc P fn.params.toList s.vars yhw W args.toList ds gs before) (J:Nat→Prop) (hJ:∀ b,J b→b<W.heap.size) (hG:NQ G (fun b=>(∃ p∈before,p.block=b)∨J b) W) :
  Calls P n args W fun e W'=>∃ v,e=.returned v∧s.post enc P fn yhw fresh handsOn again W args v W':=by
 have hW':=hW;obtain ⟨p,q,hA,hV,hpq,hfz,hnd⟩:=hW;have hlt:∀ x∈before,x.block<W.heap.size:=fun x hx=>hW'.lt x hx
 rw [hvars] at hV;obtain ⟨hgs,hq⟩:=trodVars_none hV;subst hgs;subst hq;rw [Eh] at hpq;subst hpq;have hlen:ds.length=fn.params.toList.length:=by
  have len:∀ {ts:List TypeId} {vs:List Value} {xs:List (DataW H)} {ps:List MemPlace},DataW.TrodAll enc P W 0 (fun _=>true) true ts vs xs ps→xs.length=ts.length:=by
   intro ts;induction ts with
   | nil=>
    intro vs xs ps h
    cases vs with
    | nil=>cases xs with
     | nil=>rfl
     | cons _ _=>exact h.elim
    | cons _ _=>exact h.elim
   | cons t ts ih=>
    intro vs xs ps h
    cases vs with
    | nil=>exact h.elim
    | cons v vs=>cases xs with
     | nil=>exact h.elim
     | cons x xs =>obtain ⟨_,_,_,h2,_⟩:=h;simp [ih h2]
  exact len hA
 have hc:=ks (I:=fun b=>(∃ x∈before,x.block=b)∨J b) K hty hrow hf hn hb hsum (W:=W) (base:=base) (args:=args) (fun j t v h1 h2=>hval j t v (by simpa using h1) (by simpa using h2)) hA (fun x hx=>.inl ⟨x,hx,rfl⟩)
  (fun b hb=>by
   rcases hb with ⟨x,hx,rfl⟩|hb
   ·exact hlt x hx
   ·exact hJ b hb) hG
 refine hc.mono fun e W' ⟨he,hg⟩=>?_
 subst he;have hrs:fn.resultTypes=#[bt]:=by rw [← rU];exact hrt
 refine ⟨_,rfl,kv (pa:=before) (pv:=[]) hW' ?_ ?_ ?_ (by simp) hg ?_⟩
 ·intro b sp hd;rw [hfn ds hlen,hrs];exact trodAll_mk1 (shut_bool hbt true)
 ·intro sp hs;rw [hfn ds hlen];exact ku K hz hg hrow hA hlt hs
 ·intro sp hs;rw [hfn ds hlen,hvars];rfl
 ·intro j t r h1 h2;rw [hrs] at h1 h2;have hj:j=0:=by
   rcases j with _|j
   ·rfl
   ·simp at h1
  subst hj;simp at h1;subst h1;have:r=.bool true:=by
   have h3:((Value.bool true).resultList (#[bt]:Array TypeId).size)[0]?=some (.bool true):=rfl;rw [h3] at h2;exact (Option.some.inj h2).symm
  subst this;exact okWide_bool_mk hbt true
end
end Go.Pf
namespace Go.Pf
open Go
abbrev kI:Type:=Nat→List PV→Hp→Option (Bool×Bool×(PV×Hp)×(PV×Hp))
def HR:List (Nat×kI)→kI
 | [],_,_,_=>none
 | (k,e)::r,n,xs,H=>bif Nat.beq n k then (match e n xs H with | some x=>some x | none=>HR r n xs H) else HR r n xs H
theorem OJ {P:Program} {E:Env}:∀ {l:List (Nat×kI)},(∀ e∈l,yaT P E (fun n xs H=>vK (e.2 n xs H)))→yaT P E (fun n xs H=>vK (HR l n xs H))
 | [],_=>fun _ _ _ _ _ h=>by cases h
 | (k,e)::r,h=>by
  intro f args H q H' hc;dsimp only [HR] at hc
  cases hb:Nat.beq f k with
  | false =>rw [hb,cond_false] at hc;exact OJ (fun e2 h2=>h e2 (gL _ h2)) f args H q H' hc
  | true=>
   rw [hb,cond_true] at hc
   cases he:e f args H with
   | some x =>rw [he] at hc;refine h (k,e) iP f args H q H' ?_;dsimp only;rw [he];exact hc
   | none =>rw [he] at hc;exact OJ (fun e2 h2=>h e2 (gL _ h2)) f args H q H' hc
def yF (add sub:Nat) (tab:List (Nat×AFn)) (qui:List Nat) (cl:pT) (gl:List (Nat×PV)) (ef:List (Nat×kI)):Env:={ tP add sub tab qui cl gl with eff:=HR ef }
theorem kR {add sub:Nat} {tab:List (Nat×AFn)} {qui:List Nat} {cl:pT} {gl:List (Nat×PV)} {ef:List (Nat×kI)} {n:Nat} (h:KT add sub cl n=false) (xs:List PV):(yF add sub tab qui cl gl ef).sum n xs=none:=kh (tab:=tab) (qui:=qui) (gl:=gl) h xs
theorem ky {P:Program} {add sub:Nat} {tab:List (Nat×AFn)} {qui:List Nat} {cl:pT} {gl:List (Nat×PV)} {ef:List (Nat×kI)} (h:EO P (tP add sub tab qui cl gl))
  (hs:∀ e∈ef,∀ y,yaT P ((tP add sub tab qui cl gl).ats y) (fun n xs H=>vK (e.2 n xs H))):EO P (yF add sub tab qui cl gl ef) where
 sum:=h.sum
 fns:=h.fns
 eff:=EO.eff' (E:=tP add sub tab qui cl gl) (E':=yF add sub tab qui cl gl ef) rfl rfl rfl fun y _=>OJ fun e he=>hs e he y
 dn:=h.dn
 top:=h.top
 yl:=h.yl' (E':=yF add sub tab qui cl gl ef) rfl rfl rfl rfl
end Go.Pf
namespace Go.Pf
abbrev lt {α:Type} (x:α) (f:α→Prop):Prop:=f x
abbrev jn {α:Type} (f:α→Prop) (k:α):Prop:=f k
structure EffG (E:List (Nat×kI)→Env) (nums:List Nat) (e:List (Nat×kI)):Prop where
 ok:OG (E e)
 num:∀ n,memN nums n=false→∀ xs H,(E e).eff n xs H=none
theorem kz {add sub:Nat} {tab:List (Nat×AFn)} {qui:List Nat} {cl:pT} {gl:List (Nat×PV)} {ef:List (Nat×kI)}:∀ as K,yoh as K→∃ r,K r∧qP (yF add sub tab qui cl gl ef) add as r:=by
 intro as K h;unfold yoh OH at h;split at h
 ·rename_i a b c;obtain ⟨h1,h⟩:=bF.1 h;have h1:c.toNat≤1:=by simpa using h1
  refine ⟨_,h,0,fun k e m _ hl _=>?_⟩;have hl:=(tM hl).2.1;have e0:sumC add sub add [.int .u64 a,.int .u64 b,.int .u64 c]=some (.tup [u6 ((a.toNat+b.toNat+c.toNat)%18446744073709551616),u6 ((a.toNat+b.toNat+c.toNat)/18446744073709551616)]):=by
   simp only [sumC,Nat.beq_refl,pM,Ea h1,cond_true]
  simp only [yaO,hl,yF,tP,e0,u6]
 ·exact h.elim
theorem lc {add sub:Nat} (hne:Nat.beq sub add=false) {tab:List (Nat×AFn)} {qui:List Nat} {cl:pT} {gl:List (Nat×PV)} {ef:List (Nat×kI)}:∀ as K,yoj as K→∃ r,K r∧qP (yF add sub tab qui cl gl ef) sub as r:=by
 intro as K h;unfold yoj OI at h;split at h
 ·rename_i a b c;obtain ⟨h1,h⟩:=bF.1 h;have h1:c.toNat≤1:=by simpa using h1
  refine ⟨_,h,0,fun k e m _ hl _=>?_⟩;have hl:=(tM hl).2.1;have e0:sumC add sub sub [.int .u64 a,.int .u64 b,.int .u64 c]=some (.tup [u6 ((a.toNat+18446744073709551616-b.toNat-c.toNat)%18446744073709551616),u6 (bif Nat.ble (b.toNat+c.toNat) a.toNat then 0 else 1)]):=by
   simp only [sumC,hne,Nat.beq_refl,pM,oE,Ea h1,cond_true,cond_false]
  simp only [yaO,hl,yF,tP,e0,u6]
 ·exact h.elim
abbrev Es:Type:=List (Nat×kI)
def KU:Option Bool→Prop | none=>True | some b=>b=true
def HS:Option Bool→Prop→Prop | none,x=>x | some b,x=>asr b x
theorem KV {g:Option Bool} {x:Prop}:HS g x↔KU g∧x:=by cases g<;>simp [HS,KU,bF]
def blen (H:Hp) (id:Nat):Nat:=match H[id]? with | some b=>b.rows.length | none=>0
structure Pat (α:Type) where
 T:Type
 A:Type→Type
 app:{R:Type}→A R→T→R
 of:(Nat→Nat)→T→α
 get:(Nat→Nat)→α→Option Bool→Option (T×Option Bool)
 inv:∀ {H x g t g'},get H x g=some (t,g')→KU g'→KU g∧x=of H t
section
variable {α β:Type}
def HT:Pat α:=⟨α,fun R=>α→R,fun g t=>g t,fun _ t=>t,fun _ x g=>some (x,g),fun h k=>by cases h;exact ⟨k,rfl⟩⟩
def tQ (c:α) (f:α→Bool) (h:∀ x,f x=true→x=c):Pat α:=
 ⟨Unit,fun R=>R,fun g _=>g,fun _ _=>c,fun _ x g=>bif f x then some ((),g) else none,fun {H x g t g'} e k=>by
  cases hf:f x with
  | true=>rw [hf] at e;cases e;exact ⟨k,h _ hf⟩
  | false=>rw [hf] at e;cases e⟩
def iV (m:β→α) (s:α→Option β) (h:∀ x b,s x=some b→x=m b) (p:Pat β):Pat α:=
 ⟨p.T,p.A,p.app,fun H t=>m (p.of H t),fun H x g=>match s x with | none=>none | some b=>p.get H b g,fun {H x g t g'} e k=>by
  cases hs:s x with
  | none=>rw [hs] at e;cases e
  | some b=>
   rw [hs] at e;obtain ⟨h1,h2⟩:=p.inv e k;exact ⟨h1,by rw [h _ _ hs,h2]⟩⟩
def tS (p:Pat α) (q:Pat β):Pat (α×β):=
 ⟨p.T×q.T,fun R=>p.A (q.A R),fun g t=>q.app (p.app g t.1) t.2,fun H t=>(p.of H t.1,q.of H t.2),
  fun H x g=>match p.get H x.1 g with | none=>none | some (a,g1)=>(match q.get H x.2 g1 with | none=>none | some (b,g2)=>some ((a,b),g2)),fun {H x g t g'} e k=>by
   cases h1:p.get H x.1 g with
   | none=>rw [h1] at e;cases e
   | some y=>
    obtain ⟨a,g1⟩:=y;rw [h1] at e;simp only at e
    cases h2:q.get H x.2 g1 with
    | none=>rw [h2] at e;cases e
    | some z=>
     obtain ⟨b,g2⟩:=z;rw [h2] at e
     cases e
     obtain ⟨k2,e2⟩:=q.inv h2 k;obtain ⟨k1,e1⟩:=p.inv h1 k2;exact ⟨k1,Prod.ext e1 e2⟩⟩
end
def nK (n:Nat):Pat Nat:=tQ n (fun x=>Nat.beq x n) fun _ h=>fU h
def nT (id:Nat):Pat Nat:=
 ⟨Unit,fun R=>R,fun g _=>g,fun H _=>H id,fun H x g=>some ((),match g with | none=>some (decide (x=H id)) | some b=>some (b&&decide (x=H id))),fun {H x g t g'} e k=>by
  cases e
  cases g with
  | none=>exact ⟨trivial,of_decide_eq_true k⟩
  | some b=>
   have k:(b&&decide (x=H id))=true:=k;simp only [cA,decide_eq_true_eq] at k;exact ⟨k.1,k.2⟩⟩
abbrev nV:Pat Nat:=HT
abbrev mN:Type 1:=Pat (List PV)
abbrev jY:Type 1:=Pat PV
def vI (k:IntKind):jY:=iV (.int k) (fun x=>match x with | .int q n=>bif decide (q=k) then some n else none | _=>none) (fun x b h=>by
 split at h
 ·rename_i q n
  by_cases e:q=k
  ·subst e;rw [Eo rfl] at h;cases h;rfl
  ·rw [Os e] at h;cases h
 ·cases h) HT
def vB:jY:=iV .bool (fun x=>match x with | .bool b=>some b | _=>none) (fun x b h=>by cases x<;>cases h;rfl) HT
def ld (p:mN):jY:=iV .data (fun x=>match x with | .data b=>some b | _=>none) (fun x b h=>by cases x<;>cases h;rfl) p
def vD:jY:=ld HT
def vA (p:mN):jY:=iV .agg (fun x=>match x with | .agg b=>some b | _=>none) (fun x b h=>by cases x<;>cases h;rfl) p
def Cq:jY:=tQ .nils (fun x=>match x with | .nils=>true | _=>false) fun x h=>by cases x<;>cases h;rfl
def vP (id o:Nat) (e i:Pat Nat):jY:=iV (fun b=>.ptr id b.1 b.2 o) (fun x=>match x with | .ptr a e i f=>bif Nat.beq a id&&Nat.beq f o then some (e,i) else none | _=>none) (fun x b h=>by
 split at h
 ·rename_i a e i f
  cases hc:(Nat.beq a id&&Nat.beq f o) with
  | false=>rw [hc] at h;cases h
  | true=>
   rw [hc] at h;simp only [cA] at hc
   cases h
   rw [fU hc.1,fU hc.2]
 ·cases h) (tS e i)
def vX (o:Nat) (p:jY):jY:=iV (fun b=>.eptr [b] 0 o) (fun x=>match x with | .eptr [y] i f=>bif Nat.beq i 0&&Nat.beq f o then some y else none | _=>none) (fun x b h=>by
 split at h
 ·rename_i y i f
  cases hc:(Nat.beq i 0&&Nat.beq f o) with
  | false=>rw [hc] at h;cases h
  | true=>
   rw [hc] at h;simp only [cA] at hc
   cases h
   rw [fU hc.1,fU hc.2]
 ·cases h) p
def vO (id:Nat) (lo len ext c:Pat Nat):jY:=iV (fun b=>.own id b.1 b.2.1 b.2.2.1 (some b.2.2.2)) (fun x=>match x with | .own a lo len ext (some c)=>bif Nat.beq a id then some (lo,len,ext,c) else none | _=>none) (fun x b h=>by
 split at h
 ·rename_i a lo len ext c
  cases hc:Nat.beq a id with
  | false=>rw [hc] at h;cases h
  | true=>rw [hc] at h;cases h;rw [fU hc]
 ·cases h) (tS lo (tS len (tS ext c)))
def vW (id:Nat) (lo len ext:Pat Nat):jY:=iV (fun b=>.own id b.1 b.2.1 b.2.2 none) (fun x=>match x with | .own a lo len ext none=>bif Nat.beq a id then some (lo,len,ext) else none | _=>none) (fun x b h=>by
 split at h
 ·rename_i a lo len ext
  cases hc:Nat.beq a id with
  | false=>rw [hc] at h;cases h
  | true=>rw [hc] at h;cases h;rw [fU hc]
 ·cases h) (tS lo (tS len ext))
def vF (n:Nat) (p q:mN):jY:=iV (fun b=>.fn (.func n) b.1 b.2) (fun x=>match x with | .fn (.func k) a b=>bif Nat.beq k n then some (a,b) else none | _=>none) (fun x b h=>by
 split at h
 ·rename_i k a b
  cases hc:Nat.beq k n with
  | false=>rw [hc] at h;cases h
  | true=>rw [hc] at h;cases h;rw [fU hc]
 ·cases h) (tS p q)
def lN:mN:=tQ [] (fun x=>match x with | []=>true | _::_=>false) fun x h=>by cases x<;>cases h;rfl
def lC (p:jY) (q:mN):mN:=iV (fun b=>b.1::b.2) (fun x=>match x with | y::r=>some (y,r) | []=>none) (fun x b h=>by cases x<;>cases h;rfl) (tS p q)
def fN:Pat aF:=tQ [] (fun x=>match x with | []=>true | _::_=>false) fun x h=>by cases x<;>cases h;rfl
def fV (s:Nat) (p:jY) (q:Pat aF):Pat aF:=iV (fun b=>(s,.v b.1)::b.2) (fun x=>match x with | (k,.v y)::r=>bif Nat.beq k s then some (y,r) else none | _=>none) (fun x b h=>by
 split at h
 ·rename_i k y r
  cases hc:Nat.beq k s with
  | false=>rw [hc] at h;cases h
  | true=>rw [hc] at h;cases h;rw [fU hc]
 ·cases h) (tS p q)
def fX (s:Nat) (p:jY) (q:Pat aF):Pat aF:=iV (fun b=>(s,.box b.1)::b.2) (fun x=>match x with | (k,.box y)::r=>bif Nat.beq k s then some (y,r) else none | _=>none) (fun x b h=>by
 split at h
 ·rename_i k y r
  cases hc:Nat.beq k s with
  | false=>rw [hc] at h;cases h
  | true=>rw [hc] at h;cases h;rw [fU hc]
 ·cases h) (tS p q)
def lf:Pat Hp:=tQ [] (fun x=>match x with | []=>true | _::_=>false) fun x h=>by cases x<;>cases h;rfl
def lh (fz pu:Bool) (esz:Nat) (p:mN) (q:Pat Hp):Pat Hp:=iV (fun b=>⟨fz,pu,esz,b.1⟩::b.2) (fun x=>match x with | ⟨a,b,c,rows⟩::r=>bif (a==fz)&&((b==pu)&&Nat.beq c esz) then some (rows,r) else none | []=>none) (fun x b h=>by
 split at h
 ·rename_i a b c rows r
  cases hc:((a==fz)&&((b==pu)&&Nat.beq c esz)) with
  | false=>rw [hc] at h;cases h
  | true=>
   rw [hc] at h;simp only [cA,beq_iff_eq] at hc
   cases h
   rw [hc.1,hc.2.1,fU hc.2.2]
 ·cases h) (tS p q)
structure RPt where
 p:mN
 n:∀ r r' t,(p.of r t).length=(p.of r' t).length
structure HPt where
 p:Pat Hp
 n:∀ r r' t id,blen (p.of r t) id=blen (p.of r' t) id
def rA:RPt:=⟨HT,fun _ _ _=>rfl⟩
def rN:RPt:=⟨lN,fun _ _ _=>rfl⟩
def rC (p:jY) (q:RPt):RPt:=⟨lC p q.p,fun r r' t=>Aaa (·+1) (q.n r r' t.2)⟩
def hN:HPt:=⟨lf,fun _ _ _ _=>rfl⟩
def hB (fz pu:Bool) (esz:Nat) (p:RPt) (q:HPt):HPt:=⟨lh fz pu esz p.p q.p,fun r r' t id=>by
 cases id with
 | zero=>exact p.n r r' t.1
 | succ k=>exact q.n r r' t.2 k⟩
abbrev tT:Type:=Hp×aF×aF
abbrev r0:Nat→Nat:=fun _=>0
def pS (h:HPt) (p o:Pat aF):Pat tT:=
 ⟨h.p.T×p.T×o.T,fun R=>h.p.A (p.A (o.A R)),fun g t=>o.app (p.app (h.p.app g t.1) t.2.1) t.2.2,fun _ t=>(h.p.of (blen (h.p.of r0 t.1)) t.1,p.of (blen (h.p.of r0 t.1)) t.2.1,o.of (blen (h.p.of r0 t.1)) t.2.2),
  fun _ x g=>match h.p.get (blen x.1) x.1 g with | none=>none | some (a,g1)=>(match p.get (blen x.1) x.2.1 g1 with | none=>none | some (b,g2)=>(match o.get (blen x.1) x.2.2 g2 with | none=>none | some (c,g3)=>some ((a,b,c),g3))),fun {H x g t g'} e k=>by
   obtain ⟨X,Y,Z⟩:=x
   cases h1:h.p.get (blen X) X g with
   | none=>simp only [h1] at e;cases e
   | some y=>
    obtain ⟨a,g1⟩:=y;simp only [h1] at e
    cases h2:p.get (blen X) Y g1 with
    | none=>rw [h2] at e;cases e
    | some z=>
     obtain ⟨b,g2⟩:=z;rw [h2] at e;simp only at e
     cases h3:o.get (blen X) Z g2 with
     | none=>rw [h3] at e;cases e
     | some w=>
      obtain ⟨c,g3⟩:=w;rw [h3] at e
      cases e
      obtain ⟨k3,e3⟩:=o.inv h3 k;obtain ⟨k2,e2⟩:=p.inv h2 k3;obtain ⟨k1,e1⟩:=h.p.inv h1 k2;refine ⟨k1,?_⟩;show (X,Y,Z)=(h.p.of (blen (h.p.of r0 a)) a,p.of (blen (h.p.of r0 a)) b,o.of (blen (h.p.of r0 a)) c);have e4:blen (h.p.of r0 a)=blen X:=funext fun id=>by
       rw [h.n r0 (blen X) a id,← e1]
      rw [e4,← e1,← e2,← e3]⟩
structure St where
 p:Pat tT
 g:Nat→p.A Prop
def runS:List St→Nat→tT→Prop
 | [],_,_=>False
 | s::r,n,x=>match s.p.get r0 x none with | some (t,b)=>HS b (s.p.app (s.g n) t) | none=>runS r n x
def tU:List St→tT→Prop
 | [],_=>False
 | s::r,x=>match s.p.get r0 x none with | some (t,b)=>HS b (∃ n,s.p.app (s.g n) t) | none=>tU r x
theorem YO {x:tT}:∀ {L:List St},tU L x→∃ n,runS L n x
 | [],h=>h.elim
 | s::r,h=>by
  unfold tU at h;unfold runS;split at h
  ·rename_i t b e;obtain ⟨hb,n,h⟩:=KV.1 h;exact ⟨n,KV.2 ⟨hb,h⟩⟩
  ·obtain ⟨n,h⟩:=YO h;exact ⟨n,h⟩
theorem OL {x:tT} {n:Nat}:∀ {L:List St},runS L n x→∃ s,s∈L∧∃ t,x=s.p.of r0 t∧s.p.app (s.g n) t
 | [],h=>h.elim
 | s::r,h=>by
  unfold runS at h;split at h
  ·rename_i t b e;obtain ⟨hb,h⟩:=KV.1 h;exact ⟨s,iP,t,(s.p.inv e hb).2,h⟩
  ·obtain ⟨s',h1,h2⟩:=OL h;exact ⟨s',gL _ h1,h2⟩
def HU (gc:Bool) (D:List Nat) (L:List St) (n:Nat) (G:aF) (k:Nat) (F':aF) (H':Hp):Prop:=runS L n (bif gc then tH (fdels F' D) k H' else H',bif gc then fdels F' D else F',G)
def AllB (E:Env) (callK:CK) (lp:LP) (yk:aF→YK) (b:TC) (gc:Bool) (Q:Qx) (L:List St):List St→Prop
 | []=>True
 | s::r=>(∀ t,s.p.app (s.g 0) t=False)∧(∀ n t,WC E callK lp (s.p.of r0 t).2.2 (yk (s.p.of r0 t).2.2) b (s.p.of r0 t).2.1 (s.p.of r0 t).1 (Ym (HU gc (fP (erase b)) L n (s.p.of r0 t).2.2 (s.p.of r0 t).1.length) Q)=s.p.app (s.g (n+1)) t)∧AllB E callK lp yk b gc Q L r
theorem AllB.mem {E:Env} {callK:CK} {lp:LP} {yk:aF→YK} {b:TC} {gc:Bool} {Q:Qx} {L:List St}:∀ {l:List St},AllB E callK lp yk b gc Q L l→∀ s∈l,(∀ t,s.p.app (s.g 0) t=False)∧(∀ n t,WC E callK lp (s.p.of r0 t).2.2 (yk (s.p.of r0 t).2.2) b (s.p.of r0 t).2.1 (s.p.of r0 t).1 (Ym (HU gc (fP (erase b)) L n (s.p.of r0 t).2.2 (s.p.of r0 t).1.length) Q)=s.p.app (s.g (n+1)) t)
 | [],_,s,h=>by cases h
 | x::r,h,s,hs=>by
  rcases qAp.1 hs with rfl|hs
  ·exact ⟨h.1,h.2.1⟩
  ·exact AllB.mem h.2.2 s hs
section
variable {E:Env} {callK:CK} {P:EP} {lp:LP} {yk:aF→YK} {b:TC} {Q:Qx} {L:List St} {id:Nat} {F G:aF} {H:Hp}
theorem cJ.st (hP:aM P E) (hG:Good P callK) (hY:cS P E (yk G)) (hl:LpOk P E lp G b) (hb:AllB E callK lp yk b false Q L L) (h:tU L (H,F,G)) (hf:ybs b=true:=by kernel_rfl):cJ P (.loop id b) F H Q:=by
 obtain ⟨n,h⟩:=YO h;refine cJ.intro (id:=id) hP hG hf hY hl (fun n F H=>runS L n (H,F,G)) (fun F H h=>?_) (fun n F H h=>?_) n F H h
 ·obtain ⟨s,hs,t,_,h⟩:=OL h;rw [(hb.mem s hs).1 t] at h;exact h
 ·obtain ⟨s,hs,t,e,h⟩:=OL h;rw [← (hb.mem s hs).2 n t,← e] at h;exact h
end
abbrev hO (S:SE) (d:Nat) (yk:aF→YK) (b:TC) (gc:Bool) (L:Qx→List St):Prop:=∀ Q,AllB S.E (jO S d) S.lp yk b gc Q (L Q) (L Q)
abbrev a:aF→YK:=fun _=>cC
abbrev hZ (P:EP) (lp:LP) (G:aF) (id:Nat) (c:TC):Prop:=∀ F H Q,lp id G F H Q→cJ P c F H Q
def jF:List (Nat×(Qx→List St))→LP
 | [],_,_,_,_,_=>False
 | p::r,id,G,F,H,Q=>bif Nat.beq id p.1 then tU (p.2 Q) (H,F,G) else jF r id G F H Q
structure Sg where
 p:mN
 R:Type
 k:(PV→Prop)→R
abbrev Sg.W (s:Sg):Type:=s.p.A (s.R→Prop)
def Sg.pw (s:Sg) (w:s.W) (as:List PV) (K:PV→Prop):Prop:=match s.p.get r0 as none with | some (t,b)=>HS b (s.p.app w t (s.k K)) | none=>False
def sE (E:Env) (l:List (Nat×(List PV→(PV→Prop)→Prop))) (lp:LP):SE:=⟨E,yiW l,yfD [],lp,fun _=>none⟩
def eC:LP:=fun _ _ _ _ _=>False
def cE (S:SE) (d:Nat) (t:TFn) (s:Sg) (w:s.W):Prop:=∀ a K,WP S d t (s.p.of r0 a) K=s.p.app w a (s.k K)
theorem Sg.inv {s:Sg} {w:s.W} {as:List PV} {K:PV→Prop} (h:s.pw w as K):∃ a,as=s.p.of r0 a∧s.p.app w a (s.k K):=by
 unfold Sg.pw at h;split at h
 ·rename_i t b e;obtain ⟨hb,h⟩:=KV.1 h;exact ⟨t,(s.p.inv e hb).2,h⟩
 ·exact h.elim
theorem lj {P:EP} {S:SE} {d n:Nat} {t:TFn} {s:Sg} {w:s.W} (hq:cE S d t s w) (hS:SEOk P S) (hR:bN P S.E (jO S d) t.body) (hl:LpOk P S.E S.lp [] t.body) (hs:∀ as,S.E.sum n as=none) (he:∀ as H,S.E.eff n as H=none) (hf:S.E.fns n=some t.fn) (hu:S.E.qui n=true) (hn:S.E.nl n=false):∀ as K,s.pw w as K→∃ r,K r∧iS P n as r:=fun as K h=>by obtain ⟨a,e,k⟩:=Sg.inv h;subst e;rw [← hq a K] at k;exact YD hS hR hl hf hu hs he k hn
end Go.Pf
namespace Go.Pf
open Go
def KW (c1 c2:Nat→List PV→Hp→Option (PV×Hp)):Prop:=∀ f as H r,c1 f as H=some r→c2 f as H=some r
abbrev EW:Type:=Nat→Nat→List PV→Hp→Option (Option Nat×Hp)
def Env.sm (E:Env) (s0:Nat→List PV→Option PV) (f0:Nat→Option AFn) (n:Nat) (c:Nat→Option LCtx) (y:EW):Env:={ E with eff:=fun _ _ _=>none,fns:=f0,sum:=s0,yn:=n,ctx:=c,yl:=y }
def Env.up (E:Env) (n:Nat) (c:Nat→Option LCtx) (y:EW):Env:={ E with yn:=n,ctx:=c,yl:=y }
def YP (y1 y2:EW):Prop:=∀ a b vs H r,y1 a b vs H=some r→y2 a b vs H=some r
section
variable {E:Env} {s0:Nat→List PV→Option PV} {f0:Nat→Option AFn} {c1 c2:Nat→List PV→Hp→Option (PV×Hp)} {F:aF} {H:Hp} {k:Nat} {x1 x2:Nat→Option LCtx} {y1 y2:EW}
structure LeS (E:Env) (s0:Nat→List PV→Option PV) (y1 y2:EW) (c1 c2:Nat→List PV→Hp→Option (PV×Hp)):Prop where
 c:KW c1 c2
 s:∀ n ps r,s0 n ps=some r→yaO E c2 n ps=some r
 n:∀ n ps,s0 n ps=none→E.sum n ps=none
 q:∀ n ps,E.qui n=false→s0 n ps=E.sum n ps
 y:YP y1 y2
theorem OM (h:LeS E s0 y1 y2 c1 c2) {n:Nat} {ps:List PV} {r:PV} (e:yaO (E.sm s0 f0 k x1 y1) c1 n ps=some r):yaO (E.up k x2 y2) c2 n ps=some r:=by
 have e:(match s0 n ps with
  | some r=>some r
  | none=>if E.qui n then (match c1 n ps [] with | some (r,H)=>kC (E.nl n) H r | none=>none) else none)=some r:=e
 show yaO E c2 n ps=some r
 cases hs:s0 n ps with
 | some x=>rw [hs] at e;cases e;exact h.s _ _ _ hs
 | none=>
  rw [hs] at e;dsimp only at e;unfold yaO;rw [h.n _ _ hs];dsimp only
  cases hq:E.qui n with
  | false=>rw [hq] at e;cases e
  | true=>
   rw [hq] at e
   cases hc:c1 n ps [] with
   | none=>simp [hc] at e
   | some x =>rw [hc] at e;rw [h.c _ _ _ _ hc];exact e
def ON (rb qui frz:Bool) (pr:List PV→Option PV) (c:List PV→Hp→Option (PV×Hp)) (as:List PV) (H:Hp):Option (PV×Hp):=
 if rb then (match yo3 (iQ H) as with
  | some as=>(match pr as with
   | some r=>if r.scalar then some (r,H) else none
   | none=>none)
  | none=>none)
 else match (match yaw H as with
  | some (as,H')=>(match pr as with
   | some r=>if r.scalar then some (r,H) else some (r,H')
   | none=>none)
  | none=>none) with
 | some r=>some r
 | none=>if qui then none else if frz then (match yaw H as with
   | some (as,H')=>c as H'
   | none=>none) else c as H
theorem lk (h:LeS E s0 y1 y2 c1 c2) {n:Nat} {as:List PV} {r:PV×Hp} (e:ON (E.rb n) (E.qui n) (E.frz n) (yaO (E.sm s0 f0 k x1 y1) c1 n) (c1 n) as H=some r):ON (E.rb n) (E.qui n) (E.frz n) (yaO (E.up k x2 y2) c2 n) (c2 n) as H=some r:=by
 unfold ON at e ⊢
 cases hb:E.rb n with
 | true=>
  rw [hb] at e;simp only [if_true] at e ⊢
  cases hp:yo3 (iQ H) as with
  | none=>rw [hp] at e;cases e
  | some ys=>
   rw [hp] at e;dsimp only at e ⊢
   cases hc:yaO (E.sm s0 f0 k x1 y1) c1 n ys with
   | none=>rw [hc] at e;cases e
   | some x=>rw [hc] at e;rw [OM (x2:=x2) h hc];exact e
 | false=>
  rw [hb] at e;simp only [fK,if_false] at e ⊢
  cases hp:yaw H as with
  | none=>
   rw [hp] at e;dsimp only at e ⊢
   cases hq:E.qui n with
   | true=>rw [hq] at e;simp at e
   | false=>
    rw [hq] at e;simp only [fK,if_false] at e ⊢
    cases hf:E.frz n with
    | true=>rw [hf] at e;simp at e
    | false=>rw [hf] at e;simp only [fK,if_false] at e ⊢;exact h.c _ _ _ _ e
  | some y=>
   obtain ⟨ys,H'⟩:=y;rw [hp] at e;dsimp only at e ⊢
   cases hc:yaO (E.sm s0 f0 k x1 y1) c1 n ys with
   | some x=>
    rw [hc] at e;rw [OM (x2:=x2) h hc];dsimp only at e ⊢
    cases hs:x.scalar with
    | true=>rw [hs] at e;simpa using e
    | false=>rw [hs] at e;simpa using e
   | none=>
    rw [hc] at e;dsimp only at e
    cases hq:E.qui n with
    | true=>rw [hq] at e;simp at e
    | false=>
     rw [hq] at e;simp only [fK,if_false] at e ⊢;have h2:yaO (E.up k x2 y2) c2 n ys=none:=by
      have hc:(match s0 n ys with
       | some r=>some r
       | none=>if E.qui n then (match c1 n ys [] with | some (r,H)=>kC (E.nl n) H r | none=>none) else none)=none:=hc
      show yaO E c2 n ys=none;unfold yaO
      cases hs:s0 n ys with
      | some x=>rw [hs] at hc;cases hc
      | none=>rw [h.n _ _ hs,hq];rfl
     rw [h2];dsimp only
     cases hf:E.frz n with
     | true=>rw [hf] at e;simp only [if_true] at e ⊢;exact h.c _ _ _ _ e
     | false=>rw [hf] at e;simp only [fK,if_false] at e ⊢;exact h.c _ _ _ _ e
theorem lm (h:KW c1 c2) {n:Nat} {as:List PV} {b:HB} {r:PV×List PV} (e:yn4 c1 n as b=some r):yn4 c2 n as b=some r:=by
 unfold yn4 at e ⊢
 cases hc:c1 n as [b] with
 | none=>rw [hc] at e;cases e
 | some x=>rw [hc] at e;rw [h _ _ _ _ hc];exact e
theorem ln (h:KW c1 c2) {x:LocC} {r:PV×Hp} (e:tA c1 x H=some r):tA c2 x H=some r:=by
 unfold tA at e ⊢;split at e
 ·rename_i as H' hp;split at e
  ·rename_i b hb;split at e
   ·rename_i hc
    cases hr:yn4 c1 x.n (as.set x.j x.y) b with
    | none=>rw [hr] at e;cases e
    | some q =>rw [hr] at e;rw [VX hc,lm h hr];exact e
   ·cases e
  ·cases e
 ·cases e
theorem lq (h:LeS E s0 y1 y2 c1 c2) {f:PV} {as:List PV} {r:PV×Hp} (e:ygK (E.sm s0 f0 k x1 y1) c1 f as H=some r):ygK (E.up k x2 y2) c2 f as H=some r:=by
 have e:(match ygJ E f as with | some x=>tA c1 x H | none=>mU (E.sm s0 f0 k x1 y1) c1 f as H)=some r:=e;show (match ygJ E f as with | some x=>tA c2 x H | none=>mU (E.up k x2 y2) c2 f as H)=some r
 cases hl:ygJ E f as with
 | some x=>rw [hl] at e;exact ln h.c e
 | none=>
  rw [hl] at e;dsimp only at e ⊢
  cases f with
  | fn f first captured=>
   cases f with
   | func n=>exact lk h e
   | yield j=>
    cases first with
    | cons _ _=>cases e
    | nil=>
     cases captured with
     | cons _ _=>cases e
     | nil=>
      have e:(match y1 k j as H with | some (none,H')=>some (PV.bool true,H') | _=>none)=some r:=e;show (match y2 k j as H with | some (none,H')=>some (PV.bool true,H') | _=>none)=some r
      cases hy:y1 k j as H with
      | none=>rw [hy] at e;cases e
      | some z=>rw [hy] at e;rw [h.y _ _ _ _ _ hy];exact e
   | _=>cases e
  | _=>cases e
theorem lr (x:Opd):ev (E.sm s0 f0 k x1 y1) F x=ev E F x:=by cases x<;>rfl
theorem lu (x:Opd):ev (E.up k x2 y2) F x=ev E F x:=by cases x<;>rfl
theorem EX (x:Opd):evV (E.sm s0 f0 k x1 y1) F x=evV E F x:=by unfold evV;rw [lr]
theorem EY (x:Opd):evV (E.up k x2 y2) F x=evV E F x:=by unfold evV;rw [lu]
theorem KX:∀ (l:List Opd),evs (E.sm s0 f0 k x1 y1) F l=evs E F l
 | []=>rfl
 | x::r=>by simp only [evs,EX,KX r]
theorem KY:∀ (l:List Opd),evs (E.up k x2 y2) F l=evs E F l
 | []=>rfl
 | x::r=>by simp only [evs,EY,KY r]
theorem lv {o:AOp} (h:oK o=false) {c:Nat→List PV→Hp→Option (PV×Hp)}:yad (E.sm s0 f0 k x1 y1) c F H o=yad (E.up k x2 y2) c F H o:=by
 cases o<;>first | (cases h;done) | kernel_rfl
theorem YQ (h:LeS E s0 y1 y2 c1 c2) {o:AOp} {x:Out} (e:yad (E.sm s0 f0 k x1 y1) c1 F H o=some x):yad (E.up k x2 y2) c2 F H o=some x:=by
 by_cases hc:oK o=true
 ·cases o with
  | call f as=>
   simp only [yad,EX,KX] at e;simp only [yad,EY,KY]
   cases hf:evV E F f with
   | none=>rw [hf] at e;cases e
   | some fv=>
    cases ha:evs E F as with
    | none=>rw [hf,ha] at e;cases e
    | some av=>
     rw [hf,ha] at e;dsimp only at e ⊢
     cases hr:ygK (E.sm s0 f0 k x1 y1) c1 fv av H with
     | none=>rw [hr] at e;cases e
     | some y=>rw [hr] at e;rw [lq (x2:=x2) h hr];exact e
  | _=>cases hc
 ·rw [Yt (by simpa using hc) c2 c1,← lv (s0:=s0) (f0:=f0) (x1:=x1) (y1:=y1) (by simpa using hc)];exact e
theorem lw (h:LeS E s0 y1 y2 c1 c2) {o:AO} {x:aF×Hp} (e:yeX (E.sm s0 f0 k x1 y1) c1 F H o=some x):yeX (E.up k x2 y2) c2 F H o=some x:=by
 unfold yeX at e ⊢
 cases hg:ycN F o.guard with
 | none=>rw [hg] at e;cases e
 | some b=>
  rw [hg] at e
  cases b with
  | false=>exact e
  | true=>
   dsimp only at e ⊢
   cases ho:yad (E.sm s0 f0 k x1 y1) c1 F H o.op with
   | none=>rw [ho] at e;cases e
   | some y=>rw [ho] at e;rw [YQ (x2:=x2) h ho];exact e
theorem lz (h:LeS E s0 y1 y2 c1 c2) {o:AO} {S x:aF×Hp} (e:yfc (E.sm s0 f0 k x1 y1) c1 o S=some x):yfc (E.up k x2 y2) c2 o S=some x:=by
 unfold yfc at e ⊢
 cases hg:ycN S.1 o.guard with
 | none=>rw [hg] at e;cases e
 | some b=>
  rw [hg] at e
  cases b with
  | false=>exact e
  | true=>
   dsimp only at e ⊢
   cases ho:yad (E.sm s0 f0 k x1 y1) c1 S.1 S.2 o.op with
   | none=>rw [ho] at e;cases e
   | some y=>rw [ho] at e;rw [YQ (x2:=x2) h ho];exact e
theorem YR (h:LeS E s0 y1 y2 c1 c2):∀ (l:List AO) {F:aF} {H:Hp} {x:aF×Hp},mC (E.sm s0 f0 k x1 y1) c1 l F H=some x→mC (E.up k x2 y2) c2 l F H=some x
 | [],F,H,x,e=>e
 | o::r,F,H,x,e=>by
  simp only [mC] at e ⊢
  cases hs:yeX (E.sm s0 f0 k x1 y1) c1 F H o with
  | none=>rw [hs] at e;cases e
  | some y=>rw [hs] at e;rw [lw (x2:=x2) h hs];exact YR h r e
theorem ma (hq:∀ n ps,E.qui n=false→s0 n ps=E.sum n ps) (f:Opd) (as:List Opd):qF (E.sm s0 f0 k x1 y1) F f as=qF (E.up k x2 y2) F f as:=by
 unfold qF;rw [EX,KX,EY,KY];split
 ·rename_i n first captured vs _ _;show (!E.rb n&&((eI (first++vs++captured)).isEmpty&&(E.qui n||(match yaw [] (first++vs++captured) with | some (ps,_)=>(s0 n ps).isSome | none=>false))))=(!E.rb n&&((eI (first++vs++captured)).isEmpty&&(E.qui n||(match yaw [] (first++vs++captured) with | some (ps,_)=>(E.sum n ps).isSome | none=>false))))
  cases hn:E.qui n with
  | true=>rfl
  | false=>
   cases yaw [] (first++vs++captured) with
   | none=>rfl
   | some x=>dsimp only;rw [hq n x.1 hn]
 ·rfl
theorem mb (hq:∀ n ps,E.qui n=false→s0 n ps=E.sum n ps) (o:AO):ydd (E.sm s0 f0 k x1 y1) F H o=ydd (E.up k x2 y2) F H o:=by
 unfold ydd;have:aO (E.sm s0 f0 k x1 y1) F H o.op=aO (E.up k x2 y2) F H o.op:=by
  cases o.op with
  | call f as=>simp only [aO,ma (x2:=x2) (y2:=y2) hq]
  | _=>kernel_rfl
 rw [this]
theorem YS (h:LeS E s0 y1 y2 c1 c2):∀ (l:List AO) {F:aF} {H:Hp} {x:aF×Hp×List FP},yf9 (E.sm s0 f0 k x1 y1) c1 l F H=some x→yf9 (E.up k x2 y2) c2 l F H=some x
 | [],F,H,x,e=>e
 | o::r,F,H,x,e=>by
  simp only [yf9] at e ⊢
  cases hs:yfc (E.sm s0 f0 k x1 y1) c1 o (F,H) with
  | none=>rw [hs] at e;cases e
  | some y=>
   rw [hs] at e;rw [lz (x2:=x2) h hs];dsimp only at e ⊢
   cases hr:yf9 (E.sm s0 f0 k x1 y1) c1 r y.1 y.2 with
   | none=>rw [hr] at e;cases e
   | some z=>rw [hr,mb (x2:=x2) (y2:=y2) h.q] at e;rw [YS h r hr];exact e
theorem YT (h:LeS E s0 y1 y2 c1 c2) {l:List AO} {pairs:List (Nat×Nat)} {x:aF×Hp} (e:yeG (E.sm s0 f0 k x1 y1) c1 l pairs F H=some x):yeG (E.up k x2 y2) c2 l pairs F H=some x:=by
 unfold yeG at e ⊢
 cases pairs with
 | nil=>exact YR h l e
 | cons p q=>
  dsimp only at e ⊢
  cases hr:yf9 (E.sm s0 f0 k x1 y1) c1 l (vN F l) H with
  | none=>rw [hr] at e;cases e
  | some z=>rw [hr] at e;rw [YS h l hr];exact e
structure SmOk (E:Env) (s0:Nat→List PV→Option PV) (f0:Nat→Option AFn) (M:Nat):Prop where
 fn:∀ n fn,f0 n=some fn→E.fns n=some fn∧∀ as H,E.effx n as H=none
 ans:∀ n ps r,s0 n ps=some r→∀ j e,M≤j→fF E e→yaO e (yak e j) n ps=some r
 non:∀ n ps,s0 n ps=none→E.sum n ps=none
 no:∀ n ps,E.qui n=false→s0 n ps=E.sum n ps
theorem YU {M:Nat} (hs:SmOk E s0 f0 M):∀ (m j:Nat),M≤j→∀ (k:Nat) (x1 x2:Nat→Option LCtx) (y1 y2:EW),YP y1 y2 →
  (∀ (c:AC) (F:aF) (H:Hp) (x:Ex×aF×Hp),exec (E.sm s0 f0 k x1 y1) m c F H=some x→exec (E.up k x2 y2) (m+j) c F H=some x)∧KW (yak (E.sm s0 f0 k x1 y1) m) (yak (E.up k x2 y2) (m+j)):=by
 intro m;induction m with
 | zero=>exact fun j _ k x1 x2 y1 y2 _=>⟨fun c F H x e=>by simp [exec] at e,fun f as H r e=>by simp [yak] at e⟩
 | succ m ih=>
  intro j hj k x1 x2 y1 y2 hy;obtain ⟨ihx,ihc⟩:=ih j hj k x1 x2 y1 y2 hy;have ihi:LeS E s0 y1 y2 (yak (E.sm s0 f0 k x1 y1) m) (yak (E.up k x2 y2) (m+j)):=⟨ihc,fun n ps r e=>hs.ans n ps r e _ (E.up k x2 y2) (by omega) rfl,hs.non,hs.no,hy⟩;rw [show m+1+j=(m+j)+1 by omega];constructor
  ·intro c F H x e
   cases c with
   | skip=>simpa [exec] using e
   | exit id=>simpa [exec] using e
   | ret=>simpa [exec] using e
   | bad=>simp [exec] at e
   | ops l pairs forget=>
    simp only [exec] at e ⊢
    cases hr:yeG (E.sm s0 f0 k x1 y1) (yak (E.sm s0 f0 k x1 y1) m) l pairs F H with
    | none=>rw [hr] at e;cases e
    | some y=>rw [hr] at e;rw [YT (x2:=x2) ihi hr];exact e
   | seq a b=>
    simp only [exec] at e ⊢
    cases ha:exec (E.sm s0 f0 k x1 y1) m a F H with
    | none=>rw [ha] at e;cases e
    | some y=>
     rw [ha] at e;rw [ihx _ _ _ _ ha];obtain ⟨ex,F',H'⟩:=y
     cases ex with
     | norm=>exact ihx _ _ _ _ e
     | _=>exact e
   | cond v a b=>
    simp only [exec] at e ⊢;rw [EX] at e;rw [EY];split at e
    ·exact ihx _ _ _ _ e
    ·exact ihx _ _ _ _ e
    ·cases e
   | block id b=>
    simp only [exec] at e ⊢
    cases hb:exec (E.sm s0 f0 k x1 y1) m b F H with
    | none=>rw [hb] at e;cases e
    | some y=>rw [hb] at e;rw [ihx _ _ _ _ hb];exact e
   | loop b=>
    simp only [exec] at e ⊢
    cases hb:exec (E.sm s0 f0 k x1 y1) m b F H with
    | none=>rw [hb] at e;cases e
    | some y=>
     rw [hb] at e;rw [ihx _ _ _ _ hb];obtain ⟨ex,F',H'⟩:=y
     cases ex with
     | norm=>exact ihx _ _ _ _ e
     | _=>exact e
   | lG b=>
    simp only [exec] at e ⊢
    cases hb:exec (E.sm s0 f0 k x1 y1) m b F H with
    | none=>rw [hb] at e;cases e
    | some y=>
     rw [hb] at e;rw [ihx _ _ _ _ hb];obtain ⟨ex,F',H'⟩:=y
     cases ex with
     | norm=>exact ihx _ _ _ _ e
     | _=>exact e
   | rangeF g ps as bd=>
    simp only [exec] at e ⊢;rw [EX] at e;rw [EY];split at e
    ·rename_i f first cap hv;have e:(match f0 f with
       | some fn=>_
       | none=>none)=some x:=e
     cases hf:f0 f with
     | none=>rw [hf] at e;cases e
     | some fn=>
       rw [hf] at e;obtain ⟨hf2,_⟩:=hs.fn f fn hf;have hf3:(E.up k x2 y2).fns f=some fn:=hf2;rw [hf3];dsimp only at e ⊢;split at e
       · rename_i hc;rw [VX (show (first++[PV.fn (.yield (E.up k x2 y2).yn) [] []]++cap).length=fn.nparams∧fn.results.length=0 from hc)];obtain ⟨px,_⟩:=ih j hj (k+1) (fun i=>if i=k then some ⟨eJ F,ps,as,bd⟩ else x1 i) (fun i=>if i=k then some ⟨eJ F,ps,as,bd⟩ else x2 i)
          (fun y i vs H=>if i=k then hnd (E.sm s0 f0 k x1 y1) (eJ F) ps as bd m y vs H else y1 y i vs H) (fun y i vs H=>if i=k then hnd (E.up k x2 y2) (eJ F) ps as bd (m+j) y vs H else y2 y i vs H) (by
           intro a b vs H r hr;dsimp only at hr ⊢
           by_cases hb:b=k
           ·rw [VX hb] at hr ⊢;unfold hnd at hr ⊢;obtain ⟨ax,_⟩:=ih j hj a x1 x2 y1 y2 hy;split at hr
            ·rename_i F1 hp
             cases h1:exec ((E.sm s0 f0 k x1 y1).ats a) m as F1 H with
             | none=>rw [h1] at hr;cases hr
             | some z=>
              rw [h1] at hr;rw [show exec ((E.up k x2 y2).ats a) (m+j) as F1 H=some z from ax _ _ _ _ h1];obtain ⟨ex,F2,H2⟩:=z
              cases ex with
              | norm=>
               dsimp only at hr ⊢
               cases h2:exec ((E.sm s0 f0 k x1 y1).ats a) m bd F2 H2 with
               | none=>rw [h2] at hr;cases hr
               | some z2 =>rw [h2] at hr;rw [show exec ((E.up k x2 y2).ats a) (m+j) bd F2 H2=some z2 from ax _ _ _ _ h2];exact hr
              | _=>cases hr
            ·cases hr
           ·rw [VY hb] at hr ⊢;exact hy _ _ _ _ _ hr)
         have px:=px fn.body (gT 0 (first++[PV.fn (.yield k) [] []]++cap)) H;have e:AX (E.sm s0 f0 k x1 y1) F H (exec (E.sm s0 f0 (k+1) (fun i=>if i=k then some ⟨eJ F,ps,as,bd⟩ else x1 i) (fun y i vs H=>if i=k then hnd (E.sm s0 f0 k x1 y1) (eJ F) ps as bd m y vs H else y1 y i vs H)) m fn.body (gT 0 (first++[PV.fn (.yield k) [] []]++cap)) H)=some x:=e;show AX (E.up k x2 y2) F H (exec (E.up (k+1) (fun i=>if i=k then some ⟨eJ F,ps,as,bd⟩ else x2 i) (fun y i vs H=>if i=k then hnd (E.up k x2 y2) (eJ F) ps as bd (m+j) y vs H else y2 y i vs H)) (m+j) fn.body (gT 0 (first++[PV.fn (.yield k) [] []]++cap)) H)=some x
         cases hx:exec (E.sm s0 f0 (k+1) (fun i=>if i=k then some ⟨eJ F,ps,as,bd⟩ else x1 i) (fun y i vs H=>if i=k then hnd (E.sm s0 f0 k x1 y1) (eJ F) ps as bd m y vs H else y1 y i vs H)) m fn.body (gT 0 (first++[PV.fn (.yield k) [] []]++cap)) H with
         | none=>rw [hx] at e;cases e
         | some z=>rw [hx] at e;rw [px _ hx];exact e
       · cases e
    ·cases e
   | yret c pre d y args ee fgt=>
    simp only [exec] at e ⊢
    cases hr:yeG (E.sm s0 f0 k x1 y1) (yak (E.sm s0 f0 k x1 y1) m) pre [] F H with
    | none=>rw [hr] at e;cases e
    | some z=>
     rw [hr] at e;rw [YT (x2:=x2) ihi hr];obtain ⟨F1,H1⟩:=z;dsimp only at e ⊢;rw [EX,KX] at e;rw [EY,KY];split at e
     · rename_i i vs hv ha
       cases hy1:y1 k i vs H1 with
       | none =>have e:(match y1 k i vs H1 with | some (none,H2)=>_ | some (some i,H2)=>_ | none=>none)=some x:=e;rw [hy1] at e;cases e
       | some w=>
         have e:(match y1 k i vs H1 with
          | some (none,H2)=>some (Ex.norm,fdels (bB (bB F1 d (.v (.bool true))) ee (.v (.bool false))) fgt,H2)
          | some (some i',H2)=>some (Ex.brk i i',bB (bB F1 d (.v (.bool false))) ee (.v (.bool true)),H2)
          | none=>none)=some x:=e
         show (match y2 k i vs H1 with
          | some (none,H2)=>some (Ex.norm,fdels (bB (bB F1 d (.v (.bool true))) ee (.v (.bool false))) fgt,H2)
          | some (some i',H2)=>some (Ex.brk i i',bB (bB F1 d (.v (.bool false))) ee (.v (.bool true)),H2)
          | none=>none)=some x
         rw [hy1] at e;rw [hy _ _ _ _ _ hy1];exact e
     · rename_i hno;exact ihx _ _ _ _ e
  ·intro f as H r e;have e:(match f0 f with
    | some fn=>if as.length=fn.nparams then
     (match exec (E.sm s0 f0 k x1 y1) m fn.body (gT 0 as) H with
      | some (.norm,F',H') | some (.ret,F',H')=>(match ydz F' H' fn.results with
        | some ps=>some (mE ps,H')
        | none=>none)
      | _=>none) else none
    | none=>none)=some r:=e
   cases hf:f0 f with
   | none=>rw [hf] at e;cases e
   | some fn=>
    rw [hf] at e;obtain ⟨hf2,hx⟩:=hs.fn f fn hf;have hx2:(E.up k x2 y2).effx f as H=none:=hx as H;have hf3:(E.up k x2 y2).fns f=some fn:=hf2;simp only [yak,hx2,hf3];dsimp only at e ⊢;split at e
    ·rename_i hl;rw [VX hl]
     cases hx:exec (E.sm s0 f0 k x1 y1) m fn.body (gT 0 as) H with
     | none=>rw [hx] at e;cases e
     | some y=>rw [hx] at e;rw [ihx _ _ _ _ hx];exact e
    ·cases e
end
def Cr (E:Env) (nums:List Nat) (t:vT):Env:={ E with eff:=fun _ _ _=>none,fns:=fun n=>bif memN nums n then none else E.fns n,sum:=fun n ps=>match ylz t n ps with | some r=>some r | none=>E.sum n ps }
section
variable {E:Env}
theorem YV {nums:List Nat} {t:vT} (h1:∀ n,memN nums n=false→∀ xs H,E.effx n xs H=none) (h2:∀ x∈t,E.qui x.1=true∧qP E x.1 x.2.1 x.2.2):∃ M,SmOk E (Cr E nums t).sum (Cr E nums t).fns M:=by
 have hM:∀ (t:vT),(∀ x∈t,E.qui x.1=true∧qP E x.1 x.2.1 x.2.2)→∃ M,∀ x∈t,∀ k e,M≤k→fF E e→yaO e (yak e k) x.1 x.2.1=some x.2.2:=by
  intro t;induction t with
  | nil=>exact fun _=>⟨0,fun x hx=>by cases hx⟩
  | cons y l ih=>
   intro ht;obtain ⟨M1,m1⟩:=ih fun x hx=>ht x (gL _ hx)
   obtain ⟨M2,m2⟩:=(ht y iP).2;refine ⟨M1+M2,fun x hx k e hk he=>?_⟩;rcases qAp.1 hx with rfl | hx
   ·exact m2 k e k (by omega) he (by omega)
   ·exact m1 x hx k e (by omega) he
 obtain ⟨M,hM⟩:=hM t h2;refine ⟨M,fun n fn hf=>?_,fun n ps r hs k e hk he=>?_,fun n ps hs=>?_,fun n ps hq=>?_⟩
 ·have hf:(bif memN nums n then none else E.fns n)=some fn:=hf
  cases hm:memN nums n with
  | true=>rw [hm] at hf;cases hf
  | false=>rw [hm] at hf;exact ⟨hf,h1 n hm⟩
 ·have hs:(match ylz t n ps with | some r=>some r | none=>E.sum n ps)=some r:=hs
  cases hl:ylz t n ps with
  | some x=>rw [hl] at hs;cases hs;exact hM _ (Om _ _ _ _ hl) k e hk he
  | none =>rw [hl] at hs;obtain ⟨_,l2,_⟩:=tM he;unfold yaO;rw [l2,show E.sum n ps=some r from hs]
 ·have hs:(match ylz t n ps with | some r=>some r | none=>E.sum n ps)=none:=hs
  cases hl:ylz t n ps with
  | some x=>rw [hl] at hs;cases hs
  | none=>rw [hl] at hs;exact hs
 ·show (match ylz t n ps with | some r=>some r | none=>E.sum n ps)=_
  cases hl:ylz t n ps with
  | some x=>rw [(h2 _ (Om _ _ _ _ hl)).1] at hq;cases hq
  | none=>rfl
theorem mc {nums:List Nat} {t:vT} (h1:∀ n,memN nums n=false→∀ xs H,E.effx n xs H=none) (h2:∀ x∈t,E.qui x.1=true∧qP E x.1 x.2.1 x.2.2) {m n:Nat} {as:List PV} {H:Hp} {r:PV×Hp} (h:yak (Cr E nums t) m n as H=some r) :
  ∃ m0,∀ k e j,m0≤k→eK E k e→m0≤j→yak e j n as H=some r:=by
 obtain ⟨M,hs⟩:=YV h1 h2;refine ⟨m+M,fun k e j _ he hj=>?_⟩;have he:e=E:=he;subst he;have:=(YU hs m (j-m) (by omega) e.yn e.ctx e.ctx e.yl e.yl fun _ _ _ _ _ h=>h).2 n as H r h;rw [show m+(j-m)=j by omega] at this;exact this
theorem me {nums:List Nat} {t:vT} (h1:∀ n,memN nums n=false→∀ xs H,E.effx n xs H=none) (h2:∀ x∈t,E.qui x.1=true∧qP E x.1 x.2.1 x.2.2) {m n:Nat} {as:List PV} {r:PV} (h:yaO (Cr E nums t) (yak (Cr E nums t) m) n as=some r):kH E n as r:=by obtain ⟨M,hs⟩:=YV h1 h2;refine ⟨m+M,fun k e j _ he hj=>?_⟩;have he:e=E:=he;subst he;have hl:=(YU hs m (j-m) (by omega) e.yn e.ctx e.ctx e.yl e.yl fun _ _ _ _ _ h=>h).2;rw [show m+(j-m)=j by omega] at hl;exact OM (k:=e.yn) (x1:=e.ctx) (x2:=e.ctx) (y1:=e.yl) (y2:=e.yl) ⟨hl,fun n ps r h=>hs.ans n ps r h _ e (by omega) rfl,hs.non,hs.no,fun _ _ _ _ _ h=>h⟩ h
end
theorem bP.seq {P:EP} {a b:AC} {F:aF} {H:Hp} {Q:Ex→aF→Hp→Prop} (h:bP P a F H fun x F' H'=>match x with
  | .norm=>bP P b F' H' Q
  | .exit i=>Q (.exit i) F' H'
  | .ret=>Q .ret F' H'
  | .brk k i=>Q (.brk k i) F' H'):bP P (.seq a b) F H Q:=by
 obtain ⟨x,F',H',hk,m0,hm⟩:=h
 cases x with
 | norm =>obtain ⟨x2,F2,H2,hk2,m1,hm1⟩:=hk;exact bP.up (m0:=max m0 m1) hk2 fun n e k hn hp hle=>by simp only [exec,hm n e k (by omega) hp (by omega),hm1 n e k (by omega) hp (by omega)]
 | exit i=>exact bP.up (m0:=m0) hk fun n e k hn hp hle=>by simp only [exec,hm n e k hn hp hle]
 | ret=>exact bP.up (m0:=m0) hk fun n e k hn hp hle=>by simp only [exec,hm n e k hn hp hle]
 | brk _ _=>exact bP.up (m0:=m0) hk fun n e k hn hp hle=>by simp only [exec,hm n e k hn hp hle]
theorem bP.block {P:EP} {id:Nat} {b:AC} {F:aF} {H:Hp} {Q:Ex→aF→Hp→Prop} (h:bP P b F H fun x F' H'=>match x with
  | .norm=>Q .norm F' H'
  | .exit i=>(if i=id then Q .norm F' H' else Q (.exit i) F' H')
  | .ret=>Q .ret F' H'
  | .brk k i=>Q (.brk k i) F' H'):bP P (.block id b) F H Q:=by
 obtain ⟨x,F',H',hk,m0,hm⟩:=h
 cases x with
 | norm=>exact bP.up (m0:=m0) hk fun n e k hn hp hle=>by simp only [exec,hm n e k hn hp hle]
 | exit i=>
  dsimp only at hk
  by_cases c:i=id
  ·rw [VX c] at hk;exact bP.up (m0:=m0) hk fun n e k hn hp hle=>by simp only [exec,hm n e k hn hp hle,VX c]
  ·rw [VY c] at hk;exact bP.up (m0:=m0) hk fun n e k hn hp hle=>by simp only [exec,hm n e k hn hp hle,VY c]
 | ret=>exact bP.up (m0:=m0) hk fun n e k hn hp hle=>by simp only [exec,hm n e k hn hp hle]
 | brk _ _=>exact bP.up (m0:=m0) hk fun n e k hn hp hle=>by simp only [exec,hm n e k hn hp hle]
theorem bP.mono {P:EP} {a:AC} {F:aF} {H:Hp} {Q Q':Ex→aF→Hp→Prop} (h:bP P a F H Q) (hq:∀ x F H,Q x F H→Q' x F H):bP P a F H Q':=by obtain ⟨x,F',H',hk,hm⟩:=h;exact ⟨x,F',H',hq _ _ _ hk,hm⟩
def EZ (S:SE) (yk:YK) (inl:Nat→Option TFn) (lpOf:CK→LP) (d0:Nat):Nat→CK
 | 0,_,_,_,_=>False
 | d+1,f,args,H,K=>
  match f with
  | .fn (.yield k) [] []=>asr (Nat.beq k S.E.yn) (yk args H fun r H'=>match r with | none=>K (.bool true) H' | some _=>False)
  | .fn (.func n) first captured=>(match inl n with
   | some fn=>HL S.E (EZ S yk inl lpOf d0 d) (lpOf (EZ S yk inl lpOf d0 d)) fn (first++args++captured) H K
   | none=>jO S d0 f args H K)
  | _=>False
structure InlY (P:EP) (E:Env) (lpOf:CK→LP) (n:Nat) (fn:TFn):Prop where
 fns:E.fns n=some fn.fn
 qui:E.qui n=false
 frz:E.frz n=false
 rb:E.rb n=false
 lo:E.lo n=none
 sum:∀ as,E.sum n as=none
 eff:∀ as H,E.eff n as H=none
 flat:ybs fn.body=true
 lp:∀ cK,Good P cK→LpOk P E (lpOf cK) [] fn.body
theorem YW {P:EP} {S:SE} {yk:YK} {inl:Nat→Option TFn} {lpOf:CK→LP} {d0:Nat} (hS:SEOk P S) (hY:cS P S.E yk) (hi:∀ n fn,inl n=some fn→InlY P S.E lpOf n fn):∀ d,Good P (EZ S yk inl lpOf d0 d)
 | 0,f,args,H,K,h=>h.elim
 | d+1,f,args,H,K,h=>by
  have ih:=YW (d0:=d0) hS hY hi d;unfold EZ at h;split at h
  ·rename_i k;obtain ⟨hb,h2⟩:=bF.1 h;have hb:=fU hb;subst hb;obtain ⟨r,H',hk,m0,hm⟩:=hY _ _ _ h2
   cases r with
   | some i=>exact hk.elim
   | none =>refine ⟨_,_,hk,m0,fun n e m hn hp hle=>?_⟩;have hx:ygJ e (.fn (.yield S.E.yn) [] []) args=none:=rfl;rw [Cp hx];simp only [mU,hm n e hn hp]
  ·rename_i n first captured;split at h
   ·rename_i fn hfn;have q:=hi n fn hfn;obtain ⟨r,H',hk,m0,hm⟩:=KQ (S:=⟨S.E,S.sumK,S.inl,lpOf (EZ S yk inl lpOf d0 d),S.sumL⟩) hS.sb ih (fun hf=>by rw [q.flat] at hf;cases hf) (q.lp _ ih) q.fns q.eff h;refine ⟨r,H',hk,m0,fun k e m hkl he hle=>?_⟩;obtain ⟨_,l2,l3,l4,l5,_,_⟩:=tM (hS.sb k e he);have hx:ygJ e (.fn (.func n) first captured) args=none:=by
     rw [HO (hS.sb k e he)];simp only [ygJ,q.lo]
    have e0:∀ as,yaO e (yak e m) n as=none:=by intro as;simp only [yaO,l2,l3,q.sum as,q.qui];rfl
    rw [Cp hx];simp only [mU,e0,l3,l4,l5,q.qui,q.frz,q.rb]
    cases yaw H (first++args++captured)<;>simp only [fK,if_false,hm k e m hkl he hle]
   ·exact dV hS d0 _ _ _ _ h
  ·exact h.elim
def YX (YY:List PV→Hp→Prop) (T:List PV→Hp→Hp):YK:=fun vs H K=>YY vs H∧K none (T vs H)
theorem mf {P:EP} {E:Env} {yk:YK} (hY:cS P E yk) {YY:List PV→Hp→Prop} {T:List PV→Hp→Hp} (h:∀ vs H,YY vs H→yk vs H fun r H'=>r=none∧H'=T vs H):cS P E (YX YY T):=by intro vs H K hk;obtain ⟨h1,h2⟩:=hk;obtain ⟨r,H',⟨hr,hH⟩,m0,hm⟩:=hY _ _ _ (h vs H h1);subst hr hH;exact ⟨none,_,h2,m0,hm⟩
end Go.Pf
namespace Go.Pf.Vc
open Go Go.Pf
def HV:Nat:=90
def HW:Nat:=47
def HX:Nat:=21
def Fa:Nat:=116
def HY:Nat:=91
def HZ:Nat:=92
def Fb:Nat:=48
def Ia:Nat:=49
def Ib:Nat:=22
def Ic:Nat:=6
def vY:Nat:=25
def Id:Nat:=96
def Fd:Nat:=97
def vZ:Nat:=59
def Fe:Nat:=71
def OO:Nat:=103
def KZ:Nat:=72
def Ie:Nat:=104
def AZ:Nat:=74
def Ba:Nat:=73
def Bb:Nat:=38
def La:Nat:=95
def OP:Nat:=51
def YZ:Nat:=117
def Za:Nat:=93
def OQ:Nat:=140
def Ff:Nat:=141
def OR:Nat:=119
def Lb:Nat:=156
def Ld:Nat:=137
def Zb:Nat:=131
def Le:Nat:=118
def Zc:Nat:=94
def cT:Nat:=50
def qQ:Nat:=28
def mO:Nat:=31
def oM:Nat:=57
def tV:Nat:=58
def qR:Nat:=30
def Ig:Nat:=98
def qS:Nat:=60
def qT:Nat:=61
def yG:Nat:=99
def yH:Nat:=100
def Ih:Nat:=120
def Ct:Nat:=102
def Ii:Nat:=101
def Cu:Nat:=62
def sG:Nat:=70
def tW:Nat:=67
def pU:Nat:=33
def tX:Nat:=68
def Fg:Nat:=52
def Cv:Nat:=53
def Fh:Nat:=54
def Fi:Nat:=121
def Ij:Nat:=105
def Fj:Nat:=122
def Fk:Nat:=107
def Ik:Nat:=106
def Cw:Nat:=77
def Cx:Nat:=40
def Fl:Nat:=55
def Fm:Nat:=56
def sH:Nat:=29
def wA:Nat:=9
def Il:Nat:=32
def tY:Nat:=69
def yI:Nat:=66
def Fo:Nat:=63
def Fp:Nat:=65
def OS:Nat:=64
def Im:Nat:=34
def Cy:Nat:=10
def CA:Nat:=76
def Io:Nat:=75
def OT:Nat:=39
def pV:Nat:=13
def Ip:Nat:=37
def Iq:Nat:=12
def Fq:Nat:=26
def Ir:Nat:=27
def Fr:Nat:=8
def Bc:Nat:=24
def Is:Nat:=23
def CB:Nat:=7
def It:Nat:=14
def Fs:Nat:=35
def Fu:Nat:=36
def Fv:Nat:=11
def Iu:Nat:=15
def OU:Nat:=4
def zF (d s:Nat) (o:AOp):AO:=⟨some d,o,some (s,false)⟩
def zT (d s:Nat) (o:AOp):AO:=⟨some d,o,some (s,true)⟩
def zS (n:Nat) (a x:Opd):AO:=⟨none,.store n a x,none⟩
def zR:Nat→Nat→List Nat
 | _,0=>[]
 | a,n+1=>a::zR (a+1) n
def zQ:TC→TC→TC:=.seq
def zC:Opd→TC→TC→TC:=.cond
def zB:Nat→TC→TC:=.block
abbrev zI:Sh:=.one (.i .i64)
abbrev zD:Sh:=.one .d
abbrev z2:Sh:=.agg [.i .i64,.i .i64]
abbrev z4:Sh:=.agg [.i .i64,.i .i64,.i .i64,.i .i64]
abbrev zK:Sh:=.agg [.i .i64,.d,.d]
abbrev zE:Sh:=.agg [.d,.d]
def t0:Opd:=.t 0
def t1:Opd:=.t 1
def t4:Opd:=.t 4
def t5:Opd:=.t 5
def t7:Opd:=.t 7
def t8:Opd:=.t 8
def t9:Opd:=.t 9
def dN:Opd:=.t 10
def dI:Opd:=.t 11
def OV:TFn:=⟨1,[.tmp 2],(zQ (oQ [O 1 (.boxL t0),O 2 (.mv (.c (.bool false)))] [0,2]) (zQ (.ops [O 3 (.fad 1 t1),oF 4 1 3,O 5 (.len t4),O 6 (.bin .gtr t5 (I 60)),M 7 6,zF 8 7 (.fad 2 t1),zF 9 7 (.load false 1 t8),zF 10 7 (.len t9),zF 11 7 (.bin .gtr dN (I 60)),O 12 (.pick t7 (.c (.bool true)) dI),M 2 12] [⟨1,zK,0⟩,⟨6,zK,0⟩] [] [1,3,4,5,6,7,8,9,10,11,12]) .ret))⟩
def eL:Opd:=.t 13
def eE:Opd:=.t 14
def Lf:TC:=(zQ (zQ (oQ [M 4 3,M 5 0,O 6 (.len t5),oX 7 .lss 4 6] [4,5,6]) (zC t7 .skip (.exit 0))) (zQ (zB 1 (zQ (.ops [M 10 0,M 11 3,O 12 (.iad 3 dN dI),oT 13 3 12,O 14 (.call (.f HV) [eL])] [⟨2,zK,0⟩,⟨3,zK,0⟩] [] [7,10,11,12,13]) (zC eE (zQ (oQ [O 2 (.mv (.c (.bool true)))] [0,3,14]) .ret) .skip))) (oQ [M 8 3,O 9 (.bin .add t8 (I 1)),M 3 9] [8,9,14])))
def fG:Opd:=.t 15
def eO:Opd:=.t 16
def OW:TFn:=⟨1,[.tmp 2],(zQ (oQ [O 2 (.mv (.c (.bool false)))] [2]) (zQ (zQ (oQ [O 3 (.mv (I 0))] []) (zB 0 (.loop 4277600 Lf))) (zQ (oQ [M 15 0,O 16 (.len fG),O 17 (.bin .gtr eO (I 10)),M 2 17] [0,3,7,15,16,17]) .ret)))⟩
def t3:Opd:=.t 3
def dQ:Opd:=.t 12
def gM:Opd:=.t 17
def gU:Opd:=.t 18
def gN:Opd:=.t 19
def iM:Opd:=.t 20
def iW:Opd:=.t 21
def gV:Opd:=.t 22
def jG:Opd:=.t 23
def iN:Opd:=.t 24
def jP:Opd:=.t 25
def Lg:TC:=(zQ (zQ (oQ [M 4 3,M 5 0,O 6 (.len t5),oX 7 .lss 4 6] [4,5,6]) (zC t7 .skip (.exit 0))) (zQ (zB 1 (zQ (.ops [M 10 0,M 11 3,O 12 (.iad 3 dN dI),O 13 (.fad 1 dQ),oF 14 1 13,O 15 (.len eE),O 16 (.bin .gtr fG (I 14)),M 17 16,zT 18 17 (.mv t0),zT 19 17 (.mv t3),zT 20 17 (.iad 3 gU gN),zT 21 17 (.fad 1 iM),zT 22 17 (.load false 1 iW),zT 23 17 (.len gV),zT 24 17 (.bin .leq jG (I 40)),O 25 (.pick gM iN (.c (.bool false)))] [⟨2,zK,0⟩,⟨4,zK,0⟩,⟨10,zK,0⟩,⟨12,zK,0⟩] [] [7,10,11,12,13,14,15,16,17,18,19,20,21,22,23,24]) (zC jP (zQ (oQ [O 2 (.mv (.c (.bool true)))] [0,3,25]) .ret) .skip))) (oQ [M 8 3,O 9 (.bin .add t8 (I 1)),M 3 9] [8,9,25])))
def kJ:Opd:=.t 26
def OX:TFn:=⟨1,[.tmp 2],(zQ (oQ [O 2 (.mv (.c (.bool false)))] [2]) (zQ (zQ (oQ [O 3 (.mv (I 0))] []) (zB 0 (.loop 60274600 Lg))) (zQ (oQ [M 26 0,O 27 (.call (.f HW) [kJ]),M 2 27] [0,3,7,26,27]) .ret)))⟩
def oN:Opd:=.t 55
def yJ:Opd:=.t 57
def Fw:Opd:=.t 58
def Be:Opd:=.t 61
def CC:Opd:=.t 62
def Iv:Opd:=.t 63
def CD:Opd:=.t 67
def Bf:Opd:=.t 68
def Bg:Opd:=.t 72
def CE:Opd:=.t 73
def Bh:Opd:=.t 74
def wC:Opd:=.t 75
def CF:Opd:=.t 76
def yK:Opd:=.t 77
def wE:Opd:=.t 78
def Fx:Opd:=.t 80
def CG:Opd:=.t 81
def Fy:Opd:=.t 82
def Iw:Opd:=.t 83
def Fz:Opd:=.t 84
def FA:Opd:=.t 85
def Bi:Opd:=.t 86
def FC:Opd:=.t 87
def FD:Opd:=.t 89
def Lh:Opd:=.t 90
def FE:Opd:=.t 91
def Li:Opd:=.t 92
def CH:Opd:=.t 93
def CI:Opd:=.t 94
def Ix:Opd:=.t 95
def Lj:TC:=(zQ (zQ (.ops [M 53 4,O 54 (.fad 2 t1),oF 55 1 54,O 56 (.len oN),oX 57 .lss 53 56] [⟨2,zK,0⟩] [] (zR 53 4)) (zC yJ .skip (.exit 0))) (zQ (zB 1 (zQ (zQ (.ops [O 60 (.fad 1 t1),oF 61 1 60,M 62 4,O 63 (.bin .add CC (I 1)),O 64 (.iad 1 Be Iv),oF 65 1 64,O 66 (.fad 1 t1),oF 67 1 66,M 68 4,O 69 (.iad 1 CD Bf),oF 70 1 69,oX 71 .leq 65 70,M 72 71,zF 73 72 (.fad 2 t1),zF 74 72 (.load false 1 CE),zF 75 72 (.mv t4),zF 76 72 (.iad 1 Bh wC),zF 77 72 (.load false 1 CF),zF 78 72 (.bin .lss yK (I 0)),O 79 (.pick Bg (.c (.bool true)) wE),M 80 79,zF 81 80 (.fad 2 t1),zF 82 80 (.load false 1 CG),zF 83 80 (.mv t4),zF 84 80 (.iad 1 Fy Iw),zF 85 80 (.load false 1 Fz),zF 86 80 (.bin .gtr FA (I 12)),O 87 (.pick Fx (.c (.bool true)) Bi)] [⟨1,zK,0⟩,⟨4,zI,0⟩,⟨5,zI,0⟩,⟨7,zK,0⟩,⟨9,zI,0⟩,⟨10,zI,0⟩,⟨14,zK,0⟩,⟨16,zI,0⟩,⟨17,zI,0⟩,⟨22,zK,0⟩,⟨24,zI,0⟩,⟨25,zI,0⟩] [(0,2),(1,2),(0,3),(1,3),(0,6),(1,6),(2,6),(3,6),(4,6),(5,6),(0,7),(1,7),(2,7),(3,7),(4,7),(5,7),(0,8),(1,8),(2,8),(3,8),(4,8),(5,8),(6,8),(7,8),(0,9),(1,9),(2,9),(3,9),(4,9),(5,9),(0,10),(1,10),(2,10),(3,10),(4,10),(5,10),(13,15),(14,15),(21,23),(22,23)] [57,60,61,62,63,64,65,66,67,68,69,70,71,72,73,74,75,76,77,78,79,80,81,82,83,84,85,86]) (zC FC (zQ (oQ [O 2 (.mv (I 8))] [1,3,4,87]) .ret) .skip)) (.ops [M 88 3,M 89 88,zF 90 89 (.fad 2 t1),zF 91 89 (.load false 1 Lh),zF 92 89 (.mv t4),zF 93 89 (.iad 1 FE Li),zF 94 89 (.load false 1 CH),zF 95 89 (.bin .gtr CI (I 0)),O 96 (.pick FD (.c (.bool true)) Ix),M 3 96] [⟨3,zK,0⟩,⟨5,zI,0⟩,⟨6,zI,0⟩] [] (zR 87 10)))) (oQ [M 58 4,O 59 (.bin .add Fw (I 1)),M 4 59] [58,59])))
def t6:Opd:=.t 6
def oO:Opd:=.t 27
def iC:Opd:=.t 28
def lE:Opd:=.t 29
def lX:Opd:=.t 30
def kS:Opd:=.t 31
def oP:Opd:=.t 33
def kT:Opd:=.t 34
def kK:Opd:=.t 35
def nU:Opd:=.t 36
def oR:Opd:=.t 37
def nA:Opd:=.t 38
def nB:Opd:=.t 40
def mP:Opd:=.t 41
def lF:Opd:=.t 42
def sI:Opd:=.t 43
def pW:Opd:=.t 44
def qU:Opd:=.t 45
def nC:Opd:=.t 46
def pX:Opd:=.t 47
def pY:Opd:=.t 48
def sJ:Opd:=.t 49
def CJ:Opd:=.t 50
def wF:Opd:=.t 51
def wG:Opd:=.t 52
def Iy:Opd:=.t 97
def FF:Opd:=.t 98
def OY:TFn:=⟨1,[.tmp 2],(zQ (oQ [O 1 (.boxL t0),O 2 (.mv (I 0))] [0,2]) (zQ (zQ (.ops [O 5 (.fad 0 t1),oF 6 1 5,O 7 (.bin .gtr t6 (I 1000)),M 8 7,zF 9 8 (.fad 1 t1),zF 10 8 (.load false 1 t9),zF 11 8 (.len dN),zF 12 8 (.bin .gtr dI (I 40)),O 13 (.pick t8 (.c (.bool true)) dQ)] [⟨1,zK,0⟩,⟨5,zK,0⟩] [] (zR 5 8)) (zC eL (zQ (oQ [O 2 (.mv (I 4))] [1,13]) .ret) .skip)) (zQ (zQ (.ops [O 14 (.fad 0 t1),oF 15 1 14,O 16 (.bin .lss fG (I 1)),M 17 16,zF 18 17 (.fad 1 t1),zF 19 17 (.load false 1 gU),zF 20 17 (.len gN),zF 21 17 (.bin .lss iM (I 2)),O 22 (.pick gM (.c (.bool true)) iW),M 23 22,zF 24 23 (.fad 2 t1),zF 25 23 (.load false 1 iN),zF 26 23 (.len jP),zF 27 23 (.fad 1 t1),zF 28 23 (.load false 1 oO),zF 29 23 (.len iC),zF 30 23 (.bin .sub lE (I 1)),zF 31 23 (.bin .neq kJ lX),O 32 (.pick jG (.c (.bool true)) kS),M 33 32,zF 34 33 (.fad 1 t1),zF 35 33 (.load false 1 kT),zF 36 33 (.iad 1 kK (I 0)),zF 37 33 (.load false 1 nU),zF 38 33 (.bin .neq oR (I 0)),O 39 (.pick oP (.c (.bool true)) nA),M 40 39,zF 41 40 (.fad 1 t1),zF 42 40 (.load false 1 mP),zF 43 40 (.fad 1 t1),zF 44 40 (.load false 1 sI),zF 45 40 (.len pW),zF 46 40 (.bin .sub qU (I 1)),zF 47 40 (.iad 1 lF nC),zF 48 40 (.load false 1 pX),zF 49 40 (.fad 0 t1),zF 50 40 (.load false 1 sJ),zF 51 40 (.bin .neq pY CJ),O 52 (.pick nB (.c (.bool true)) wF)] [⟨1,zK,0⟩,⟨5,zK,0⟩,⟨11,zK,0⟩,⟨14,zK,0⟩,⟨21,zK,0⟩,⟨22,zI,0⟩,⟨23,zI,0⟩,⟨28,zK,0⟩,⟨30,zK,0⟩,⟨33,zI,0⟩,⟨34,zI,0⟩,⟨36,zK,0⟩] [(10,13),(11,13),(12,13),(10,14),(11,14),(12,14),(10,15),(11,15),(12,15),(10,16),(11,16),(12,16),(27,29),(28,29),(27,30),(28,30),(27,31),(28,31),(27,32),(28,32),(27,35),(28,35),(29,35),(30,35),(31,35),(32,35),(33,35),(34,35),(27,36),(28,36),(29,36),(30,36),(31,36),(32,36),(33,36),(34,36)] (zR 13 39)) (zC wG (zQ (oQ [O 2 (.mv (I 8))] [1,52]) .ret) .skip)) (zQ (oQ [O 3 (.mv (.c (.bool false)))] [52]) (zQ (zQ (oQ [O 4 (.mv (I 0))] []) (zB 0 (.loop 94526800 Lj))) (zQ (zQ (oQ [M 97 3,O 98 (.un .not Iy)] [1,3,4,57,97]) (zC FF (zQ (oQ [O 2 (.mv (I 8))] [98]) .ret) .skip)) (zQ (oQ [O 2 (.mv (I 0))] [98]) .ret)))))))⟩
def lH:Opd:=.t 32
def Lk:TC:=(zQ (zQ (.ops [M 19 3,O 20 (.fad 0 t1),oF 21 1 20,O 22 (.len iW),oX 23 .lss 19 22] [⟨2,zE,0⟩] [] (zR 19 4)) (zC jG .skip (.exit 0))) (zQ (zB 1 (zQ (.ops [O 26 (.fad 0 t1),oF 27 1 26,M 28 3,O 29 (.iad 3 oO iC),oT 30 3 29,O 31 (.call (.f Fa) [lX]),O 32 (.bin .neq kS (I 0))] [⟨1,zE,0⟩,⟨3,zK,0⟩,⟨4,zK,0⟩] [] [23,26,27,28,29,30,31]) (zC lH (zQ (.ops [O 33 (.fad 0 t1),oF 34 1 33,M 35 3,O 36 (.iad 3 kT kK),oT 37 3 36,O 38 (.call (.f Fa) [oR]),M 2 38] [⟨1,zE,0⟩,⟨3,zK,0⟩,⟨4,zK,0⟩] [] [1,3,32,33,34,35,36,37,38]) .ret) .skip))) (oQ [M 24 3,O 25 (.bin .add iN (I 1)),M 3 25] [24,25,32])))
def Bj:Opd:=.t 53
def yL:Opd:=.t 54
def Ll:TC:=(zQ (zQ (.ops [M 39 4,O 40 (.fad 0 t1),oF 41 1 40,O 42 (.len mP),oX 43 .lss 39 42] [⟨2,zE,0⟩] [] (zR 39 4)) (zC sI .skip (.exit 2))) (zQ (zB 3 (zQ (.ops [O 46 (.fad 0 t1),oF 47 1 46,M 48 4,O 49 (.iad 3 pX pY),O 50 (.fad 0 sJ),oF 51 1 50,O 52 (.fad 0 t1),oF 53 1 52,O 54 (.iad 3 Bj (I 0)),O 55 (.fad 0 yL),oF 56 1 55,oX 57 .neq 51 56] [⟨1,zE,0⟩,⟨3,zK,0⟩,⟨5,zK,0⟩,⟨7,zE,0⟩,⟨8,zK,0⟩,⟨10,zK,0⟩] [(0,2),(1,2),(0,6),(1,6),(2,6),(3,6),(4,6),(5,6),(0,7),(1,7),(2,7),(3,7),(4,7),(5,7),(0,8),(1,8),(2,8),(3,8),(4,8),(5,8),(0,9),(1,9),(2,9),(3,9),(4,9),(5,9),(0,10),(1,10),(2,10),(3,10),(4,10),(5,10)] [43,46,47,48,49,50,51,52,53,54,55,56]) (zC yJ (zQ (oQ [O 2 (.mv (I 8))] [1,4,57]) .ret) .skip))) (oQ [M 44 4,O 45 (.bin .add pW (I 1)),M 4 45] [44,45,57])))
def OZ:TFn:=⟨1,[.tmp 2],(zQ (oQ [O 1 (.boxL t0),O 2 (.mv (I 0))] [0,2]) (zQ (zQ (.ops [O 5 (.fad 0 t1),oF 6 1 5,O 7 (.len t6),O 8 (.bin .gtr t7 (I 6)),M 9 8,zF 10 9 (.fad 1 t1),zF 11 9 (.load false 1 dN),zF 12 9 (.len dI),zF 13 9 (.bin .gtr dQ (I 2000)),O 14 (.pick t9 (.c (.bool true)) eL)] [⟨1,zE,0⟩,⟨6,zE,0⟩] [] (zR 5 9)) (zC eE (zQ (oQ [O 2 (.mv (I 4))] [1,14]) .ret) .skip)) (zQ (zQ (.ops [O 15 (.fad 0 t1),oF 16 1 15,O 17 (.len eO),O 18 (.bin .eql gM (I 0))] [⟨1,zE,0⟩] [] (zR 14 4)) (zC gU (zQ (oQ [O 2 (.mv (I 8))] [1,18]) .ret) .skip)) (zQ (zQ (oQ [O 3 (.mv (I 0))] [18]) (zB 0 (.loop 6981300 Lk))) (zQ (zQ (oQ [O 4 (.mv (I 0))] [3,23]) (zB 2 (.loop 6981301 Ll))) (zQ (oQ [O 2 (.mv (I 0))] [1,4,43]) .ret))))))⟩
def Lm:TC:=(zQ (zQ (.ops [M 4 3,O 5 (.fad 2 t1),oF 6 1 5,O 7 (.len t6),oX 8 .lss 4 7] [⟨2,zK,0⟩] [] (zR 4 4)) (zC t8 .skip (.exit 0))) (zQ (zB 1 (zQ (.ops [O 11 (.fad 2 t1),oF 12 1 11,M 13 3,O 14 (.iad 1 dQ eL),oF 15 1 14,O 16 (.bin .eql fG (I 0))] [⟨1,zK,0⟩,⟨3,zI,0⟩,⟨4,zI,0⟩] [] [8,11,12,13,14,15]) (zC eO (zQ (oQ [O 2 (.mv (.c (.bool false)))] [1,3,16]) .ret) .skip))) (oQ [M 9 3,O 10 (.bin .add t9 (I 1)),M 3 10] [9,10,16])))
def Pa:TFn:=⟨1,[.tmp 2],(zQ (oQ [O 1 (.boxL t0),O 2 (.mv (.c (.bool false)))] [0,2]) (zQ (zQ (oQ [O 3 (.mv (I 0))] []) (zB 0 (.loop 42667800 Lm))) (zQ (oQ [O 2 (.mv (.c (.bool true)))] [1,3,8]) .ret)))⟩
def Lo:TC:=(zQ (zQ (oQ [M 14 4,M 15 0,O 16 (.len fG),oX 17 .lss 14 16] [14,15,16]) (zC gM .skip (.exit 0))) (zQ (zB 1 (zQ (.ops [M 20 0,M 21 4,O 22 (.iad 3 iM iW),oT 23 3 22,O 24 (.call (.f HZ) [jG]),O 25 (.un .not iN)] [⟨2,zK,0⟩,⟨3,zK,0⟩] [] [17,20,21,22,23,24]) (zC jP (zQ (oQ [O 2 (.mv (I 2))] [0,4,25]) .ret) .skip))) (oQ [M 18 4,O 19 (.bin .add gU (I 1)),M 4 19] [18,19,25])))
def Pb:TFn:=⟨1,[.tmp 2],(zQ (oQ [O 2 (.mv (I 0))] [2]) (zQ (zQ (oQ [M 5 0,O 6 (.build [.nils,.nils] [(0,1,t5)]),O 7 (.call (.f HY) [t6]),M 3 7] [5,6,7]) (zQ (oQ [M 8 3,O 9 (.bin .neq t8 (I 0))] [8]) (zC t9 (zQ (oQ [M 10 3,M 2 10] [0,3,9,10]) .ret) .skip))) (zQ (zQ (oQ [M 11 0,O 12 (.len dI),O 13 (.bin .gtr dQ (I 4))] [3,9,11,12]) (zC eL (zQ (oQ [O 2 (.mv (I 4))] [0,13]) .ret) .skip)) (zQ (zQ (oQ [O 4 (.mv (I 0))] [13]) (zB 0 (.loop 10200500 Lo))) (zQ (oQ [O 2 (.mv (I 0))] [0,4,17]) .ret)))))⟩
def pZ:Opd:=.t 39
def Lp:TC:=(zQ (zQ (oQ [M 13 6,M 14 0,oX 15 .lss 13 14] [13,14]) (zC fG .skip (.exit 0))) (zQ (zB 1 (zQ (zQ (.ops [M 18 1,M 19 6,O 20 (.iad 1 gU gN),oF 21 1 20,O 22 (.bin .lss iW (I 0)),M 23 22,zF 24 23 (.mv t1),zF 25 23 (.mv t6),zF 26 23 (.iad 1 iN jP),zF 27 23 (.load false 1 kJ),zF 28 23 (.mv t0),zF 29 23 (.bin .geq oO iC),O 30 (.pick jG (.c (.bool true)) lE),M 31 30,zF 32 31 (.mv t5),zF 33 31 (.mv t1),zF 34 31 (.mv t6),zF 35 31 (.iad 1 oP kT),zF 36 31 (.load false 1 kK),zF 37 31 (.iad 1 lH nU),zF 38 31 (.load false 1 oR),O 39 (.pick kS (.c (.bool true)) nA)] [⟨2,zI,0⟩,⟨3,zI,0⟩,⟨8,zI,0⟩,⟨9,zI,0⟩,⟨17,zI,0⟩,⟨18,zI,0⟩,⟨19,(.one (.b)),0⟩,⟨20,(.one (.b)),0⟩] [] [15,18,19,20,21,22,23,24,25,26,27,28,29,30,31,32,33,34,35,36,37,38]) (zC pZ (zQ (oQ [O 4 (.mv (.c (.bool false)))] [0,1,5,6,39]) .ret) .skip)) (.ops [M 40 5,M 41 1,M 42 6,O 43 (.iad 1 mP lF),oF 44 1 43,O 45 (.iad 1 nB pW),zS 1 qU (.c (.bool true))] [⟨3,zI,0⟩,⟨4,zI,0⟩,⟨5,(.one (.b)),0⟩,⟨6,(.one (.b)),0⟩] [] (zR 39 7)))) (oQ [M 16 6,O 17 (.bin .add eO (I 1)),M 6 17] [16,17])))
def Pc:TFn:=⟨2,[.tmp 4],(zQ (oQ [O 4 (.mv (.c (.bool false)))] [4]) (zQ (zQ (oQ [M 7 1,O 8 (.len t7),M 9 0,oX 10 .neq 8 9] [7,8,9]) (zC dN (zQ (oQ [O 4 (.mv (.c (.bool false)))] [0,1,10]) .ret) .skip)) (zQ (oQ [M 11 0,O 12 (.mkSl true 1 1 (.bool false) dI dI),M 5 12] [10,11,12]) (zQ (zQ (oQ [O 6 (.mv (I 0))] []) (zB 0 (.loop 62552700 Lp))) (zQ (oQ [O 4 (.mv (.c (.bool true)))] [0,1,5,6,15]) .ret)))))⟩
def Pd:TFn:=⟨2,[.tmp 4],(zQ (oQ [O 4 (.mv (I 0))] [4]) (zQ (zQ (oQ [M 5 0,O 6 (.call (.f Fb) [t5]),O 7 (.bin .neq t6 (I 0))] [5,6]) (zC t7 (zQ (oQ [M 8 0,O 9 (.call (.f Fb) [t8]),M 4 9] [0,1,7,8,9]) .ret) .skip)) (zQ (zQ (oQ [M 10 0,O 11 (.len dN),M 12 1,O 13 (.call (.f Ia) [dI,dQ]),O 14 (.un .not eL)] [0,1,7,10,11,12,13]) (zC eE (zQ (oQ [O 4 (.mv (I 8))] [14]) .ret) .skip)) (zQ (oQ [O 4 (.mv (I 0))] [14]) .ret))))⟩
def Pe:TFn:=⟨2,[.tmp 4],(zQ (oQ [O 4 (.mv (.c (.bool false)))] [4]) (zQ (oQ [M 5 0,O 6 (.call (.f HX) [t5]),O 7 (.un .not t6),M 8 7,zT 9 8 (.mv t1),zT 10 8 (.len t9),zT 11 8 (.bin .leq dN (I 20)),O 12 (.pick t8 dI (.c (.bool false))),M 13 12,zT 14 13 (.mv t0),zT 15 13 (.mv t1),zT 16 13 (.call (.f Ib) [eE,fG]),zT 17 13 (.bin .eql eO (I 0)),O 18 (.pick eL gM (.c (.bool false))),M 4 18] [0,1,5,6,7,8,9,10,11,12,13,14,15,16,17,18]) .ret))⟩
def t2:Opd:=.t 2
abbrev J4 (t:Type):Type:=Int→Int→Int→Int→t
abbrev J16 (t:Type):Type:=J4 (J4 (J4 (J4 t)))
@[match_pattern] abbrev ic (n:Int):PV:=.int .i64 n
def gz (n:Nat):PV:=.agg (replicate n (.int .i64 0))
abbrev gi2:Sh:=.agg [.i .i64,.i .i64]
abbrev gi4:Sh:=.agg [.i .i64,.i .i64,.i .i64,.i .i64]
def ga (l:List Int):PV:=.agg (l.map (.int .i64))
def Pg:TFn:=⟨0,[.tmp 0],(zQ (oQ [O 0 (.mv (.c .nils))] [0]) (zQ (oQ [O 1 (.bD 1 (ic (0)) 2 [(0,(I 0)),(1,(I 4))]),O 2 (.bD 1 (ic (0)) 1 [(0,(I 1))]),O 3 (.build [(ic (0)),.nils,.nils] [(0,1,(I 4)),(1,1,t1),(2,1,t2)]),O 4 (.bD 1 (ic (0)) 3 [(0,(I 0)),(1,(I 1)),(2,(I 4))]),O 5 (.bD 1 (ic (0)) 2 [(0,(I 3)),(1,(I 1))]),O 6 (.build [(ic (0)),.nils,.nils] [(0,1,(I 4)),(1,1,t4),(2,1,t5)]),O 7 (.bSl true 3 (.agg [(ic (0)),(.data []),(.data [])]) 2 [(0,t3),(1,t6)]),M 0 7] (zR 1 7)) .ret))⟩
def Lq:TC:=(zQ (zQ (oQ [M 12 4,M 13 0,O 14 (.len eL),oX 15 .lss 12 14] [12,13,14]) (zC fG .skip (.exit 0))) (zQ (zB 1 (.ops [M 18 3,M 19 0,M 20 4,O 21 (.iad 1 gN iM),oF 22 1 21,O 23 (.minmax false [gU,gV]),M 3 23] [⟨3,zI,0⟩,⟨4,zI,0⟩] [] [15,18,19,20,21,22,23])) (oQ [M 16 4,O 17 (.bin .add eO (I 1)),M 4 17] [16,17])))
def Ph:TFn:=⟨1,[.tmp 2],(zQ (oQ [O 2 (.mv (I 0))] [2]) (zQ (zQ (oQ [M 5 0,O 6 (.len t5),O 7 (.bin .lss t6 (I 1))] [5,6]) (zC t7 (oQ [⟨some 8,.bad,none⟩,⟨none,.bad,none⟩] [7,8]) .skip)) (zQ (.ops [M 9 0,O 10 (.iad 1 t9 (I 0)),oF 11 1 10,M 3 11] [⟨1,zI,0⟩,⟨2,zI,0⟩] [] [7,9,10,11]) (zQ (zQ (oQ [O 4 (.mv (I 1))] []) (zB 0 (.loop 10434000 Lq))) (zQ (oQ [M 24 3,M 2 24] [0,3,4,15,24]) .ret)))))⟩
def Lt:TC:=(zQ (zQ (oQ [M 12 4,M 13 0,O 14 (.len eL),oX 15 .lss 12 14] [12,13,14]) (zC fG .skip (.exit 0))) (zQ (zB 1 (.ops [M 18 3,M 19 0,M 20 4,O 21 (.iad 1 gN iM),oF 22 1 21,O 23 (.minmax true [gU,gV]),M 3 23] [⟨3,zI,0⟩,⟨4,zI,0⟩] [] [15,18,19,20,21,22,23])) (oQ [M 16 4,O 17 (.bin .add eO (I 1)),M 4 17] [16,17])))
end Go.Pf.Vc
