/- Part 2. -/
import Derived.Test.YtijdgcomldpncaaGreatTfW1
namespace Go.Pf
open Go Go.RowKit
section
variable {E:Env} {F F':Frm} {H H' H1:Hp} {call:Nat→List PV→Hp→Option (PV×Hp)}
theorem yrt:∀ (l:List AO) (F:Frm) (H:Hp) (F':Frm) (H':Hp) (ps:List FP),yoX E call l F H=some (F',H',ps) →
  ps.length=l.length∧stAt E call l 0 (F,H)=(F,H)∧stAt E call l l.length (F,H)=(F',H') ∧
  ∀ (i:Nat) (o:AO),l[i]?=some o→yji E call o (stAt E call l i (F,H))=some (stAt E call l (i+1) (F,H))∧ps[i]?=some ((yfJ E (stAt E call l i (F,H)).1 (stAt E call l i (F,H)).2 o).tight (stAt E call l i (F,H)).2 (stAt E call l (i+1) (F,H)).2)
 | [],F,H,F',H',ps,h=>by
  simp only [yoX,qAg,Prod.mk.injEq] at h
  obtain ⟨rfl,rfl,rfl⟩:=h
  exact ⟨rfl,rfl,rfl,fun i o e=>by simp at e⟩
 | o::r,F,H,F',H',ps,h=>by
  simp only [yoX] at h
  split at h
  ·rename_i F1 H1 hs
   split at h
   ·rename_i F2 H2 ps' hr
    cases h
    obtain ⟨h1,h2,h3,h4⟩:=yrt r F1 H1 F' H' ps' hr
    have hs':yji E call o (F,H)=some (F1,H1):=hs
    refine ⟨by simp [h1],rfl,by simp only [qAc,stAt,hs'];exact h3,fun i o' e=>?_⟩
    cases i with
    | zero =>
     simp only [List.getElem?_cons_zero,qAg] at e
     subst e
     have e0:stAt E call (o::r) 0 (F,H)=(F,H):=rfl
     have e1:stAt E call (o::r) (0+1) (F,H)=(F1,H1):=by simp only [stAt,hs'];exact h2
     rw [e0,e1]
     exact ⟨hs',rfl⟩
    | succ i =>
     simp only [List.getElem?_cons_succ] at e
     obtain ⟨h5,h6⟩:=h4 i o' e
     have e1:∀ k,stAt E call (o::r) (k+1) (F,H)=stAt E call r k (F1,H1):=fun k=>by simp only [stAt,hs']
     rw [e1,e1]
     exact ⟨h5,by simpa using h6⟩
   ·cases h
  ·cases h
theorem yfh {a b:List Nat} (h:meets a b=false):∀ s∈a,s∉b:=by
 induction a with
 | nil=>intro s hs;simp at hs
 | cons x r ih =>
  simp only [meets,qB7] at h
  intro s hs
  rcases qAr.1 hs with rfl | hs
  ·intro hb
   have:=h.1
   simp [hb] at this
  ·exact ih h.2 s hs
theorem yAq {p q:FP} (h:yrn p q=false):∀ l,¬(WrP p l∧(RdP q l∨WrP q l))∧¬(WrP q l∧RdP p l):=by
 simp only [yrn,qB7] at h
 obtain ⟨⟨⟨⟨⟨⟨⟨⟨h1,h2⟩,h3⟩,h4⟩,h5⟩,h6⟩,h7⟩,h8⟩,h9⟩:=h
 have heapyP:p.heapy=false↔p.push=false∧p.all=false∧p.hr=[]∧p.hw=[]:=by
  simp [FP.heapy,and_assoc]
 have heapyQ:q.heapy=false↔q.push=false∧q.all=false∧q.hr=[]∧q.hw=[]:=by
  simp [FP.heapy,and_assoc]
 intro l
 cases l with
 | sl s =>
  refine ⟨fun ⟨a,b⟩=>?_,fun ⟨a,b⟩=>yfh h3 s a b⟩
  rcases b with b | b
  ·exact yfh h1 s a b
  ·exact yfh h2 s a b
 | bk id =>
  have pall:p.all=true→q.push=false∧q.all=false∧q.hr=[]∧q.hw=[]:=fun e=>by rw [e] at h4;exact heapyQ.1 (by simpa using h4)
  have qall:q.all=true→p.push=false∧p.all=false∧p.hr=[]∧p.hw=[]:=fun e=>by rw [e] at h5;exact heapyP.1 (by simpa using h5)
  constructor
  ·rintro ⟨a,b⟩
   simp only [WrP,RdP] at a b
   rcases a with a | a
   ·rcases b with (b | b | b) | (b | b)
    ·exact yfh h7 id a b
    ·exact yfh h8 id a b
    ·have:=(qall b).2.2.2;rw [this] at a;cases a
    ·exact yfh h8 id a b
    ·have:=(qall b).2.2.2;rw [this] at a;cases a
   ·obtain ⟨q1,q2,q3,q4⟩:=pall a
    rcases b with (b | b | b) | (b | b)
    ·rw [q3] at b;cases b
    ·rw [q4] at b;cases b
    ·rw [q2] at b;cases b
    ·rw [q4] at b;cases b
    ·rw [q2] at b;cases b
  ·rintro ⟨a,b⟩
   simp only [WrP,RdP] at a b
   rcases a with a | a
   ·rcases b with b | b | b
    ·exact yfh h9 id a b
    ·exact yfh h8 id b a
    ·have:=(pall b).2.2.2;rw [this] at a;cases a
   ·obtain ⟨q1,q2,q3,q4⟩:=qall a
    rcases b with b | b | b
    ·rw [q3] at b;cases b
    ·rw [q4] at b;cases b
    ·rw [q2] at b;cases b
 | len =>
  have pall:p.all=true→q.push=false∧q.all=false:=fun e=>by rw [e] at h4;have:=heapyQ.1 (by simpa using h4);exact ⟨this.1,this.2.1⟩
  have qall:q.all=true→p.push=false∧p.all=false:=fun e=>by rw [e] at h5;have:=heapyP.1 (by simpa using h5);exact ⟨this.1,this.2.1⟩
  have hpp:p.push=true→q.push=true→False:=fun a b=>by rw [a,b] at h6;cases h6
  have both:WrP p .len→WrP q .len→False:=by
   simp only [WrP]
   rintro (a | a) (b | b)
   ·exact hpp a b
   ·have:=(qall b).1;rw [a] at this;cases this
   ·have:=(pall a).1;rw [b] at this;cases this
   ·have:=(pall a).2;rw [b] at this;cases this
  exact ⟨fun ⟨a,b⟩=>both a (b.elim id id),fun ⟨a,b⟩=>both b a⟩
theorem yBS {ps:List FP}:∀ (pairs:List (Nat×Nat)),yjN ps pairs=true→∀ i j,(i,j)∈pairs→∃ p q,ps[i]?=some p∧ps[j]?=some q∧yrn p q=false
 | [],_,i,j,h=>by simp at h
 | (a,b)::r,h,i,j,hm=>by
  simp only [yjN,qAd] at h
  rcases qAr.1 hm with e | hm
  ·cases e
   have h1:=h.1
   split at h1
   ·rename_i p q hp hq;exact ⟨p,q,hp,hq,by simpa using h1⟩
   ·cases h1
  ·exact yBS r h.2 i j hm
theorem yqv {d k:Nat} {x:FV}:∀ (F:Frm),noBp F d=true→(∀ off,x≠.bp d off)→noBp (fset F k x) d=true
 | [],_,hx=>by
  cases x with
  | bp s off=>simp only [fset,noBp,Bool.and_true,qA2,beq_eq_false_iff_ne];exact fun e=>hx off (by rw [e])
  | _=>simp [fset,noBp]
 | (j,y)::r,h,hx=>by
  have hy:noBp r d=true∧∀ (z:FV),noBp ((j,z)::r) d=(match z with | .bp s _=>!(s == d)&&noBp r d | _=>noBp r d):=by
   refine ⟨?_,fun z=>by cases z <;> rfl⟩
   cases y <;> simp [noBp] at h <;> first | exact h | exact h.2
  have hput:∀ (j:Nat) (r:Frm),noBp r d=true→noBp ((j,x)::r) d=true:=by
   intro j r hr
   cases x with
   | bp s off =>
    simp only [noBp,hr,Bool.and_true,qA2,beq_eq_false_iff_ne]
    exact fun e=>hx off (by rw [e])
   | _=>simpa [noBp] using hr
  simp only [fset]
  split
  ·exact hput _ _ h
  ·split
   ·exact hput _ _ hy.1
   ·have ih:=yqv (k:=k) r hy.1 hx
    cases y <;> simp [noBp] at h ⊢ <;> first | exact ih | exact ⟨h.1,ih⟩
theorem ytE {d:Nat}:∀ {l:List AO} {o:AO},o∈l→o.dst=some d→1≤yhg d l
 | x::r,o,h,hd=>by
  simp only [yhg]
  rcases qAr.1 h with rfl | h
  ·simp [hd]
  ·have:=ytE h hd;omega
theorem yyz:∀ (l:List AO) (F:Frm) (H:Hp) (T:Frm×Hp),yqu (yji E call) l (F,H)=some T →
  (∀ o∈l,∀ d,ysd o=some d→noBp F d=true∧fget F d=none∧yhg d l=1)→ygs E call l F H=some T
 | [],F,H,T,h,_=>by simpa [yqu,ygs] using h
 | o::r,F,H,T,h,hf=>by
  simp only [yqu] at h
  split at h
  ·rename_i S1 hs
   obtain ⟨F1,H1⟩:=S1
   have hboth:yjM E call F H o=some (F1,H1)∧∀ d,noBp F d=true→fget F d=none→o.dst≠some d→noBp F1 d=true∧fget F1 d=none:=by
    unfold yji at hs
    simp only [] at hs
    unfold yjM
    split at hs
    ·cases hs
    ·rename_i hg
     refine ⟨hs,fun d h1 h2 h3=>?_⟩
     cases hdst:o.dst with
     | none=>rw [hdst] at hs;cases hs;exact ⟨h1,h2⟩
     | some d' =>
      rw [hdst] at hs;cases hs
      refine ⟨yqv _ h1 (fun off e=>by cases e),?_⟩
      rw [yc5,if_neg (fun e=>h3 (by rw [hdst,e]))];exact h2
    ·rename_i hg
     split at hs
     ·cases hs
     ·rename_i out x bx H2 hout
      simp only [qA4] at hs ⊢
      obtain ⟨F2,hp,e⟩:=hs
      refine ⟨⟨F2,yJH hp fun row d hx hd=>?_,e⟩,fun d h1 h2 h3=>?_⟩
      ·obtain ⟨hb1,hb2⟩:=yJG hout hx
       have hb2':bx=none:=hb2
       rw [hb2']
       exact (hf o (by simp) d (hb1.trans hd)).1
      ·cases e
       have hbx:noBp (ygp F bx) d=true∧fget (ygp F bx) d=none:=by
        cases bx with
        | none=>exact ⟨h1,h2⟩
        | some y =>
         obtain ⟨s,row⟩:=y
         obtain ⟨_,row0,hrow0⟩:=yFe hout rfl
         have hne:d≠s:=fun e=>by rw [e,hrow0] at h2;cases h2
         refine ⟨yqv _ h1 (fun off e=>by cases e),?_⟩
         simp only [ygp,yc5,if_neg hne]
         exact h2
       have hxbp:∀ off,x≠some (.bp d off):=by
        intro off e
        rcases yK4 hout e with ⟨row,hr⟩ | hr
        ·rw [hr] at h2;cases h2
        ·rw [hr] at h1;cases h1
       cases hdst:o.dst with
       | none =>
        rw [hdst] at hp
        cases x with
        | none=>simp only [yhf,qAg] at hp;subst hp;exact hbx
        | some fv=>cases fv <;> simp only [yhf,qAg] at hp <;> first | (subst hp;exact hbx) | cases hp
       | some d' =>
        have hne:d≠d':=fun e=>h3 (by rw [hdst,e])
        rw [hdst] at hp
        cases x with
        | none =>
         simp only [yhf,qAg] at hp;subst hp
         exact ⟨ylT _ hbx.1,by rw [yg1,if_neg hne];exact hbx.2⟩
        | some fv =>
         simp only [yhf,qAg] at hp;subst hp
         exact ⟨yqv _ hbx.1 (fun off e=>hxbp off (by rw [e])),by rw [yc5,if_neg hne];exact hbx.2⟩
   obtain ⟨hstep,hkeep⟩:=hboth
   simp only [ygs,hstep]
   refine yyz r F1 H1 T h fun o' ho' d hd=>?_
   obtain ⟨h1,h2,h3⟩:=hf o' (by simp [ho']) d hd
   have hdst:o'.dst=some d:=by
    unfold ysd at hd
    split at hd <;> first | exact hd | cases hd
   have hpos:=ytE ho' hdst
   simp only [yhg] at h3
   have hne:o.dst≠some d:=by
    intro e
    rw [if_pos e] at h3;omega
   rw [if_neg hne] at h3
   obtain ⟨h4,h5⟩:=hkeep d h1 h2 hne
   exact ⟨h4,h5,by omega⟩
  ·cases h
theorem ywA {all:List AO}:∀ (l:List AO),yqk F all l=true→∀ o∈l,∀ d,ysd o=some d→noBp F d=true∧fget F d=none∧yhg d all=1
 | [],_,o,h,_,_=>by simp at h
 | x::r,h,o,ho,d,hd=>by
  simp only [yqk,qAd] at h
  rcases qAr.1 ho with rfl | ho
  ·have h1:=h.1
   rw [hd] at h1
   simp only [qAd,Option.isNone_iff_eq_none,beq_iff_eq] at h1
   exact ⟨h1.1.1,h1.1.2,h1.2⟩
  ·exact ywA r h.2 o ho d hd
theorem ywB (d:Nat) (l:List AO):yhg d l=l.countP (fun o=>o.dst == some d):=by
 induction l with
 | nil=>rfl
 | cons o r ih =>
  simp only [yhg,List.countP_cons,ih]
  by_cases h:o.dst=some d
  ·simp [h];omega
  ·simp [h]
end
theorem yru (o:Oper):yjp o=yim o:=by
 unfold yjp yim
 congr 1
 funext e
 unfold Region.binds
 cases e.ground <;> simp
def yBT (es acc:List Nat) (s:Nat):Nat:=es.foldl (fun s i=>s|||2 ^ i|||acc.getD i 0) s
theorem yBU (acc:List Nat) (b:Nat):∀ (es:List Nat) (s:Nat),(yBT es acc s).testBit b=true→s.testBit b=true∨∃ i∈es,b=i∨(acc.getD i 0).testBit b=true
 | [],s,h=>.inl h
 | i::r,s,h=>by
  have h':(yBT r acc (s|||2 ^ i|||acc.getD i 0)).testBit b=true:=h
  rcases yBU acc b r _ h' with h1 | ⟨j,h1,h2⟩
  ·rw [Nat.testBit_or,Nat.testBit_or,qCc,qCc] at h1
   rcases h1 with (h1 | h1) | h1
   ·exact .inl h1
   ·right
    rw [Nat.testBit_two_pow] at h1
    exact ⟨i,by simp,.inl (by simpa using (of_decide_eq_true h1).symm)⟩
   ·exact .inr ⟨i,by simp,.inr h1⟩
  ·exact .inr ⟨j,by simp [h1],h2⟩
theorem ysm:∀ (l:List Oper) (acc:List Nat),(ygt l acc).length=acc.length+l.length
 | [],acc=>by simp [ygt]
 | o::r,acc=>by simp only [ygt];rw [ysm r];simp;omega
theorem ysn:∀ (l:List Oper) (acc:List Nat) (e:Nat),e<acc.length→(ygt l acc).getD e 0=acc.getD e 0
 | [],acc,e,_=>rfl
 | o::r,acc,e,h=>by
  simp only [ygt]
  rw [ysn r _ e (by simp;omega)]
  simp [qA8,h]
theorem yyA:∀ (l:List Oper) (acc:List Nat) (k:Nat) (o:Oper),l[k]?=some o→∃ acc',(ygt l acc).getD (acc.length+k) 0=yBT (yjp o) acc' 0∧∀ e,(acc'.getD e 0≠0→e<acc.length+k)∧(e<acc.length+k→acc'.getD e 0=(ygt l acc).getD e 0)
 | [],acc,k,o,h=>by simp at h
 | x::r,acc,k,o,h=>by
  cases k with
  | zero =>
   simp only [List.getElem?_cons_zero,qAg] at h
   subst h
   refine ⟨acc,?_,fun e=>⟨fun hne=>?_,fun he=>(ysn _ acc e (by simpa using he)).symm⟩⟩
   ·simp only [ygt,Nat.add_zero]
    rw [ysn r _ acc.length (by simp)]
    simp [yBT]
   ·rcases qA5 e acc.length with h1 | h1
    ·simpa using h1
    ·rw [qAb,qAn h1] at hne;simp at hne
  | succ k =>
   simp only [List.getElem?_cons_succ] at h
   obtain ⟨acc',h1,h2⟩:=yyA r (acc++[yBT (yjp x) acc 0]) k o h
   have hl:(acc++[yBT (yjp x) acc 0]).length+k=acc.length+(k+1):=by simp;omega
   rw [hl] at h1 h2
   exact ⟨acc',h1,h2⟩
theorem yrv {l:List Oper} (h:ylY l=true):∀ (i:Nat) (o:Oper),l[i]?=some o→∀ k∈yjp o,k<i:=by
 intro i o ho k hk
 simp only [ylY,qCa,List.mem_range] at h
 have hi:i<l.length:=by
  rcases qA5 i l.length with h1 | h1
  ·exact h1
  ·rw [qAn h1] at ho;cases ho
 have:=h i hi
 rw [ho] at this
 simp only [qCa,decide_eq_true_eq] at this
 exact this k hk
theorem ytF {ops:Array Oper} {σ:List Nat} (hback:ylY ops.toList=true) (hσ:∀ a j b,σ=a++j::b→∀ o,ops[j]?=some o→∀ k∈yim o,k∈a) :
  ∀ (j:Nat) (a b:List Nat) (i:Nat),σ=a++j::b→j<ops.size→((ygt ops.toList []).getD j 0).testBit i=true→i∈a:=by
 intro j
 induction j using Nat.strongRecOn with
 | _ j ih =>
  intro a b i e hj hbit
  have hoj:ops.toList[j]?=some ops[j]:=by simp [hj]
  obtain ⟨acc',h1,h2⟩:=yyA ops.toList [] j _ hoj
  simp only [qAo,qAt] at h1 h2
  rw [h1] at hbit
  rcases yBU acc' i (yjp ops[j]) 0 hbit with h3 | ⟨k,hk,h3⟩
  ·simp at h3
  ·have hka:k∈a:=hσ a j b e ops[j] (by simp [hj]) k (by rw [← yru];exact hk)
   rcases h3 with rfl | h3
   ·exact hka
   ·have hkj:k<j:=yrv hback j _ hoj k hk
    obtain ⟨a1,a2,ea⟩:=List.append_of_mem hka
    rw [(h2 k).2 hkj] at h3
    have:=ih k hkj a1 (a2++j::b) i (by rw [e,ea];simp) (by omega) h3
    rw [ea];simp [this]
theorem yrw {cl:List Nat} {i j:Nat} (hij:i<j) (hj:j<cl.length) (hb:(cl.getD j 0).testBit i=false):(i,j)∈ylX cl:=by
 simp only [ylX,List.mem_flatMap,List.mem_range,List.mem_filterMap]
 exact ⟨j,hj,i,hij,by rw [hb];rfl⟩
section
variable {P:Program} {E:Env}
theorem yHf (hE:EO P E) (hm:P.follows .mixedOrders=true):∀ call,ybl P E call→yyu P E call:=by
 intro call hc ro nt base g F H a w loc ops l F' H' id hro hl hd hb h hr hL hdf
 obtain ⟨hlen,hget⟩:=yiC _ _ hl
 have hsz:l.length=ops.size:=by simpa using hlen
 refine wpIn_region_draw fun t=>?_
 have hsched:Region.schedule (P.follows .mixedOrders) ops t=Region.linearise.go .any ops ops.size t (Array.replicate ops.size false) []:=by
  rw [hm];rfl
 rw [hsched]
 have hcount:(List.range ops.size).countP (fun i=>!(Array.replicate ops.size false).getD i true)≤ops.size:=by
  have:=List.countP_le_length (p:=fun i=>!(Array.replicate ops.size false).getD i true) (l:=List.range ops.size)
  simpa using this
 obtain ⟨hmem,hnd,hord⟩:=yC5 ops (fun i o ho k hk=>yrv hb i o (by simpa using ho) k (by rw [yru];exact hk)) ops.size t (Array.replicate ops.size false) (by simp) hcount
 revert hmem hnd hord
 generalize Region.linearise.go .any ops ops.size t (Array.replicate ops.size false) []=σ
 intro hmem hnd hord
 have hmem':∀ i,i∈σ↔i<ops.size:=by
  intro i
  rw [← hmem i]
  refine ⟨fun x=>x.1,fun x=>⟨x,?_⟩⟩
  simp [x]
 have hord':∀ a j b,σ=a++j::b→∀ o,ops[j]?=some o→∀ k∈yim o,k∈a:=by
  intro a j b e o ho k hk
  rcases hord a j b e o ho k hk with h1 | h1
  ·simp only [qBk,Array.getElem?_replicate] at h1
   split at h1 <;> simp at h1
  ·exact h1
 have hperm:σ.Perm (List.range ops.size):=(List.perm_ext_iff_of_nodup hnd List.nodup_range).2 fun i=>by rw [hmem' i,List.mem_range]
 have hlperm:(σ.filterMap (l[·]?)).Perm l:=by
  have:=hperm.filterMap (l[·]?)
  rw [← hsz,yiY] at this
  exact this
 have hrd:Rel E nt g F H a.tmps { w with drawn:=w.drawn+1 }:=hr.drew
 have hclean:∀ (l:List AO) (F:Frm) s x,fget (ymL F l) s=some x→fget F s=some x:=by
  intro l
  induction l with
  | nil=>intro F s x e;exact e
  | cons o r ih =>
   intro F s x e
   simp only [ymL] at e
   split at e
   ·rename_i d _
    have:=ih _ s x e
    rw [yg1] at this
    split at this
    ·cases this
    ·exact yse F d s x this
   ·exact ih _ s x e
 have hrun:∃ F0 F2 H2,(∀ s x,fget F0 s=some x→fget F s=some x)∧ygs E call (σ.filterMap (l[·]?)) F0 H=some (F2,H2)∧H2=H'∧∀ s,fget F2 s=fget F' s:=by
  unfold yjO at h
  cases hp:ylX (ygt ops.toList []) with
  | nil =>
   rw [hp] at h
   have hsort:σ=List.range ops.size:=by
    have key:∀ (τ:List Nat) (k:Nat),(∀ a j b,τ=a++j::b→∀ i,k≤i→i<j→i∈a)→τ.Nodup→(∀ i,i∈τ↔k≤i∧i<ops.size)→k≤ops.size→τ=List.range' k (ops.size-k):=by
     intro τ
     induction τ with
     | nil =>
      intro k _ _ h3 hk
      have:¬(k<ops.size):=fun hlt=>by have:=(h3 k).2 ⟨qAk k,hlt⟩;cases this
      have:ops.size-k=0:=by omega
      rw [this];rfl
     | cons x τ ih =>
      intro k h1 h2 h3 hk
      have hx:=(h3 x).1 (by simp)
      have hxk:x=k:=by
       rcases qA5 k x with hlt | hge
       ·have:=h1 [] x τ rfl k (qAk k) hlt;cases this
       ·omega
      subst hxk
      have:ops.size-x=(ops.size-(x+1))+1:=by omega
      rw [this,List.range'_succ]
      congr 1
      rw [List.nodup_cons] at h2
      refine ih (x+1) (fun a j b e i hi hij=>?_) h2.2 (fun i=>?_) (by omega)
      ·have:=h1 (x::a) j b (by rw [e];rfl) i (by omega) hij
       rcases qAr.1 this with e2 | e2
       ·omega
       ·exact e2
      ·have h4:=h3 i
       rw [qAr] at h4
       constructor
       ·intro hi
        have h5:=h4.1 (.inr hi)
        have:i≠x:=fun e=>h2.1 (e ▸ hi)
        omega
       ·intro hi
        rcases h4.2 ⟨by omega,hi.2⟩ with e | e
        ·omega
        ·exact e
    have:=key σ 0 (fun a j b e i _ hij=>?_) hnd (fun i=>by rw [hmem' i];simp) (qBg _)
    ·rw [this,Nat.sub_zero,List.range_eq_range']
    ·have hj:j<ops.size:=(hmem' j).1 (by rw [e];simp)
     refine ytF hb hord' j a b i e hj ?_
     cases hbit:((ygt ops.toList []).getD j 0).testBit i
     ·have:=yrw hij (by rw [ysm];simpa using hj) hbit
      rw [hp] at this;cases this
     ·rfl
   rw [hsort,← hsz,yiY]
   exact ⟨F,F',H',fun _ _ e=>e,h,rfl,fun _=>rfl⟩
  | cons pr prs =>
   rw [hp] at h
   simp only [] at h
   split at h
   ·rename_i F1 H1 ps hps
    split at h
    ·rename_i hok
     cases h
     rw [← hp] at hok
     have hcl:=hclean l F
     obtain ⟨F0,hF0⟩:∃ F0,F0=ymL F l:=⟨_,rfl⟩
     rw [← hF0] at hps hok hcl
     obtain ⟨s1,s2,s3,s4⟩:=yrt _ _ _ _ _ _ hps
     let st:Nat→Frm×Hp:=fun i=>stAt E call l i (F0,H)
     let R:Nat→Loc→Prop:=fun i x=>∃ p,ps[i]?=some p∧RdP p x
     let W:Nat→Loc→Prop:=fun i x=>∃ p,ps[i]?=some p∧WrP p x
     have hlocal:Local look (yji E call) l st R W:=by
      refine ⟨fun i o ho=>?_,fun i o ho S' hag=>?_⟩
      ·exact (s4 i o ho).1
      ·obtain ⟨h1,h2⟩:=s4 i o ho
       obtain ⟨T',k1,k2,k3⟩:=yFg h1 S' (fun x hx=>hag x ⟨_,h2,hx⟩)
       refine ⟨T',k1,fun x ⟨p,e,hx⟩=>?_,fun x hx=>k3 x fun hw=>hx ⟨_,h2,hw⟩⟩
       rw [h2] at e;cases e
       exact k2 x hx
     have hfree:∀ i j,i<j→(i∈σ∧j∈([]:List Nat)∨(∃ a b c,σ=a++j::(b++i::c)))→Free R W i j:=by
      intro i j hij hcase
      rcases hcase with ⟨_,hx⟩ | ⟨a,b,c,e⟩
      ·cases hx
      ·have hj:j<ops.size:=(hmem' j).1 (by rw [e];simp)
       have hbit:((ygt ops.toList []).getD j 0).testBit i=false:=by
        cases hbit:((ygt ops.toList []).getD j 0).testBit i
        ·rfl
        ·have hia:=ytF hb hord' j a _ i e hj hbit
         rw [e,List.nodup_append] at hnd
         exact absurd rfl (hnd.2.2 i hia i (by simp))
       obtain ⟨p,q,hp1,hq1,hcl⟩:=yBS _ hok.1 i j (yrw hij (by rw [ysm];simpa using hj) hbit)
       intro x
       obtain ⟨f1,f2⟩:=yAq hcl x
       refine ⟨fun ⟨⟨p',e1,w1⟩,r1⟩=>f1 ?_,fun ⟨⟨q',e1,w1⟩,⟨p',e2,r1⟩⟩=>f2 ?_⟩
       ·rw [hp1] at e1;cases e1
        refine ⟨w1,r1.imp (fun ⟨q',e2,r2⟩=>?_) (fun ⟨q',e2,r2⟩=>?_)⟩
        ·rw [hq1] at e2;cases e2;exact r2
        ·rw [hq1] at e2;cases e2;exact r2
       ·rw [hq1] at e1;cases e1
        rw [hp1] at e2;cases e2
        exact ⟨w1,r1⟩
     obtain ⟨T',k1,k2⟩:=hlocal.perm σ [] (F0,H) (by simpa using hnd) (fun i=>by rw [hsz,qBl,hmem' i]) hfree (fun x _=>by show look (F0,H) x=look (st 0) x;rw [show st 0=(F0,H) from s2]) (fun x i hi=>by cases hi)
     have hfin:st l.length=(F',H'):=s3
     rw [hfin] at k2
     have hfresh:=yyz _ F0 H T' k1 fun o ho d hdo=>by
      obtain ⟨b1,b2,b3⟩:=ywA l hok.2 o (hlperm.mem_iff.1 ho) d hdo
      refine ⟨b1,b2,?_⟩
      rw [ywB,hlperm.countP_eq,← ywB];exact b3
     refine ⟨F0,T'.1,T'.2,hcl,hfresh,qBs fun k=>?_,fun s=>?_⟩
     ·have:=k2 (.bk k);simpa [look] using this
     ·have:=k2 (.sl s);simpa [look] using this
    ·cases h
   ·cases h
 obtain ⟨F0,F2,H2,h0,h1,rfl,h3⟩:=hrun
 refine yyv (F':=F2) (H':=H2) hE hc hl hd hro σ g F0 H a _ (fun i hi=>(hmem' i).1 hi) (hrd.less h0) (hL.nx (Nx.drew g H w)) h1 ?_
 intro a' w' g' d1 n1 r1
 exact ⟨trivial,g',(Nx.drew g H w).trans n1,r1.less fun s x hs=>by rw [h3 s];exact hs,(hdf.nx ((Nx.drew g H w).trans n1)).go d1⟩
theorem yvm (hE:EO P E) (hm:P.follows .mixedOrders=true) (n:Nat):ybl P E (yca E n) :=
 (yHb (fun _ hE=>yHf hE hm) n E hE).2.2.2
end
def topV (E:Env) (n f:Nat) (args:List PV):Option PV :=
 match yca E n f args [] with
 | some (r,H)=>purN (E.nl f) H r
 | none=>none
section
variable {P:Program} {E:Env}
theorem yIm (hE:EO P E) (hm:P.follows .mixedOrders=true) {n f:Nat} {args:List PV} {q:PV} (h:topV E n f args=some q):ymb P E.glob f args q:=by
 intro I w vs himm hgl hv
 unfold topV at h
 split at h
 ·rename_i r H hin
  exact run_pure (yvm hE hm n) himm hgl hv hin h
 ·cases h
def yyB:List (Nat×AFn)→Nat→Option AFn
 | [],_=>none
 | (k,a)::r,n=>bif Nat.beq k n then some a else yyB r n
def yyC (P:Program):List (Nat×AFn)→Prop
 | []=>True
 | (n,a)::r=>(∃ f loc fg,P.funcs[n]?=some f∧yaq P loc fg f=some a)∧yyC P r
theorem yyD:∀ (l:List (Nat×AFn)),yyC P l→∀ n a,yyB l n=some a→∃ f loc fg,P.funcs[n]?=some f∧yaq P loc fg f=some a
 | [],_,_,_,h=>by simp [yyB] at h
 | (k,b)::r,hl,n,a,h=>by
  simp only [yyC] at hl
  simp only [yyB] at h
  cases hc:Nat.beq k n with
  | true =>
   rw [hc] at h
   simp only [cond_true,qAg] at h
   have:=qAj hc
   subst this;subst h
   exact hl.1
  | false =>
   rw [hc] at h
   exact yyD r hl.2 n a (by simpa using h)
def memN:List Nat→Nat→Bool
 | [],_=>false
 | k::r,n=>bif Nat.beq k n then true else memN r n
def u64 (n:Nat):PV:=.int .u64 (n:Int)
def sumC (add sub:Nat) (n:Nat) (as:List PV):Option PV :=
 match as with
 | [.int .u64 a,.int .u64 b,.int .u64 c] =>
  bif Nat.beq n add&&Nat.ble c.toNat 1 then some (.tup [u64 ((a.toNat+b.toNat+c.toNat) % 18446744073709551616),u64 ((a.toNat+b.toNat+c.toNat) / 18446744073709551616)])
  else bif Nat.beq n sub&&Nat.ble c.toNat 1 then some (.tup [u64 ((a.toNat+18446744073709551616-b.toNat-c.toNat) % 18446744073709551616),u64 (bif Nat.ble (b.toNat+c.toNat) a.toNat then 0 else 1)])
  else none
 | _=>none
def yyE:Array Value→Sem Value:=fun args=>do
 let (x, y, b) ← Extern.MathBitsCarry.three "Sub64" args
 pure (Extern.MathBitsCarry.pair ((x+Extern.MathBitsCarry.m64-y-b) % Extern.MathBitsCarry.m64) (if x<y+b then 1 else 0))
theorem yHg (x y:Int) (b:Nat) (hb:b≤1) (w:World) :
  (yyE #[.int .u64 x,.int .u64 y,.int .u64 b]).run P w =
   .ok (.tuple #[.int .u64 (((x.toNat+18446744073709551616-y.toNat-b) % 18446744073709551616:Nat):Int),.int .u64 ((if x.toNat<y.toNat+b then 1 else 0:Nat):Int)]) w:=by
 have:b=0∨b=1:=by omega
 rcases this with rfl | rfl <;> rfl
theorem yHh (x y:Int) (b:Nat) (hb:b≤1) (w:World) :
  (add64Entry #[.int .u64 x,.int .u64 y,.int .u64 b]).run P w =
   .ok (.tuple #[.int .u64 (((x.toNat+y.toNat+b) % 18446744073709551616:Nat):Int),.int .u64 (((x.toNat+y.toNat+b) / 18446744073709551616:Nat):Int)]) w:=by
 have:b=0∨b=1:=by omega
 rcases this with rfl | rfl <;> rfl
theorem yyF {I:Nat→Prop} {w:World} {a b c:Int} {vs:List Value} (h:VPs I w [.int .u64 a,.int .u64 b,.int .u64 c] vs):vs=[.int .u64 a,.int .u64 b,.int .u64 c]:=by
 simp only [VPs,VP1,RC,qA1,and_true] at h
 obtain ⟨v,r,rfl,⟨rfl,_⟩,v2,r2,rfl,⟨rfl,_⟩,v3,r3,rfl,⟨rfl,_⟩,rfl⟩:=h
 rfl
structure IsExtern (P:Program) (f:FuncId) (e:Array Value→Sem Value):Prop where
 h : ∃ fn, P.funcs[f]? = some fn ∧ (fn.name == "runtime.NumGoroutine") = false ∧ fn.body.isNone = true ∧ Extern.findNext fn = none ∧ Extern.find fn = some e
theorem IsExtern.run {f:FuncId} {e:Array Value→Sem Value} (h:IsExtern P f e) (args:Array Value) (w:World):(callFunc f args).run P w=((e args).run P w).andThen fun v w'=>.ok (.value v) w':=by
 obtain ⟨fn,h1,h2,h3,h4,h5⟩:=h.h
 exact run_callFunc_extern h1 h2 h3 h4 h5 args w
theorem yIn (n:Nat) (h:n<18446744073709551616):inK .u64 (n:Int):=by
 have h0:IntKind.u64.min=0:=by decide
 have h1:IntKind.u64.max=18446744073709551615:=by decide
 exact ⟨by rw [h0];omega,by rw [h1];omega⟩
theorem yyG {G:Nat→Option PV} {f:FuncId} {as:List PV} {a b:Nat} (ha:a<18446744073709551616) (hb:b<18446744073709551616)
  (h:∀ (I:Nat→Prop) (w:World) (vs:List Value),VPs I w as vs→(callFunc f vs.toArray).run P w=.ok (.value (.tuple #[.int .u64 (a:Int),.int .u64 (b:Int)])) w):ymb P G f as (.tup [u64 a,u64 b]):=by
 intro I w vs _ _ hv
 unfold yiB
 rw [h I w vs hv]
 refine ⟨Bel.refl _ _,?_⟩
 simp only [VP,VPs,VP1,RC,u64]
 exact ⟨_,rfl,_,_,rfl,⟨rfl,yIn a ha⟩,_,_,rfl,⟨rfl,yIn b hb⟩,rfl⟩
theorem yIo {G:Nat→Option PV} {add sub:Nat} (ha:IsExtern P add add64Entry) (hs:IsExtern P sub yyE):∀ n as r,sumC add sub n as=some r→ymb P G n as r:=by
 intro n as r h
 unfold sumC at h
 split at h
 ·rename_i a b c
  have key:∀ (x y:Int) (I:Nat→Prop) (w:World) (vs:List Value),VPs I w [.int .u64 a,.int .u64 b,.int .u64 c] vs→a.toNat<18446744073709551616∧b.toNat<18446744073709551616∧0≤c:=by
   intro x y I w vs hv
   simp only [VPs,VP1,RC,inK] at hv
   obtain ⟨v,r,-,⟨-,h1⟩,v2,r2,-,⟨-,h2⟩,v3,r3,-,⟨-,h3⟩,-⟩:=hv
   have e1:IntKind.u64.max=18446744073709551615:=by decide
   have e0:IntKind.u64.min=0:=by decide
   rw [e1] at h1 h2;rw [e0] at h3
   exact ⟨by omega,by omega,h3.1⟩
  cases h1:(Nat.beq n add&&Nat.ble c.toNat 1) with
  | true =>
   rw [h1] at h
   simp only [cond_true,qAg] at h
   simp only [qAd] at h1
   have e:=qAj h1.1
   have hc:=qB5 h1.2
   subst e;subst h
   intro I w vs hI hgl hv
   obtain ⟨la,lb,-⟩:=key 0 0 I w vs hv
   refine yyG (Nat.mod_lt _ (by omega)) (by omega) (fun I w vs hv=>?_) I w vs hI hgl hv
   have h0:=(key 0 0 I w vs hv).2.2
   have ec:c=(c.toNat:Int):=by omega
   rw [yyF hv,ha.run,ec]
   exact congrArg (fun r=>Result.andThen r fun v w'=>Result.ok (Next.value v) w') (yHh a b c.toNat hc w)
  | false =>
   rw [h1] at h
   simp only [cond_false] at h
   cases h2:(Nat.beq n sub&&Nat.ble c.toNat 1) with
   | true =>
    rw [h2] at h
    simp only [cond_true,qAg] at h
    simp only [qAd] at h2
    have e:=qAj h2.1
    have hc:=qB5 h2.2
    subst e;subst h
    refine yyG (Nat.mod_lt _ (by omega)) (by cases Nat.ble (b.toNat+c.toNat) a.toNat <;> simp) (fun I w vs hv=>?_)
    have:(if a.toNat<b.toNat+c.toNat then 1 else 0:Nat)=(bif Nat.ble (b.toNat+c.toNat) a.toNat then 0 else 1):=by
     cases hh:Nat.ble (b.toNat+c.toNat) a.toNat with
     | true=>have:=qB5 hh;simp;omega
     | false =>
      have:¬(b.toNat+c.toNat≤a.toNat):=fun hle=>by rw [Nat.ble_eq_true_of_le hle] at hh;cases hh
      simp;omega
    have h0:=(key 0 0 I w vs hv).2.2
    have ec:c=(c.toNat:Int):=by omega
    rw [← this,yyF hv,hs.run,ec]
    exact congrArg (fun r=>Result.andThen r fun v w'=>Result.ok (Next.value v) w') (yHg a b c.toNat hc w)
   | false=>rw [h2] at h;cases h
 ·cases h
def yON (add sub:Nat) (tab:List (Nat×AFn)) (qui:List Nat):Env:={ glob:=fun _=>none,sum:=sumC add sub,fns:=yyB tab,frz:=fun _=>false,qui:=memN qui }
theorem yMV {add sub:Nat} {tab:List (Nat×AFn)} {qui:List Nat} (ha:IsExtern P add add64Entry) (hs:IsExtern P sub yyE) (ht:yyC P tab):EO P (yON add sub tab qui) where
 sum:=fun n as r h=>yIo ha hs n as r h
 fns:=fun n fn h=>yyD tab ht n fn h
 eff:=fun _ _ _ _ _ _ _ h=>by cases h
 dn:=fun _ h=>by cases h
 top:=fun _ _=>rfl
 yl:=fun _ _ _ _ _ _ h=>by cases h
end
end Go.Pf
namespace Go.Pf
open Go
def cbr (b:Bool) (x y:Prop):Prop:=match b with | true=>x | false=>y
def asr (b:Bool) (x:Prop):Prop:=match b with | true=>x | false=>False
theorem yhk {b:Bool} {x y:Prop}:cbr b x y↔(b=true→x)∧(b=false→y):=by cases b <;> simp [cbr]
theorem yar {b:Bool} {x:Prop}:asr b x↔b=true∧x:=by cases b <;> simp [asr]
inductive Cs where
 | i (k:IntKind)
 | b
 | d
 deriving DecidableEq,Inhabited
inductive Sh where
 | raw
 | one (c:Cs)
 | agg (l:List Cs)
 deriving Inhabited
def yac:PV→Int
 | .int _ n=>n
 | _=>0
def yIp:PV→Bool
 | .bool b=>b
 | _=>false
def yaE:PV→List PV
 | .data l=>l
 | _=>[]
def yaj (r:PV) (j:Nat):PV:=r.cells.getD j .nils
def yBV:Cs→PV→PV
 | .i k,x=>.int k (yac x)
 | .b,x=>.bool (yIp x)
 | .d,x=>.data (yaE x)
def yFh:List Cs→PV→Nat→List PV
 | [],_,_=>[]
 | c::t,r,j=>yBV c (yaj r j)::yFh t r (j+1)
def expl:Sh→PV→PV
 | .raw,r=>r
 | .one c,r=>yBV c r
 | .agg l,r=>.agg (yFh l r 0)
def yhl:Cs→PV→Bool
 | .i k,.int l _=>decide (k=l)
 | .b,.bool _=>true
 | .d,.data _=>true
 | _,_=>false
def yBW:List Cs→List PV→Bool
 | [],[]=>true
 | c::t,x::r=>yhl c x&&yBW t r
 | _,_=>false
def conf:Sh→PV→Bool
 | .raw,_=>true
 | .one c,x=>yhl c x
 | .agg l,.agg cs=>yBW l cs
 | .agg _,_=>false
theorem yyH:∀ (c:Cs) (x:PV),yhl c x=true→yBV c x=x
 | .i k,x,h=>by cases x <;> simp [yhl] at h;simp [yBV,yac,h]
 | .b,x,h=>by cases x <;> simp [yhl] at h;simp [yBV,yIp]
 | .d,x,h=>by cases x <;> simp [yhl] at h;simp [yBV,yaE]
theorem yyI:∀ (l:List Cs) (pre cs:List PV),yBW l cs=true→yFh l (.agg (pre++cs)) pre.length=cs
 | [],pre,cs,h=>by cases cs <;> simp [yBW] at h;simp [yFh]
 | c::t,pre,cs,h=>by
  cases cs with
  | nil=>simp [yBW] at h
  | cons x r =>
   simp only [yBW,qAd] at h
   have h1:yaj (.agg (pre++x::r)) pre.length=x:=by simp [yaj,PV.cells]
   have h2:=yyI t (pre++[x]) r h.2
   simp only [qAz,List.singleton_append,qAf,qBo] at h2
   simp only [yFh,h1,yyH c x h.1,h2]
theorem yBX:∀ (s:Sh) (r:PV),conf s r=true→expl s r=r
 | .raw,_,_=>rfl
 | .one c,x,h=>yyH c x h
 | .agg l,x,h=>by
  cases x with
  | agg cs=>have:=yyI l [] cs h;simpa [expl] using this
  | _=>simp [conf] at h
structure An where
 at_:Nat
 sh:Sh
 md:Nat
 deriving Inhabited
inductive TC where
 | skip
 | ops (l:List AO) (an:List An) (pairs:List (Nat×Nat)) (forget:List Nat)
 | seq (a b:TC)
 | cond (c:Opd) (a b:TC)
 | block (id:Nat) (b:TC)
 | loop (id:Nat) (b:TC)
 | lG (id:Nat) (b:TC)
 | exit (id:Nat)
 | ret
 | bad
 | rangeF (g:Opd) (f np:Nat) (ib:TC) (ps:List Nat) (as bd:TC)
 | yret (c:AC) (pre:List AO) (d:Nat) (y:Opd) (args:List Opd) (e:Nat) (fgt:List Nat)
 | cut (c:AC)
 deriving Inhabited
def erase:TC→AC
 | .skip=>.skip
 | .ops l _ ps fg=>.ops l ps fg
 | .seq a b=>.seq (erase a) (erase b)
 | .cond c a b=>.cond c (erase a) (erase b)
 | .block id b=>.block id (erase b)
 | .loop _ b=>.loop (erase b)
 | .lG _ b=>.lG (erase b)
 | .exit id=>.exit id
 | .ret=>.ret
 | .bad=>.bad
 | .rangeF g _ _ _ ps as bd=>.rangeF g ps (erase as) (erase bd)
 | .yret c pre d y args e fgt=>.yret c pre d y args e fgt
 | .cut c=>c
structure TFn where
 nparams:Nat
 results:List ARes
 body:TC
 deriving Inhabited
def TFn.fn (t:TFn):AFn:=⟨t.nparams,t.results,erase t.body⟩
def anOf:List An→Nat→An
 | [],_=>⟨0,.raw,0⟩
 | a::r,i=>bif Nat.beq a.at_ i then a else anOf r i
def yyJ:Nat→List PV→Hp→Option (PV×Hp):=fun _ _ _=>none
abbrev OK:=Option FV→Option (Nat×PV)→Hp→Prop
abbrev CK:=PV→List PV→Hp→(PV→Hp→Prop)→Prop
def wv (H:Hp) (K:OK) (p:PV):Prop:=K (some (.v p)) none H
def yFi (H:Hp) (x:PV) (K:PV→Hp→Prop):Prop :=
 match x with
 | .bool b=>K (.bool b) H
 | .int k n=>K (.int k n) H
 | .nils | .emp=>K (.data []) H
 | .data rows=>K (.data rows) H
 | .own id lo len ext _ =>
  (match H[id]? with
   | some b=>asr (decide (b.rows.length=ext)) (asr (decide (lo+len≤ext)) (asr b.pu (K (.data ((b.rows.drop lo).take len)) (H.set id { b with fz:=true }))))
   | none=>False)
 | _=>False
def yIq:Hp→List PV→(List PV→Hp→Prop)→Prop
 | H,[],K=>K [] H
 | H,x::r,K=>yFi H x fun y H'=>yIq H' r fun ys H''=>K (y::ys) H''
def yrx (H:Hp) (x:PV) (K:PV→Hp→Prop):Prop :=
 match x with
 | .agg cs=>yIq H cs fun ys H'=>K (.agg ys) H'
 | x=>yFi H x K
def yyK:Hp→List PV→(List PV→Hp→Prop)→Prop
 | H,[],K=>K [] H
 | H,x::r,K=>yrx H x fun y H'=>yyK H' r fun ys H''=>K (y::ys) H''
def yIr (H:Hp) (x:PV) (K:PV→Prop):Prop :=
 match x with
 | .tup ps=>yyK H ps fun qs _=>K (.tup qs)
 | x=>yrx H x fun q _=>K q
def yIs (H:Hp) (x:PV) (K:PV→Prop):Prop :=
 match x with
 | .ptr id ext i off=>(match H[id]? with
  | some b=>asr (decide (b.rows.length=ext)) (match b.rows[i]? with
   | some row=>yrx H row fun q _=>K (.eptr [q] 0 off)
   | none=>False)
  | none=>False)
 | .eptr rows i off=>K (.eptr rows i off)
 | x=>yrx H x fun q _=>K q
def yC6 (H:Hp):List PV→(List PV→Prop)→Prop
 | [],K=>K []
 | x::r,K=>yIs H x fun y=>yC6 H r fun ys=>K (y::ys)
def yyL (pu:Bool) (H:Hp) (x:PV) (K:PV→Hp→Prop):Prop:=match pu with | true=>yrx H x K | false=>K x H
def yBY (E:Env) (F:Frm) (pu:Bool) (esz:Nat):List PV→Hp→List (Nat×Opd)→(List PV→Hp→Prop)→Prop
 | rows,H,[],K=>K rows H
 | rows,H,(i,x)::r,K =>
  match evV E F x with
  | some p=>yyL pu H p fun q H'=>asr (Nat.beq q.cells.length esz&&Nat.blt i rows.length&&ydK q.cells) (yBY E F pu esz (rows.set i q) H' r K)
  | none=>False
def WBin (op:BinOp) (k k':IntKind) (a b:Int) (K:PV→Prop):Prop :=
 match op with
 | .quo=>asr (decide (k=k')) (asr (!decide (b=0)) (K (.int k (k.wrap (a.tdiv b)))))
 | .rem=>asr (decide (k=k')) (asr (!decide (b=0)) (K (.int k (a.tmod b))))
 | .shl=>asr (!decide (b<0)) (K (.int k (k.wrap (a*2 ^ (min b.toNat k.bits)))))
 | .shr=>asr (!decide (b<0)) (K (.int k (a.fdiv (2 ^ (min b.toNat k.bits)))))
 | op=>asr (decide (k=k')) (match binI op k a b with | some r=>K r | none=>False)
def yso (n:Nat) (j:Int) (K:Nat→Prop):Nat→Prop
 | 0=>False
 | m+1=>cbr (decide (j=((n-(m+1):Nat):Int))) (K (n-(m+1))) (yso n j K m)
def yFj:List PV→Bool
 | []=>true
 | .int .u8 _::r=>yFj r
 | _=>false
def WTab (agg:Bool) (n esz:Nat) (cs:List PV) (j:Int) (K:PV→Prop):Prop :=
 asr (!agg&&(Nat.beq esz 1&&(Nat.beq n cs.length&&yFj cs))) (asr (decide (0≤j)) (asr (decide (j<(n:Int))) (K (.int .u8 (yac (cs.getD j.toNat .nils))))))
def yK5 (H:Hp) (x:PV) (K:List PV→Prop):Prop :=
 match x with
 | .nils | .emp=>K []
 | .data rows=>K rows
 | .own id lo len ext _ =>
  (match H[id]? with
   | some b=>asr (decide (b.rows.length=ext)) (asr (decide (lo+len≤ext)) (K ((b.rows.drop lo).take len)))
   | none=>False)
 | _=>False
def yvn (H:Hp) (pu:Bool) (esz bytes:Nat) (rows:List PV) (K:PV→Hp→Prop):Prop :=
 asr (decide ((rows.length+64)*(bytes+1)≤room)) (K (.own H.length 0 rows.length rows.length none) (H++[⟨false,pu,esz,rows⟩]))
def WApp (md:Nat) (H:Hp) (pu:Bool) (esz bytes:Nat) (s:PV) (ys:List PV) (K:PV→Hp→Prop):Prop :=
 match s with
 | .nils=>cbr ys.isEmpty (K .nils H) (yvn H pu esz bytes ys K)
 | .emp=>cbr ys.isEmpty (K .emp H) (yvn H pu esz bytes ys K)
 | .own id lo len ext cap =>
  (match H[id]? with
   | some b =>
    asr (decide (b.rows.length=ext)) (asr (decide (b.pu=pu)&&decide (b.esz=esz)) (asr (decide (lo+len≤ext))
     (cbr ys.isEmpty (K (.own id lo len ext cap) H)
      (match cap with
       | some c =>
        let W1:=asr (!b.fz) (K (.own id lo (len+ys.length) ext cap) (H.set id { b with rows:=b.rows.take (lo+len)++(ys++b.rows.drop (lo+len+ys.length)) }))
        let W2:=yvn H pu esz bytes ((b.rows.drop lo).take len++ys) K
        (match md with
         | 9=>cbr (decide (len+ys.length≤c)) W1 W2
         | 2=>asr (!decide (len+ys.length≤c)) W2
         | _=>asr (decide (len+ys.length≤c)) W1)
       | none =>
        let W1:=K (.own id lo (len+ys.length) ext none) (H.set id { b with rows:=b.rows.take (lo+len)++(ys++b.rows.drop (lo+len+ys.length)) })
        let W3:=asr (decide (lo=0)) (asr (decide (len=ext)) (asr (decide ((ext+ys.length+64)*(bytes+1)≤room))
          (K (.own id 0 (b.rows++ys).length (b.rows++ys).length none) (H.set id { b with rows:=b.rows++ys }))))
        asr (!b.fz) (match md with
         | 9=>cbr (decide (lo+len+ys.length≤ext)) W1 W3
         | 1=>asr (decide (lo+len+ys.length≤ext)) W1
         | _=>asr (!decide (lo+len+ys.length≤ext)) W3)))))
   | none=>False)
 | _=>False
def yHi (H:Hp) (esz:Nat) (lo hi mx:Option Int) (x:PV) (K:PV→Prop):Prop :=
 match x with
 | .nils=>asr (decide (lo.getD 0=0)&&(decide (hi.getD 0=0)&&decide (mx.getD 0=0))) (K .nils)
 | .emp=>asr (decide (lo.getD 0=0)&&(decide (hi.getD 0=0)&&decide (mx.getD 0=0))) (K .emp)
 | .data rows =>
  let h:=hi.getD rows.length
  let l:=lo.getD 0
  (match mx with
   | none=>asr (decide (0≤l)) (asr (decide (l≤h)) (asr (decide (h≤rows.length)) (asr (decide (l=0)||yd7 esz rows) (K (.data ((rows.take h.toNat).drop l.toNat))))))
   | some m=>asr (decide (0≤l)) (asr (decide (l≤h)) (asr (decide (h≤m)) (asr (decide (m≤rows.length)) (asr (decide (l=0)||yd7 esz rows)
      (cbr (decide (l=m)) (K .emp) (K (.data ((rows.take h.toNat).drop l.toNat)))))))))
 | .own id lo0 len ext cap =>
  let h:=hi.getD len
  let l:=lo.getD 0
  (match H[id]? with
   | some b=>asr (b.esz == esz)
    (match mx with
     | none=>asr (decide (0≤l)) (asr (decide (l≤h)) (asr (decide (h≤len)||decide (h≤yx7 len cap)) (K (.own id (lo0+l.toNat) (h-l).toNat ext (cap.map fun c=>c-l.toNat)))))
     | some m=>asr (decide (0≤l)) (asr (decide (l≤h)) (asr (decide (h≤m)) (asr (decide (m≤len)||decide (m≤yx7 len cap)) (K (.own id (lo0+l.toNat) (h-l).toNat ext (some (m-l).toNat)))))))
   | none=>False)
 | _=>False
def WRow (sh:Sh) (rows:List PV) (i:Nat) (K:PV→Prop):Prop :=
 match sh with
 | .raw=>(match rows[i]? with | some r=>K r | none=>False)
 | sh=>asr (decide (i<rows.length)) (asr (conf sh (rows.getD i .nils)) (K (expl sh (rows.getD i .nils))))
def WOp (E:Env) (callK:CK) (a:An) (F:Frm) (H:Hp) (o:AOp) (K:OK):Prop :=
 match o with
 | .pick c x y =>
  (match evV E F c with
   | some (.bool t)=>cbr t (match evV E F x with | some p=>wv H K p | none=>False) (match evV E F y with | some p=>wv H K p | none=>False)
   | _=>False)
 | .bin op x y =>
  (match evV E F x,evV E F y with
   | some (.int k p),some (.int k' q)=>WBin op k k' p q (wv H K)
   | _,_=>False)
 | .load agg sz x =>
  (match ev E F x with
   | some (.v (.ptr id ext i off)) =>
    (match H[id]? with
     | some b=>asr (decide (b.rows.length=ext)) (WRow a.sh b.rows i fun row=>match ygr agg sz row off with | some p=>wv H K p | none=>False)
     | none=>False)
   | _=>(match yap E yyJ F H (.load agg sz x) with | some ⟨x,bx,H'⟩=>K x bx H' | none=>False))
 | .store sz x y =>
  (match ev E F x with
   | some (.v (.ptr id ext i off)) =>
    (match evV E F y with
     | some p =>
       (match H[id]? with
        | some b0 =>
         yyL b0.pu H p fun q H' =>
          (match H'[id]? with
           | some b=>asr (decide (b.rows.length=ext)) (asr (!b.fz) (WRow a.sh b.rows i fun row=>match yjn row off sz q with
            | some row'=>K none none (H'.set id { b with rows:=b.rows.set i row' })
            | none=>False))
           | none=>False)
        | none=>False)
     | none=>False)
   | _=>(match yap E yyJ F H (.store sz x y) with | some ⟨x,bx,H'⟩=>K x bx H' | none=>False))
 | .iad esz x i =>
  (match evV E F x,ygC E F i with
   | some (.data rows),some n =>
    asr (decide (0≤n)) (asr (decide (n<rows.length)) (asr (conf a.sh (rows.getD n.toNat .nils)) (asr (decide ((expl a.sh (rows.getD n.toNat .nils)).cells.length=esz)) (wv H K (.eptr [expl a.sh (rows.getD n.toNat .nils)] 0 0)))))
   | some (.own id lo len ext _),some n =>
    (match H[id]? with
     | some b=>asr (decide (0≤n)) (asr (decide (n<len)) (asr (decide (b.esz=esz)) (wv H K (.ptr id ext (lo+n.toNat) 0))))
     | none=>False)
   | _,_=>False)
 | .iadA n esz x i =>
  (match ev E F x,ygC E F i with
   | some (.bp s o),some j=>yso n j (fun k=>K (some (.bp s (o+k*esz))) none H) n
   | some (.v (.ptr id e r o)),some j=>yso n j (fun k=>wv H K (.ptr id e r (o+k*esz))) n
   | some (.v (.eptr rows r o)),some j=>yso n j (fun k=>wv H K (.eptr rows r (o+k*esz))) n
   | _,_=>False)
 | .idx agg n esz x i =>
  (match evV E F x,ygC E F i with
   | some (.agg cs),some j=>(match x with
    | .c _=>WTab agg n esz cs j (wv H K)
    | _=>yso n j (fun k=>match ygr agg esz (.agg cs) (k*esz) with | some p=>wv H K p | none=>False) n)
   | _,_=>False)
 | .slc esz x lo hi mx =>
  (match evV E F x,evO E F lo,evO E F hi,evO E F mx with
   | some p,some l,some h,some m=>(match (m.isSome&&h.isNone) with | true=>False | false=>yHi H esz l h m p (wv H K))
   | _,_,_,_=>False)
 | .mkSl pu esz bytes z l c =>
  (match ygC E F l,ygC E F c with
   | some l,some c=>asr (decide (0≤l)) (asr (decide (l≤c)) (asr (decide ((c.toNat+64)*(bytes+1)≤room))
      (K (some (.v (.own H.length 0 l.toNat c.toNat (some c.toNat)))) none (H++[⟨false,pu,esz,List.replicate c.toNat z⟩]))))
   | _,_=>False)
 | .app pu esz bytes s x =>
  (match evV E F s,evV E F x with
   | some s,some x=>yK5 H x fun ys=>asr (yd7 esz ys) (asr (yrm H pu x) (WApp a.md H pu esz bytes s ys fun r H'=>K (some (.v r)) none H'))
   | _,_=>False)
 | .appZ pu esz bytes z s n =>
  (match evV E F s,ygC E F n with
   | some .nils,some k=>asr (decide (0≤k)) (cbr (decide (k.toNat=0)) (wv H K .nils) (yvn H pu esz bytes (List.replicate k.toNat z) fun r H'=>K (some (.v r)) none H'))
   | _,_=>False)
 | .eqN neg x =>
  (match evV E F x with
   | some .nils=>wv H K (.bool (bif neg then false else true))
   | some (.mt b)=>wv H K (.bool (bif neg then !b else b))
   | some (.data rows)=>asr (!rows.isEmpty) (wv H K (.bool neg))
   | some (.own _ _ _ _ _)=>wv H K (.bool neg)
   | _=>False)
 | .clr pu esz z x =>
  (match evV E F x with
   | some .nils=>wv H K (.tup [])
   | some .emp=>wv H K (.tup [])
   | some (.mt _)=>wv H K (.tup [])
   | some (.own id lo len ext _)=>(match H[id]? with
    | some b=>cbr (decide (len=0)) (wv H K (.tup [])) (asr (decide (b.rows.length=ext)) (asr (decide (lo+len≤ext)) (asr (!b.fz) (asr (b.pu == pu) (asr (Nat.beq b.esz esz) (K (some (.v (.tup []))) none (H.set id { b with rows:=b.rows.take lo++(List.replicate len z++b.rows.drop (lo+len)) })))))))
    | none=>False)
   | _=>False)
 | .boxH pu esz x =>
  (match evV E F x with
   | some p=>yyL pu H p fun q H'=>asr (Nat.beq q.cells.length esz&&ydK q.cells) (K (some (.v (.ptr H'.length 1 0 0))) none (H'++[⟨false,pu,esz,[q]⟩]))
   | none=>False)
 | .bSl pu esz z len parts =>
  (match len with
   | 0=>wv H K .emp
   | len+1=>yBY E F pu esz (List.replicate (len+1) z) H parts fun rows H'=>K (some (.v (.own H'.length 0 (len+1) (len+1) (some (len+1))))) none (H'++[⟨false,pu,esz,rows⟩]))
 | .buildN pu esz z len parts =>
  (match len with
   | 0=>wv H K .emp
   | len+1=>yBY E F pu esz (List.replicate (len+1) z) H parts fun rows H'=>K (some (.v (.own H'.length 0 (len+1) (len+1) none))) none (H'++[⟨false,pu,esz,rows⟩]))
 | .bD esz z len parts =>
  (match len with
   | 0=>wv H K .emp
   | len+1=>yBY E F true esz (List.replicate (len+1) z) H parts fun rows H'=>K (some (.v (.data rows))) none H')
 | .mvD x =>
  (match evV E F x with
   | some p=>yFi H p fun q H'=>(match q with | .data rows=>K (some (.v (.data rows))) none H' | _=>False)
   | none=>False)
 | .call f args =>
  (match evV E F f,evs E F args with
   | some g,some vs=>callK g vs H fun r H'=>K (some (.v r)) none H'
   | _,_=>False)
 | o=>(match yap E yyJ F H o with | some ⟨x,bx,H'⟩=>K x bx H' | none=>False)
def frep:Frm→Nat→FV→Frm
 | [],_,_=>[]
 | (k,y)::r,s,x=>bif Nat.beq k s then (k,x)::r else (k,y)::frep r s x
def yC7 (F:Frm) (g:Option (Nat×Bool)) (yes no:Frm→Prop):Prop :=
 match g with
 | none=>yes F
 | some (s,want)=>(match fget F s with
  | some (.v (.bool b))=>(match want with
   | true=>cbr b (yes (frep F s (.v (.bool true)))) (no (frep F s (.v (.bool false))))
   | false=>cbr b (no (frep F s (.v (.bool true)))) (yes (frep F s (.v (.bool false)))))
  | some (.v (.tup []))=>no F
  | _=>False)
def fref (F:Frm) (c:Opd) (b:Bool):Frm :=
 match c with
 | .t s=>frep F s (.v (.bool b))
 | _=>F
def yqw (F:Frm):Option Nat→Frm
 | some d=>fset F d (.v (.tup []))
 | none=>F
def frcP (p:PV) (K:PV→Prop):Prop :=
 match p with
 | .bool b=>K (.bool b)
 | .int k n=>K (.int k n)
 | .agg cs=>K (.agg cs)
 | .data r=>K (.data r)
 | .own a b c d e=>K (.own a b c d e)
 | .ptr a b c d=>K (.ptr a b c d)
 | p=>K p
def frcL:List PV→(List PV→Prop)→Prop
 | [],K=>K []
 | x::r,K=>frcP x fun x=>frcL r fun r=>K (x::r)
def frcA (p:PV) (K:PV→Prop):Prop :=
 match p with
 | .agg cs=>frcL cs fun cs=>K (.agg cs)
 | .tup cs=>frcL cs fun cs=>K (.tup cs)
 | p=>frcP p K
def frcV (x:FV) (K:FV→Prop):Prop :=
 match x with
 | .v p=>frcA p fun p=>K (.v p)
 | .box p=>frcA p fun p=>K (.box p)
 | .bp s o=>K (.bp s o)
def frcF:Frm→(Frm→Prop)→Prop
 | [],K=>K []
 | (k,x)::r,K=>frcV x fun x=>frcF r fun r=>K ((k,x)::r)
def frcB (b:Bool) (K:Bool→Prop):Prop:=match b with | true=>K true | false=>K false
def frcH:Hp→(Hp→Prop)→Prop
 | [],K=>K []
 | ⟨fz,pu,esz,rows⟩::r,K=>frcB fz fun fz=>frcB pu fun pu=>frcH r fun r=>K (⟨fz,pu,esz,rows⟩::r)
theorem yIt (p:PV) (K:PV→Prop):frcP p K=K p:=by cases p <;> rfl
theorem yIu:∀ (l:List PV) (K:List PV→Prop),frcL l K=K l
 | [],_=>rfl
 | x::r,K=>by simp only [frcL,yIt,yIu r]
theorem yMW (p:PV) (K:PV→Prop):frcA p K=K p:=by cases p <;> simp only [frcA,yIu,yIt]
theorem yMX (x:FV) (K:FV→Prop):frcV x K=K x:=by cases x <;> simp only [frcV,yMW]
theorem yIv:∀ (F:Frm) (K:Frm→Prop),frcF F K=K F
 | [],_=>rfl
 | (k,x)::r,K=>by simp only [frcF,yMX,yIv r]
theorem yMY (b:Bool) (K:Bool→Prop):frcB b K=K b:=by cases b <;> rfl
theorem yIw:∀ (H:Hp) (K:Hp→Prop),frcH H K=K H
 | [],_=>rfl
 | ⟨fz,pu,esz,rows⟩::r,K=>by simp only [frcH,yMY,yIw r]
def frc (F:Frm) (H:Hp) (K:Frm→Hp→Prop):Prop:=frcF F fun F=>frcH H fun H=>K F H
theorem yyM (F:Frm) (H:Hp) (K:Frm→Hp→Prop):frc F H K=K F H:=by simp only [frc,yIv,yIw]
def WOps (E:Env) (callK:CK) (an:List An):List AO→Nat→Frm→Hp→(Frm→Hp→Prop)→Prop
 | [],_,F,H,K=>K F H
 | o::r,i,F,H,K =>
  yC7 F o.guard
   (fun F=>WOp E callK (anOf an i) F H o.op fun x bx H'=>match yeZ (ygp F bx) o.dst x with
    | none=>False
    | some F'=>frc F' H' fun F' H'=>WOps E callK an r (i+1) F' H' K)
   (fun F=>WOps E callK an r (i+1) (yqw F o.dst) H K)
def yBZ (E:Env) (F:Frm) (H:Hp) (o:AO):FP :=
 let p:=fpOp E F H o.op;⟨yva o.guard++p.rd,o.dst.toList++p.wr,p.hr,p.hw,p.push,p.all⟩
def fpNo (o:AO):FP:=⟨yva o.guard,o.dst.toList,[],[],false,false⟩
def WFps (E:Env) (callK:CK) (an:List An) (F0:Frm) (l0:List AO) (pairs:List (Nat×Nat)):List AO→Nat→Frm→Hp→List FP→(Frm→Hp→Prop)→Prop
 | [],_,F,H,ps,K=>asr (yjN ps.reverse pairs&&yqk F0 l0 l0) (K F H)
 | o::r,i,F,H,ps,K =>
  yC7 F o.guard
   (fun F=>WOp E callK (anOf an i) F H o.op fun x bx H'=>match yhf (ygp F bx) o.dst x with
    | none=>False
    | some F'=>frc F' H' fun F' H'=>WFps E callK an F0 l0 pairs r (i+1) F' H' (yBZ E F H o::ps) K)
   (fun F=>WFps E callK an F0 l0 pairs r (i+1) (yqw F o.dst) H (fpNo o::ps) K)
abbrev LP:=Nat→Frm→Frm→Hp→(Ex→Frm→Hp→Prop)→Prop
abbrev YK:=List PV→Hp→(Option Nat→Hp→Prop)→Prop
def noYK:YK:=fun _ _ _=>False
def WClr (K:Nat) (H:Hp) (Q:Hp→Prop):Prop:=asr (noYH (noY K) (fun _=>true) H) (Q H)
def WC (E:Env) (callK:CK) (lp:LP):Frm→YK→TC→Frm→Hp→(Ex→Frm→Hp→Prop)→Prop
 | _,_,.skip,F,H,Q=>Q .norm F H
 | _,_,.ops l an [] fg,F,H,Q=>WOps E callK an l 0 F H fun F' H'=>frc (fdels F' fg) H' fun F' H'=>Q .norm F' H'
 | _,_,.ops l an (p::ps) fg,F,H,Q=>WFps E callK an (ymL F l) l (p::ps) l 0 (ymL F l) H [] fun F' H'=>frc (fdels F' fg) H' fun F' H'=>Q .norm F' H'
 | G,yk,.seq a b,F,H,Q=>WC E callK lp G yk a F H fun x F' H'=>match x with
  | .norm=>WC E callK lp G yk b F' H' Q
  | .exit i=>Q (.exit i) F' H'
  | .ret=>Q .ret F' H'
  | .brk k i=>Q (.brk k i) F' H'
 | G,yk,.cond c a b,F,H,Q=>(match evV E F c with
  | some (.bool t)=>cbr t (WC E callK lp G yk a (fref F c true) H Q) (WC E callK lp G yk b (fref F c false) H Q)
  | _=>False)
 | G,yk,.block id b,F,H,Q=>WC E callK lp G yk b F H fun x F' H'=>match x with
  | .norm=>Q .norm F' H'
  | .exit i=>(bif Nat.beq i id then Q .norm F' H' else Q (.exit i) F' H')
  | .ret=>Q .ret F' H'
  | .brk k i=>Q (.brk k i) F' H'
 | G,_,.loop id _,F,H,Q=>lp id G F H Q
 | G,_,.lG id _,F,H,Q=>lp id G F H Q
 | _,_,.exit id,F,H,Q=>Q (.exit id) F H
 | _,_,.ret,F,H,Q=>Q .ret F H
 | _,_,.bad,_,_,_=>False
 | _,_,.cut _,_,_,_=>False
 | _,_,.rangeF g f np ib ps as bd,F,H,Q=>(match evV E F g with
  | some (.fn (.func n) first cap)=>asr (Nat.beq n f&&decide ((first++[PV.fn (.yield E.yn) [] []]++cap).length=np))
   (WC E callK lp (yfR F) (fun vs H K=>match ylS (yfR F) ps vs with
     | some F1=>WC E callK lp [] noYK as F1 H fun x F2 H2=>match x with
      | .norm=>WC E callK lp [] noYK bd F2 H2 fun x _ H3=>match x with
       | .norm=>K none H3
       | .exit i=>K (some i) H3
       | .ret | .brk _ _=>False
      | .exit _ | .ret | .brk _ _=>False
     | none=>False) ib (yfY 0 (first++[PV.fn (.yield E.yn) [] []]++cap)) H fun x _ H'=>match x with
    | .norm | .ret=>WClr E.yn H' fun H'=>Q .norm F H'
    | .brk k i=>asr (Nat.beq k E.yn) (WClr E.yn H' fun H'=>Q (.exit i) F H')
    | .exit _=>False)
  | _=>False)
 | _,yk,.yret _ pre d y args e fgt,F,H,Q=>WOps E callK [] pre 0 F H fun F1 H1=>(match evV E F1 y,evs E F1 args with
  | some (.fn (.yield k) [] []),some vs=>asr (Nat.beq k E.yn) (yk vs H1 fun r H2=>match r with
   | none=>frc (fdels (fset (fset F1 d (.v (.bool true))) e (.v (.bool false))) fgt) H2 fun F' H'=>Q .norm F' H'
   | some i=>Q (.brk k i) (fset (fset F1 d (.v (.bool false))) e (.v (.bool true))) H2)
  | _,_=>False)
def WYk (E:Env) (callK:CK) (lp:LP) (G:Frm) (ps:List Nat) (as bd:TC):YK:=fun vs H K=>match ylS G ps vs with
 | some F1=>WC E callK lp [] noYK as F1 H fun x F2 H2=>match x with
  | .norm=>WC E callK lp [] noYK bd F2 H2 fun x _ H3=>match x with
   | .norm=>K none H3
   | .exit i=>K (some i) H3
   | .ret | .brk _ _=>False
  | .exit _ | .ret | .brk _ _=>False
 | none=>False
abbrev Qx:Type:=Ex→Frm→Hp→Prop
abbrev exQ (R:Frm→Hp→Prop) (Q:Qx):Qx:=fun x F' H'=>match x with | .norm=>R F' H' | .exit i=>Q (.exit i) F' H' | .ret=>Q .ret F' H' | .brk k i=>Q (.brk k i) F' H'
def WFn (E:Env) (callK:CK) (lp:LP) (fn:TFn) (args:List PV) (H:Hp) (K:PV→Hp→Prop):Prop :=
 asr (decide (args.length=fn.nparams)) (WC E callK lp [] noYK fn.body (yfY 0 args) H fun x F' H'=>match x with
  | .exit _ | .brk _ _=>False
  | .norm | .ret=>(match yjP F' H' fn.results with | some ps=>K (yjQ ps) H' | none=>False))
structure SE where
 E:Env
 sumK:Nat→Option (List PV→(PV→Prop)→Prop)
 inl:Nat→Option TFn
 lp:LP
 sumL:Nat→Option (List PV→HB→(PV→List PV→Prop)→Prop)
def yC8 (H:Hp) (x:PV) (K:PV→Hp→Prop):Prop :=
 match x with
 | .tup ps=>yyK H ps fun qs H'=>K (.tup qs) H'
 | x=>yrx H x K
def WLoc (wp:List PV→HB→(PV→List PV→Prop)→Prop) (x:LocC) (H:Hp) (K:PV→Hp→Prop):Prop :=
 yyK H (x.all.set x.j (.int .i64 0)) fun as H'=>match H'[x.id]? with
  | some b=>asr (!b.fz&&b.pu) (wp (as.set x.j x.y) b fun q rows=>K q (H'.set x.id { b with rows:=rows }))
  | none=>False
def yhO (S:SE):Nat→CK
 | 0,_,_,_,_=>False
 | d+1,f,args,H,K =>
  match f with
  | .fn (.func n) first captured =>
   (match ytm S.E f args with
   | some x=>(match S.sumL x.n with | some wp=>WLoc wp x H K | none=>False)
   | none =>
   match S.sumK n with
    | some wp=>(bif S.E.rb n then yC6 (iceH H) (first++args++captured) fun as=>wp as fun r=>asr r.scalar (K r H)
     else yyK H (first++args++captured) fun as H'=>wp as fun r=>K r (bif r.scalar then H else H'))
    | none=>(match S.inl n with
     | some fn=>(bif S.E.rb n then False else WFn S.E (yhO S d) S.lp fn (first++args++captured) H K)
     | none=>(match S.E.eff n (first++args++captured) H with
      | some (c,t,x,y)=>asr c (cbr t (K x.1 x.2) (K y.1 y.2))
      | none=>False)))
  | _=>False
@[irreducible] def WPL (S:SE) (d:Nat) (fn:TFn) (args:List PV) (b:HB) (K:PV→List PV→Prop):Prop :=
 WFn S.E (yhO S d) S.lp fn args [b] fun r H=>yC8 H r fun q H'=>match H'[0]? with
  | some b2=>asr (!b2.fz&&decide (b2.rows.length=b.rows.length)) (K q b2.rows)
  | none=>False
@[irreducible] def WP (S:SE) (d:Nat) (fn:TFn) (args:List PV) (K:PV→Prop):Prop :=
 WFn S.E (yhO S d) S.lp fn args [] fun r H=>yIr H r K
abbrev EP:=Nat→Env→Prop
def Like (E e:Env):Prop:=e={ E with yn:=e.yn,ctx:=e.ctx,yl:=e.yl }
def Uni (E:Env):EP:=fun _ e=>Like E e
def Solo (E:Env):EP:=fun _ e=>e=E
def Ats (E:Env):EP:=fun _ e=>e=E.ats (E.yn+1)
def Sub (P:EP) (E:Env):Prop:=∀ n e,P n e→Like E e
theorem Sub.uni (E:Env):Sub (Uni E) E:=fun _ _ h=>h
theorem Sub.solo (E:Env):Sub (Solo E) E:=fun _ e h=>by cases h;rfl
theorem Sub.ats (E:Env):Sub (Ats E) E:=fun _ e h=>by cases h;rfl
def hnd (E:Env) (G:Frm) (ps:List Nat) (as bd:AC) (n:Nat):Nat→List PV→Hp→Option (Option Nat×Hp):=fun y vs H=>(match ylS G ps vs with
 | some F1=>(match exec (E.ats y) n as F1 H with
  | some (.norm,F2,H2)=>(match exec (E.ats y) n bd F2 H2 with
   | some (.norm,_,H3)=>some (none,H3)
   | some (.exit i,_,H3)=>some (some i,H3)
   | _=>none)
  | _=>none)
 | none=>none)
def Rng (E:Env) (G:Frm) (ps:List Nat) (as bd:AC):EP:=fun n e=>e=E.push ⟨G,ps,as,bd⟩ (hnd E G ps as bd n)
theorem Sub.rng (E:Env) (G:Frm) (ps:List Nat) (as bd:AC):Sub (Rng E G ps as bd) E:=fun _ e h=>by cases h;rfl
def Good (P:EP) (callK:CK):Prop :=
 ∀ f args H K,callK f args H K→∃ r H',K r H'∧∃ m0,∀ n e m,m0≤n→P n e→m0≤m→yof e (yca e m) f args H=some (r,H')
theorem Good.sub {E:Env} {P:EP} {callK:CK} (h:Good (Uni E) callK) (hP:Sub P E):Good P callK:=fun f args H K hk=>by
 obtain ⟨r,H',k,m0,hm⟩:=h f args H K hk
 exact ⟨r,H',k,m0,fun n e m h1 h2 h3=>hm n e m h1 (hP n e h2) h3⟩
section
variable {E:Env} {y:Nat} {cx:Nat→Option LCtx} {yl:Nat→Nat→List PV→Hp→Option (Option Nat×Hp)}
theorem yxS (F:Frm) (x:Opd):ev { E with yn:=y,ctx:=cx,yl:=yl } F x=ev E F x:=by cases x <;> rfl
theorem yhm (F:Frm) (x:Opd):evV { E with yn:=y,ctx:=cx,yl:=yl } F x=evV E F x:=by simp only [evV,yxS]
theorem yo6 (F:Frm):∀ l:List Opd,evs { E with yn:=y,ctx:=cx,yl:=yl } F l=evs E F l
 | []=>rfl
 | x::r=>by simp only [evs,yhm,yo6 F r]
theorem yyN (F:Frm) (x:Opd):ygC { E with yn:=y,ctx:=cx,yl:=yl } F x=ygC E F x:=by simp only [ygC,yhm]
theorem yK6 (F:Frm) (x:Option Opd):evO { E with yn:=y,ctx:=cx,yl:=yl } F x=evO E F x:=by cases x <;> simp only [evO,yyN]
theorem yyO (F:Frm):∀ (l:List (Nat×Nat×Opd)) (cs:List PV),ykL { E with yn:=y,ctx:=cx,yl:=yl } F cs l=ykL E F cs l
 | [],_=>rfl
 | (_,_,x)::r,cs=>by simp only [ykL,yhm,yyO F r]
theorem yyP (F:Frm) (pu:Bool) (esz:Nat):∀ (l:List (Nat×Opd)) (rows:List PV) (H:Hp),yhd { E with yn:=y,ctx:=cx,yl:=yl } F pu esz rows H l=yhd E F pu esz rows H l
 | [],_,_=>rfl
 | (_,x)::r,rows,H=>by simp only [yhd,yhm,yyP F pu esz r]
theorem ywC (F:Frm) (x:Opd):ye0 { E with yn:=y,ctx:=cx,yl:=yl } F x=ye0 E F x:=by simp only [ye0,yxS]
theorem yHj (F:Frm) (x:Opd):yog { E with yn:=y,ctx:=cx,yl:=yl } F x=yog E F x:=by simp only [yog,yxS]
theorem yry (F:Frm):∀ l:List (Nat×Opd),ydF { E with yn:=y,ctx:=cx,yl:=yl } F l=ydF E F l
 | []=>rfl
 | (_,x)::r=>by simp only [ydF,ywC,yry F r]
theorem yyQ (F:Frm) (f:Opd) (as:List Opd):yg0 { E with yn:=y,ctx:=cx,yl:=yl } F f as=yg0 E F f as:=by simp only [yg0,yhm,yo6]
theorem yJI (F:Frm) (H:Hp) (o:AOp):fpOp { E with yn:=y,ctx:=cx,yl:=yl } F H o=fpOp E F H o:=by
 cases o <;> simp only [fpOp,ywC,yHj,yry,yyQ]
theorem yHk {F:Frm} {H:Hp} {o:AOp} (h:yhW o=false) (c1 c2:Nat→List PV→Hp→Option (PV×Hp)):yap { E with yn:=y,ctx:=cx,yl:=yl } c1 F H o=yap E c2 F H o:=by
 cases o <;> first | (simp [yhW] at h;done) | simp only [yap,yxS,yhm,yo6,yyN,yK6,yyO,yyP]
end
def yIx (E:Env) (F:Frm) (H:Hp) (o:AOp) (K:OK):Prop :=
 ∃ out:Out,K out.x out.bx out.h∧∃ m0,∀ m,m0≤m→yap E (yca E m) F H o=some out
def yOf (P:EP) (F:Frm) (H:Hp) (o:AOp) (K:OK):Prop :=
 ∃ out:Out,K out.x out.bx out.h∧∃ m0,∀ n e m,m0≤n→P n e→m0≤m→yap e (yca e m) F H o=some out
section
variable {E:Env} {callK:CK} {F:Frm} {H:Hp} {K:OK}
theorem yFk {o:AOp} (h:yhW o=false) (c1 c2:Nat→List PV→Hp→Option (PV×Hp)):yap E c1 F H o=yap E c2 F H o:=by
 cases o <;> first | rfl | simp [yhW] at h
theorem yyR {o:AOp} (hc:yhW o=false) (h:match yap E yyJ F H o with | some ⟨x,bx,H'⟩=>K x bx H' | none=>False):yIx E F H o K:=by
 split at h
 ·rename_i x bx H' he
  exact ⟨⟨x,bx,H'⟩,h,0,fun m _=>by rw [yFk hc (yca E m) yyJ,he]⟩
 ·exact h.elim
theorem yyS {H:Hp} {x:PV} {K:PV→Hp→Prop} (h:yFi H x K):∃ y H',K y H'∧yfQ H x=some (y,H'):=by
 unfold yFi at h
 split at h
 ·exact ⟨_,_,h,rfl⟩
 ·exact ⟨_,_,h,rfl⟩
 ·exact ⟨_,_,h,rfl⟩
 ·exact ⟨_,_,h,rfl⟩
 ·exact ⟨_,_,h,rfl⟩
 ·split at h
  ·rename_i b hb
   obtain ⟨h1,h⟩:=yar.1 h
   obtain ⟨h2,h⟩:=yar.1 h
   obtain ⟨h3,h⟩:=yar.1 h
   exact ⟨_,_,h,by simp only [yfQ,hb];rw [if_pos ⟨by simpa using h1,by simpa using h2,h3⟩]⟩
  ·exact h.elim
 ·exact h.elim
theorem yFl:∀ (l:List PV) (H:Hp) (K:List PV→Hp→Prop),yIq H l K→∃ ys H',K ys H'∧yeV H l=some (ys,H')
 | [],H,K,h=>⟨_,_,h,rfl⟩
 | x::r,H,K,h=>by
  simp only [yIq] at h
  obtain ⟨y,H1,h,e1⟩:=yyS h
  obtain ⟨ys,H2,h,e2⟩:=yFl r H1 _ h
  exact ⟨_,_,h,by simp only [yeV,e1,e2]⟩
theorem ymc {H:Hp} {x:PV} {K:PV→Hp→Prop} (h:yrx H x K):∃ y H',K y H'∧ycy H x=some (y,H'):=by
 cases x with
 | agg cs =>
  simp only [yrx] at h
  obtain ⟨ys,H',h,e⟩:=yFl cs H _ h
  exact ⟨_,_,h,by simp only [ycy,e,Option.map]⟩
 | _ =>
  simp only [yrx] at h
  obtain ⟨y,H',h,e⟩:=yyS h
  exact ⟨_,_,h,by simp only [ycy,e]⟩
theorem yo7:∀ (l:List PV) (H:Hp) (K:List PV→Hp→Prop),yyK H l K→∃ ys H',K ys H'∧ybi H l=some (ys,H')
 | [],H,K,h=>⟨_,_,h,rfl⟩
 | x::r,H,K,h=>by
  simp only [yyK] at h
  obtain ⟨y,H1,h,e1⟩:=ymc h
  obtain ⟨ys,H2,h,e2⟩:=yo7 r H1 _ h
  exact ⟨_,_,h,by simp only [ybi,e1,e2]⟩
theorem yK7 {H:Hp} {x:PV} {K:PV→Prop} (h:yIs H x K):∃ y,K y∧purP H x=some y:=by
 have base:∀ {x:PV},yrx H x (fun q _=>K q)→∃ y,K y∧(match ycy H x with | some (q,_)=>some q | none=>none)=some y:=fun h=>by
  obtain ⟨y,H',h,e⟩:=ymc h
  exact ⟨y,h,by simp only [e]⟩
 cases x with
 | ptr id ext i off =>
  simp only [yIs] at h
  split at h
  ·rename_i b hb
   obtain ⟨h1,h⟩:=yar.1 h
   split at h
   ·rename_i row hrow
    obtain ⟨y,H',h,e⟩:=ymc h
    exact ⟨_,h,by simp only [purP,hb,hrow,e];rw [if_pos (by simpa using h1)]⟩
   ·exact h.elim
  ·exact h.elim
 | eptr rows i off=>exact ⟨_,h,rfl⟩
 | _=>simp only [yIs] at h;exact base h
theorem yB0 {H:Hp}:∀ (l:List PV) (K:List PV→Prop),yC6 H l K→∃ ys,K ys∧yx8 H l=some ys
 | [],K,h=>⟨_,h,rfl⟩
 | x::r,K,h=>by
  simp only [yC6] at h
  obtain ⟨y,h,e1⟩:=yK7 h
  obtain ⟨ys,h,e2⟩:=yB0 r _ h
  exact ⟨_,h,by simp only [yx8,e1,e2]⟩
theorem yK8 {H:Hp} {x:PV} {K:PV→Prop} (h:yIr H x K):∃ q,K q∧purR H x=some q:=by
 cases x with
 | tup ps =>
  simp only [yIr] at h
  obtain ⟨ys,H',h,e⟩:=yo7 ps H _ h
  exact ⟨_,h,by simp only [purR,e]⟩
 | _ =>
  simp only [yIr] at h
  obtain ⟨y,H',h,e⟩:=ymc h
  exact ⟨_,h,by simp only [purR,e]⟩
theorem yvo {pu:Bool} {H:Hp} {x:PV} {K:PV→Hp→Prop} (h:yyL pu H x K):∃ y H',K y H'∧(if pu then ycy H x else some (x,H))=some (y,H'):=by
 cases pu with
 | true=>simp only [yyL] at h;obtain ⟨y,H',h,e⟩:=ymc h;exact ⟨y,H',h,by simpa using e⟩
 | false=>exact ⟨_,_,h,by simp⟩
theorem ytG {pu:Bool} {esz:Nat}:∀ (l:List (Nat×Opd)) (rows:List PV) (H:Hp) (K:List PV→Hp→Prop),yBY E F pu esz rows H l K →
  ∃ rows' H',K rows' H'∧yhd E F pu esz rows H l=some (rows',H')
 | [],rows,H,K,h=>⟨_,_,h,rfl⟩
 | (i,x)::r,rows,H,K,h=>by
  simp only [yBY] at h
  split at h
  ·rename_i p hp
   obtain ⟨q,H',h,e⟩:=yvo h
   obtain ⟨h1,h⟩:=yar.1 h
   simp only [qAd] at h1
   obtain ⟨rows',H2,h,e2⟩:=ytG r _ H' K h
   refine ⟨rows',H2,h,?_⟩
   simp only [yhd,hp,e]
   rw [if_pos ⟨qAj h1.1.1,(show i+1≤rows.length from qB5 h1.1.2),h1.2⟩]
   exact e2
  ·exact h.elim
theorem yMZ {op:BinOp} {k k':IntKind} {a b:Int} {K:PV→Prop} (h:WBin op k k' a b K):∃ r,K r∧binV op (.int k a) (.int k' b)=some r:=by
 cases op <;> simp only [WBin] at h
 case quo =>
  obtain ⟨h1,h2⟩:=yar.1 h
  obtain ⟨h3,h4⟩:=yar.1 h2
  have e1:k=k':=by simpa using h1
  have e2:¬b=0:=by simpa using h3
  exact ⟨_,h4,by simp [binV,e1,binI,e2]⟩
 case rem =>
  obtain ⟨h1,h2⟩:=yar.1 h
  obtain ⟨h3,h4⟩:=yar.1 h2
  have e1:k=k':=by simpa using h1
  have e2:¬b=0:=by simpa using h3
  exact ⟨_,h4,by simp [binV,e1,binI,e2]⟩
 case shl =>
  obtain ⟨h1,h2⟩:=yar.1 h
  have e1:¬b<0:=by simpa using h1
  exact ⟨_,h2,by simp only [binV,yu8,e1,if_false]⟩
 case shr =>
  obtain ⟨h1,h2⟩:=yar.1 h
  have e1:¬b<0:=by simpa using h1
  exact ⟨_,h2,by simp only [binV,yu8,e1,if_false]⟩
 all_goals
  obtain ⟨h1,h2⟩:=yar.1 h
  have e1:k=k':=by simpa using h1
  split at h2
  ·rename_i r hr
   exact ⟨r,h2,by simp only [binV,e1,if_true];rw [← e1];exact hr⟩
  ·exact h2.elim
theorem ymd {n:Nat} {j:Int} {K:Nat→Prop}:∀ m,m≤n→yso n j K m→∃ k:Nat,K k∧j=(k:Int)∧k<n
 | 0,_,h=>h.elim
 | m+1,hm,h=>by
  simp only [yso] at h
  obtain ⟨h1,h2⟩:=yhk.1 h
  by_cases hj:j=((n-(m+1):Nat):Int)
  ·exact ⟨_,h1 (by simpa using hj),hj,by omega⟩
  ·exact ymd m (by omega) (h2 (by simpa using hj))
theorem yB1:∀ (cs:List PV) (i:Nat),yFj cs=true→i<cs.length→cs[i]?=some (.int .u8 (yac (cs.getD i .nils)))
 | [],i,_,h=>by simp at h
 | x::r,i,hu,hi=>by
  cases x with
  | int k n =>
   cases k <;> simp only [yFj,qAs] at hu
   cases i with
   | zero=>simp [yac]
   | succ i=>have:=yB1 r i hu (by simpa using hi);simpa using this
  | _=>simp [yFj] at hu
theorem yK9 {x:PV} {K:List PV→Prop} (h:yK5 H x K):∃ ys,K ys∧yhS H x=some ys:=by
 unfold yK5 at h
 split at h
 ·exact ⟨_,h,rfl⟩
 ·exact ⟨_,h,rfl⟩
 ·exact ⟨_,h,rfl⟩
 ·split at h
  ·rename_i b hb
   obtain ⟨h1,h2⟩:=yar.1 h
   obtain ⟨h3,h4⟩:=yar.1 h2
   exact ⟨_,h4,by simp only [yhS,hb];rw [if_pos ⟨by simpa using h1,by simpa using h3⟩]⟩
  ·exact h.elim
 ·exact h.elim
theorem yqx {pu:Bool} {esz bytes:Nat} {rows:List PV} {K:PV→Hp→Prop} (h:yvn H pu esz bytes rows K):∃ r H',K r H'∧ydE H pu esz bytes rows=some (r,H'):=by
 obtain ⟨h1,h2⟩:=yar.1 h
 exact ⟨_,_,h2,by simp only [ydE];rw [if_pos (by simpa using h1)]⟩
def appS (H:Hp) (pu:Bool) (esz bytes:Nat) (ys:List PV):PV→Option (PV×Hp)
 | .nils=>if ys.isEmpty then some (.nils,H) else ydE H pu esz bytes ys
 | .emp=>if ys.isEmpty then some (.emp,H) else ydE H pu esz bytes ys
 | .own id lo len ext cap =>
  (match H[id]? with
   | some b=>if b.rows.length=ext∧b.pu=pu∧b.esz=esz∧lo+len≤ext then
    (if ys.isEmpty then some (.own id lo len ext cap,H) else yhe H pu esz bytes ys id lo len ext cap b) else none
   | none=>none)
 | _=>none
theorem yM0 {md:Nat} {pu:Bool} {esz bytes:Nat} {s x:PV} {ys:List PV} {K:PV→Hp→Prop} (hy:yhS H x=some ys) (hh:yd7 esz ys=true) (hs:yrm H pu x=true) (h:WApp md H pu esz bytes s ys K) :
  ∃ r H',K r H'∧appV H pu esz bytes s x=some (r,H'):=by
 have e0:appV H pu esz bytes s x=appS H pu esz bytes ys s:=by
  simp only [appV,hy];rw [if_pos ⟨hh,hs⟩];cases s <;> rfl
 rw [e0]
 clear e0 hy hs
 unfold WApp at h
 split at h
 ·obtain ⟨h1,h2⟩:=yhk.1 h
  cases hE:ys.isEmpty with
  | true=>exact ⟨_,_,h1 hE,by simp [appS,hE]⟩
  | false =>
   obtain ⟨r,H',hk,hf⟩:=yqx (h2 hE)
   exact ⟨r,H',hk,by simp [appS,hE,hf]⟩
 ·obtain ⟨h1,h2⟩:=yhk.1 h
  cases hE:ys.isEmpty with
  | true=>exact ⟨_,_,h1 hE,by simp [appS,hE]⟩
  | false =>
   obtain ⟨r,H',hk,hf⟩:=yqx (h2 hE)
   exact ⟨r,H',hk,by simp [appS,hE,hf]⟩
 ·rename_i id lo len ext cap
  split at h
  ·rename_i b hb
   obtain ⟨h1,h⟩:=yar.1 h
   obtain ⟨h2,h⟩:=yar.1 h
   obtain ⟨h3,h⟩:=yar.1 h
   simp only [qAd,decide_eq_true_eq] at h1 h2 h3
   obtain ⟨k1,k2⟩:=yhk.1 h
   have hc:b.rows.length=ext∧b.pu=pu∧b.esz=esz∧lo+len≤ext:=⟨h1,h2.1,h2.2,h3⟩
   cases hE:ys.isEmpty with
   | true=>exact ⟨_,_,k1 hE,by simp only [appS,hb];rw [if_pos hc];simp [hE]⟩
   | false =>
    have h:=k2 hE
    suffices ∃ r H',K r H'∧yhe H pu esz bytes ys id lo len ext cap b=some (r,H') by
     obtain ⟨r,H',hk,hf⟩:=this
     exact ⟨r,H',hk,by simp only [appS,hb];rw [if_pos hc];simp [hE,hf]⟩
    cases cap with
    | some c =>
     simp only at h
     have key1:decide (len+ys.length≤c)=true→asr (!b.fz) (K (.own id lo (len+ys.length) ext (some c)) (H.set id { b with rows:=b.rows.take (lo+len)++(ys++b.rows.drop (lo+len+ys.length)) })) →
       ∃ r H',K r H'∧yhe H pu esz bytes ys id lo len ext (some c) b=some (r,H'):=by
      intro e1 e2
      obtain ⟨e3,e4⟩:=yar.1 e2
      refine ⟨_,_,e4,?_⟩
      simp only [yhe]
      rw [if_pos (by simpa using e1),if_pos (by simpa using e3)]
     have key2:decide (len+ys.length≤c)=false→yvn H pu esz bytes ((b.rows.drop lo).take len++ys) K →
       ∃ r H',K r H'∧yhe H pu esz bytes ys id lo len ext (some c) b=some (r,H'):=by
      intro e1 e2
      obtain ⟨r,H',hk,hf⟩:=yqx e2
      refine ⟨r,H',hk,?_⟩
      simp only [yhe]
      rw [if_neg (by simpa using e1)]
      exact hf
     split at h
     ·obtain ⟨a1,a2⟩:=yhk.1 h
      cases hd:decide (len+ys.length≤c) with
      | true=>exact key1 hd (a1 hd)
      | false=>exact key2 hd (a2 hd)
     ·obtain ⟨a1,a2⟩:=yar.1 h;exact key2 (by simpa using a1) a2
     ·obtain ⟨a1,a2⟩:=yar.1 h;exact key1 a1 a2
    | none =>
     simp only at h
     obtain ⟨hfz,h⟩:=yar.1 h
     have hfz':¬b.fz=true:=by simpa using hfz
     have key1:decide (lo+len+ys.length≤ext)=true→K (.own id lo (len+ys.length) ext none) (H.set id { b with rows:=b.rows.take (lo+len)++(ys++b.rows.drop (lo+len+ys.length)) }) →
       ∃ r H',K r H'∧yhe H pu esz bytes ys id lo len ext none b=some (r,H'):=by
      intro e1 e2
      refine ⟨_,_,e2,?_⟩
      simp only [yhe]
      rw [if_neg hfz',if_pos (by simpa using e1)]
     have key3:decide (lo+len+ys.length≤ext)=false→asr (decide (lo=0)) (asr (decide (len=ext)) (asr (decide ((ext+ys.length+64)*(bytes+1)≤room))
        (K (.own id 0 (b.rows++ys).length (b.rows++ys).length none) (H.set id { b with rows:=b.rows++ys })))) →
       ∃ r H',K r H'∧yhe H pu esz bytes ys id lo len ext none b=some (r,H'):=by
      intro e1 e2
      obtain ⟨e3,e2⟩:=yar.1 e2
      obtain ⟨e4,e2⟩:=yar.1 e2
      obtain ⟨e5,e2⟩:=yar.1 e2
      simp only [decide_eq_true_eq] at e3 e4 e5
      refine ⟨_,_,e2,?_⟩
      simp only [yhe]
      rw [if_neg hfz',if_neg (by simpa using e1),if_pos ⟨e3,e4,e5⟩]
      simp only [qAf,h1]
     split at h
     ·obtain ⟨a1,a2⟩:=yhk.1 h
      cases hd:decide (lo+len+ys.length≤ext) with
      | true=>exact key1 hd (a1 hd)
      | false=>exact key3 hd (a2 hd)
     ·obtain ⟨a1,a2⟩:=yar.1 h;exact key1 a1 a2
     ·obtain ⟨a1,a2⟩:=yar.1 h;exact key3 (by simpa using a1) a2
  ·exact h.elim
 ·exact h.elim
theorem yJJ {esz:Nat} {lo hi mx:Option Int} {x:PV} {K:PV→Prop} (h:yHi H esz lo hi mx x K):∃ r,K r∧yhT H esz lo hi mx x=some r:=by
 unfold yHi at h
 split at h
 ·obtain ⟨h1,h2⟩:=yar.1 h
  simp only [qAd,decide_eq_true_eq] at h1
  exact ⟨_,h2,by simp only [yhT];rw [if_pos h1]⟩
 ·obtain ⟨h1,h2⟩:=yar.1 h
  simp only [qAd,decide_eq_true_eq] at h1
  exact ⟨_,h2,by simp only [yhT];rw [if_pos h1]⟩
 ·rename_i rows
  simp only at h
  split at h
  ·obtain ⟨h1,h⟩:=yar.1 h
   obtain ⟨h2,h⟩:=yar.1 h
   obtain ⟨h3,h⟩:=yar.1 h
   obtain ⟨h4,h⟩:=yar.1 h
   simp only [qCc,decide_eq_true_eq] at h1 h2 h3 h4
   exact ⟨_,h,by simp only [yhT];rw [if_pos ⟨h1,h2,h3,h4⟩]⟩
  ·rename_i m
   obtain ⟨h1,h⟩:=yar.1 h
   obtain ⟨h2,h⟩:=yar.1 h
   obtain ⟨h3,h⟩:=yar.1 h
   obtain ⟨h4,h⟩:=yar.1 h
   obtain ⟨h5,h⟩:=yar.1 h
   obtain ⟨k1,k2⟩:=yhk.1 h
   simp only [qCc,decide_eq_true_eq] at h1 h2 h3 h4 h5
   by_cases hl:lo.getD 0=m
   ·exact ⟨_,k1 (by simpa using hl),by simp only [yhT];rw [if_pos ⟨h1,h2,h3,h4,h5⟩,if_pos hl]⟩
   ·exact ⟨_,k2 (by simpa using hl),by simp only [yhT];rw [if_pos ⟨h1,h2,h3,h4,h5⟩,if_neg hl]⟩
 ·rename_i id lo0 len ext cap
  simp only at h
  split at h
  ·rename_i b hb
   obtain ⟨h0,h⟩:=yar.1 h
   split at h
   ·obtain ⟨h1,h⟩:=yar.1 h
    obtain ⟨h2,h⟩:=yar.1 h
    obtain ⟨h3,h⟩:=yar.1 h
    simp only [qCc,decide_eq_true_eq] at h1 h2 h3
    exact ⟨_,h,by simp only [yhT,hb,h0,Bool.true_eq_false,if_false];rw [if_pos ⟨h1,h2,h3⟩]⟩
   ·obtain ⟨h1,h⟩:=yar.1 h
    obtain ⟨h2,h⟩:=yar.1 h
    obtain ⟨h3,h⟩:=yar.1 h
    obtain ⟨h4,h⟩:=yar.1 h
    simp only [qCc,decide_eq_true_eq] at h1 h2 h3 h4
    exact ⟨_,h,by simp only [yhT,hb,h0,Bool.true_eq_false,if_false];rw [if_pos ⟨h1,h2,h3,h4⟩]⟩
  ·exact h.elim
 ·exact h.elim
theorem yIy {sh:Sh} {rows:List PV} {i:Nat} {K:PV→Prop} (h:WRow sh rows i K):∃ r,K r∧rows[i]?=some r:=by
 have key:asr (decide (i<rows.length)) (asr (conf sh (rows.getD i .nils)) (K (expl sh (rows.getD i .nils))))→∃ r,K r∧rows[i]?=some r:=by
  intro h
  obtain ⟨h1,h⟩:=yar.1 h
  obtain ⟨h2,h⟩:=yar.1 h
  have hi:i<rows.length:=by simpa using h1
  rw [yBX _ _ h2] at h
  refine ⟨_,h,?_⟩
  rw [qAa hi,qAb,qAa hi];rfl
 unfold WRow at h
 split at h
 ·split at h
  ·rename_i r hr;exact ⟨r,h,hr⟩
  ·exact h.elim
 ·exact key h
theorem yM1 {a:An} {o:AOp} (hc:yhW o=false) (h:WOp E callK a F H o K):yIx E F H o K:=by
 cases o
 case pick c x y =>
  simp only [WOp] at h
  split at h
  ·rename_i t ht
   obtain ⟨h1,h2⟩:=yhk.1 h
   cases t with
   | true =>
    have h:=h1 rfl
    split at h
    ·rename_i p hp;exact ⟨⟨some (.v p),none,H⟩,h,0,fun m _=>by simp only [yap,ht,hp];rfl⟩
    ·exact h.elim
   | false =>
    have h:=h2 rfl
    split at h
    ·rename_i p hp;exact ⟨⟨some (.v p),none,H⟩,h,0,fun m _=>by simp only [yap,ht,hp];rfl⟩
    ·exact h.elim
  ·exact h.elim
 case bin op x y =>
  simp only [WOp] at h
  split at h
  ·rename_i k p k' q hx hy
   obtain ⟨r,hk,hr⟩:=yMZ h
   exact ⟨⟨some (.v r),none,H⟩,hk,0,fun m _=>by simp only [yap,hx,hy,hr];rfl⟩
  ·exact h.elim
 case eqN neg x =>
  simp only [WOp] at h
  split at h
  ·rename_i hx
   exact ⟨⟨some (.v (.bool (bif neg then false else true))),none,H⟩,h,0,fun m _=>by simp only [yap,hx];cases neg <;> rfl⟩
  ·rename_i b hx
   exact ⟨⟨some (.v (.bool (bif neg then !b else b))),none,H⟩,h,0,fun m _=>by simp only [yap,hx];cases neg <;> rfl⟩
  ·rename_i rows hx
   obtain ⟨h1,h⟩:=yar.1 h
   cases rows with
   | nil=>simp at h1
   | cons q l=>exact ⟨⟨some (.v (.bool neg)),none,H⟩,h,0,fun m _=>by simp only [yap,hx];cases neg <;> rfl⟩
  ·rename_i hx
   exact ⟨⟨some (.v (.bool neg)),none,H⟩,h,0,fun m _=>by simp only [yap,hx];cases neg <;> rfl⟩
  ·exact h.elim
 case load agg sz x =>
  simp only [WOp] at h
  split at h
  ·rename_i id ext i off hx
   split at h
   ·rename_i b hb
    obtain ⟨h1,h⟩:=yar.1 h
    obtain ⟨row,h,hr⟩:=yIy h
    split at h
    ·rename_i p hp
     exact ⟨⟨some (.v p),none,H⟩,h,0,fun m _=>by simp only [yap,hx,hb];rw [if_pos (by simpa using h1)];simp only [hr,hp];rfl⟩
    ·exact h.elim
   ·exact h.elim
  ·exact yyR rfl h
 case store sz x y =>
  simp only [WOp] at h
  split at h
  ·rename_i id ext i off hx
   split at h
   ·rename_i p hp
    split at h
    ·rename_i b0 hb0
     obtain ⟨q,H',h,hq⟩:=yvo h
     split at h
     ·rename_i b hb
      obtain ⟨h1,h⟩:=yar.1 h
      obtain ⟨h2,h⟩:=yar.1 h
      obtain ⟨row,h,hr⟩:=yIy h
      split at h
      ·rename_i row' hrow
       refine ⟨⟨none,none,H'.set id { b with rows:=b.rows.set i row' }⟩,h,0,fun m _=>?_⟩
       have e1:b.rows.length=ext:=by simpa using h1
       have e2:b.fz=false:=by simpa using h2
       simp only [yap,hp,hx,hb0,hq,hb,hr,hrow]
       rw [if_pos ⟨e1,e2⟩]
      ·exact h.elim
     ·exact h.elim
    ·exact h.elim
   ·exact h.elim
  ·exact yyR rfl h
 case iad esz x i =>
  simp only [WOp] at h
  split at h
  ·rename_i rows n hx hi
   obtain ⟨h1,h⟩:=yar.1 h
   obtain ⟨h2,h⟩:=yar.1 h
   obtain ⟨h3,h⟩:=yar.1 h
   obtain ⟨h4,h⟩:=yar.1 h
   simp only [decide_eq_true_eq] at h1 h2
   rw [yBX _ _ h3] at h h4
   have hlt:n.toNat<rows.length:=by omega
   have e:rows[n.toNat]?=some (rows.getD n.toNat .nils):=by
    rw [qAa hlt,qAb,qAa hlt];rfl
   refine ⟨⟨_,_,_⟩,h,0,fun m _=>?_⟩
   simp only [yap,hx,hi]
   rw [if_pos ⟨h1,h2⟩]
   simp only [e]
   rw [if_pos (by simpa using h4)]
   rfl
  ·rename_i id lo len ext cap n hx hi
   split at h
   ·rename_i b hb
    obtain ⟨h1,h⟩:=yar.1 h
    obtain ⟨h2,h⟩:=yar.1 h
    obtain ⟨h3,h⟩:=yar.1 h
    simp only [decide_eq_true_eq] at h1 h2 h3
    refine ⟨⟨_,_,_⟩,h,0,fun m _=>?_⟩
    simp only [yap,hx,hi]
    rw [if_pos ⟨h1,h2⟩]
    simp only [hb]
    rw [if_pos h3]
    rfl
   ·exact h.elim
  ·exact h.elim
 case iadA n esz x i =>
  simp only [WOp] at h
  split at h
  ·rename_i s o j hx hi
   obtain ⟨k,h',rfl,hk⟩:=ymd n (qAk _) h
   clear h
   refine ⟨⟨_,_,_⟩,h',0,fun m _=>?_⟩
   simp only [yap,hx,hi]
   rw [if_pos ⟨by omega,by omega⟩]
   simp
  ·rename_i id e r o j hx hi
   obtain ⟨k,h',rfl,hk⟩:=ymd n (qAk _) h
   clear h
   refine ⟨⟨_,_,_⟩,h',0,fun m _=>?_⟩
   simp only [yap,hx,hi]
   rw [if_pos ⟨by omega,by omega⟩]
   simp [outV]
  ·rename_i rows r o j hx hi
   obtain ⟨k,h',rfl,hk⟩:=ymd n (qAk _) h
   clear h
   refine ⟨⟨_,_,_⟩,h',0,fun m _=>?_⟩
   simp only [yap,hx,hi]
   rw [if_pos ⟨by omega,by omega⟩]
   simp [outV]
  ·exact h.elim
 case idx agg n esz x i =>
  simp only [WOp] at h
  split at h
  ·rename_i cs j hx hi
   split at h
   ·obtain ⟨h0,k0⟩:=yar.1 h
    obtain ⟨h1,k1⟩:=yar.1 k0
    obtain ⟨h2,k2⟩:=yar.1 k1
    clear h k0 k1
    simp only [qAd,decide_eq_true_eq,qA2] at h0 h1 h2
    obtain ⟨ha,he,hn,hu⟩:=h0
    have he:=qAj he
    have hn:=qAj hn
    subst ha;subst he
    refine ⟨⟨_,_,_⟩,k2,0,fun m _=>?_⟩
    simp only [yap,hx,hi]
    rw [if_pos ⟨h1,h2⟩]
    have hlt:j.toNat<cs.length:=by omega
    have hcell:cs[j.toNat]?=some (.int .u8 (yac (cs.getD j.toNat .nils))):=yB1 cs _ hu hlt
    simp only [ygr,Nat.mul_one,PV.cells,qAs,if_false,hcell]
    rfl
   obtain ⟨k,h',rfl,hk⟩:=ymd n (qAk _) h
   clear h
   split at h'
   ·rename_i p hp
    refine ⟨⟨_,_,_⟩,h',0,fun m _=>?_⟩
    simp only [yap,hx,hi]
    rw [if_pos ⟨by omega,by omega⟩]
    simp only [qAe,hp]
    rfl
   ·exact h'.elim
  ·exact h.elim
 case slc esz x lo hi mx =>
  simp only [WOp] at h
  split at h
  ·rename_i p l hh m hx hl hhi hm
   split at h
   ·exact h.elim
   ·rename_i hb
    obtain ⟨r,h,hr⟩:=yJJ h
    refine ⟨⟨_,_,_⟩,h,0,fun _ _=>?_⟩
    simp only [yap,hx,hl,hhi,hm]
    rw [if_neg (by rw [hb];exact Bool.false_ne_true)]
    simp only [hr]
    rfl
  ·exact h.elim
 case mkSl pu esz bytes z l c =>
  simp only [WOp] at h
  split at h
  ·rename_i l c hl hc
   obtain ⟨h1,h⟩:=yar.1 h
   obtain ⟨h2,h⟩:=yar.1 h
   obtain ⟨h3,h⟩:=yar.1 h
   simp only [decide_eq_true_eq] at h1 h2 h3
   refine ⟨⟨_,_,_⟩,h,0,fun _ _=>?_⟩
   simp only [yap,hl,hc]
   rw [if_pos ⟨h1,h2,h3⟩]
   rfl
  ·exact h.elim
 case app pu esz bytes s x =>
  simp only [WOp] at h
  split at h
  ·rename_i s x hs hx
   obtain ⟨ys,h,hy⟩:=yK9 h
   obtain ⟨h1,h⟩:=yar.1 h
   obtain ⟨h2,h⟩:=yar.1 h
   obtain ⟨r,H',h,hr⟩:=yM0 hy h1 h2 h
   refine ⟨⟨_,_,_⟩,h,0,fun _ _=>?_⟩
   simp only [yap,hs,hx,hr]
   rfl
  ·exact h.elim
 case appZ pu esz bytes z s n =>
  simp only [WOp] at h
  split at h
  ·rename_i k hs hk
   obtain ⟨h1,h⟩:=yar.1 h
   have h1:0≤k:=by simpa using h1
   obtain ⟨ha,hb⟩:=yhk.1 h
   cases h0:decide (k.toNat=0) with
   | true =>
    refine ⟨⟨_,_,_⟩,ha h0,0,fun _ _=>?_⟩
    have h0:k.toNat=0:=by simpa using h0
    simp only [yap,hs,hk,appZ]
    rw [if_pos h1,if_pos h0]
    rfl
   | false =>
    obtain ⟨r,H',h2,hr⟩:=yqx (hb h0)
    refine ⟨⟨_,_,_⟩,h2,0,fun _ _=>?_⟩
    have h0:¬k.toNat=0:=by simpa using h0
    simp only [yap,hs,hk,appZ]
    rw [if_pos h1,if_neg h0,hr]
    rfl
  ·exact h.elim
 case clr pu esz z x =>
  simp only [WOp] at h
  split at h
  ·rename_i hx
   exact ⟨⟨_,_,_⟩,h,0,fun _ _=>by simp only [yap,hx,clrV];rfl⟩
  ·rename_i hx
   exact ⟨⟨_,_,_⟩,h,0,fun _ _=>by simp only [yap,hx,clrV];rfl⟩
  ·rename_i hx
   exact ⟨⟨_,_,_⟩,h,0,fun _ _=>by simp only [yap,hx,clrV];rfl⟩
  ·rename_i id lo len ext cap hx
   split at h
   ·rename_i b hb
    obtain ⟨ha,hb2⟩:=yhk.1 h
    cases len with
    | zero=>exact ⟨⟨_,_,_⟩,ha rfl,0,fun _ _=>by simp only [yap,hx,clrV];rfl⟩
    | succ len =>
     have h:=hb2 (by simp)
     obtain ⟨h1,h⟩:=yar.1 h
     obtain ⟨h2,h⟩:=yar.1 h
     obtain ⟨h3,h⟩:=yar.1 h
     obtain ⟨h4,h⟩:=yar.1 h
     obtain ⟨h5,h⟩:=yar.1 h
     simp only [decide_eq_true_eq,qA2,beq_iff_eq] at h1 h2 h3 h4
     have h5:=qAj h5
     refine ⟨⟨_,_,_⟩,h,0,fun _ _=>?_⟩
     simp only [yap,hx,clrV,hb]
     rw [if_pos ⟨h1,h2,h3,h4,h5⟩]
     rfl
   ·exact h.elim
  ·exact h.elim
 case boxH pu esz x =>
  simp only [WOp] at h
  split at h
  ·rename_i p hp
   obtain ⟨q,H',h,hq⟩:=yvo h
   obtain ⟨h1,h⟩:=yar.1 h
   simp only [qAd] at h1
   refine ⟨⟨_,_,_⟩,h,0,fun _ _=>?_⟩
   simp only [yap,hp,hq]
   rw [if_pos ⟨qAj h1.1,h1.2⟩]
  ·exact h.elim
 case bSl pu esz z len parts =>
  simp only [WOp] at h
  split at h
  ·exact ⟨⟨_,_,_⟩,h,0,fun _ _=>by simp only [yap,if_true];rfl⟩
  ·obtain ⟨rows,H',h,e⟩:=ytG _ _ _ _ h
   refine ⟨⟨_,_,_⟩,h,0,fun _ _=>?_⟩
   simp only [yap,e]
   rfl
 case buildN pu esz z len parts =>
  simp only [WOp] at h
  split at h
  ·exact ⟨⟨_,_,_⟩,h,0,fun _ _=>by simp only [yap,if_true];rfl⟩
  ·obtain ⟨rows,H',h,e⟩:=ytG _ _ _ _ h
   refine ⟨⟨_,_,_⟩,h,0,fun _ _=>?_⟩
   simp only [yap,e]
   rfl
 case bD esz z len parts =>
  simp only [WOp] at h
  split at h
  ·exact ⟨⟨_,_,_⟩,h,0,fun _ _=>by simp only [yap,if_true];rfl⟩
  ·obtain ⟨rows,H',h,e⟩:=ytG _ _ _ _ h
   refine ⟨⟨_,_,_⟩,h,0,fun _ _=>?_⟩
   simp only [yap,e]
   rfl
 case mvD x =>
  simp only [WOp] at h
  split at h
  ·rename_i p hp
   obtain ⟨y,H',h,e⟩:=yyS h
   split at h
   ·exact ⟨⟨_,_,_⟩,h,0,fun _ _=>by simp only [yap,hp,e];rfl⟩
   ·exact h.elim
  ·exact h.elim
 case call f args=>simp [yhW] at hc
 all_goals exact yyR rfl h
theorem yLa {P:EP} (hP:Sub P E) (hG:Good P callK) {a:An} {o:AOp} (h:WOp E callK a F H o K):yOf P F H o K:=by
 cases hc:yhW o with
 | false =>
  obtain ⟨out,hk,m0,hm⟩:=yM1 hc h
  refine ⟨out,hk,0,fun n e m _ hp _=>?_⟩
  have hl:=hP n e hp
  unfold Like at hl
  rw [hl,yHk hc _ (yca E m0)]
  exact hm m0 (qAk _)
 | true =>
  cases o with
  | call f args =>
   simp only [WOp] at h
   split at h
   ·rename_i g vs hg hvs
    obtain ⟨r,H',h,m0,hm⟩:=hG _ _ _ _ h
    refine ⟨⟨_,_,_⟩,h,m0,fun n e m hn hp hle=>?_⟩
    have hl:=hP n e hp
    have e1:evV e F f=some g:=by unfold Like at hl;rw [hl,yhm];exact hg
    have e2:evs e F args=some vs:=by unfold Like at hl;rw [hl,yo6];exact hvs
    simp only [yap,e1,e2,hm n e m hn hp hle]
    rfl
   ·exact h.elim
  | _=>simp [yhW] at hc
theorem yqy:∀ (F:Frm) (s:Nat) (x:FV),fget F s=some x→frep F s x=F
 | [],_,_,h=>by simp [fget] at h
 | (k,y)::r,s,x,h=>by
  simp only [fget] at h
  simp only [frep]
  by_cases hk:k=s
  ·subst hk
   simp only [if_true,qAg] at h
   subst h
   simp
  ·rw [if_neg hk] at h
   have:Nat.beq k s=false:=by
    cases e:Nat.beq k s with
    | true=>exact absurd (qAj e) hk
    | false=>rfl
   rw [this,yqy r s x h]
   rfl
theorem yIz {c:Opd} {b:Bool} (h:evV E F c=some (.bool b)):fref F c b=F:=by
 cases c with
 | t s =>
  simp only [evV,ev] at h
  simp only [fref]
  apply yqy
  cases e:fget F s with
  | none=>simp [e] at h
  | some fv=>cases fv <;> simp [e] at h;rw [h]
 | _=>rfl
theorem yB2 {g:Option (Nat×Bool)} {yes no:Frm→Prop} (h:yC7 F g yes no):(yeW F g=some true∧yes F)∨(yeW F g=some false∧no F):=by
 unfold yC7 at h
 split at h
 ·exact .inl ⟨rfl,h⟩
 ·rename_i s want
  split at h
  ·rename_i b hb
   have e:yeW F (some (s,want))=some (b == want):=by simp only [yeW,hb]
   split at h
   ·cases b with
    | true=>have h:yes (frep F s (.v (.bool true))):=h;rw [yqy _ _ _ hb] at h;exact .inl ⟨by rw [e];rfl,h⟩
    | false=>have h:no (frep F s (.v (.bool false))):=h;rw [yqy _ _ _ hb] at h;exact .inr ⟨by rw [e];rfl,h⟩
   ·cases b with
    | true=>have h:no (frep F s (.v (.bool true))):=h;rw [yqy _ _ _ hb] at h;exact .inr ⟨by rw [e];rfl,h⟩
    | false=>have h:yes (frep F s (.v (.bool false))):=h;rw [yqy _ _ _ hb] at h;exact .inl ⟨by rw [e];rfl,h⟩
  ·rename_i hb
   exact .inr ⟨by simp only [yeW,hb],h⟩
  ·exact h.elim
theorem yxT {P:EP} (hP:Sub P E) (hG:Good P callK) {an:List An}:∀ (l:List AO) (i:Nat) (F:Frm) (H:Hp) (K:Frm→Hp→Prop),WOps E callK an l i F H K →
  ∃ F' H',K F' H'∧∃ m0,∀ n e m,m0≤n→P n e→m0≤m→ygs e (yca e m) l F H=some (F',H')
 | [],i,F,H,K,h=>⟨F,H,h,0,fun _ _ _ _ _ _=>rfl⟩
 | o::r,i,F,H,K,h=>by
  simp only [WOps] at h
  rcases yB2 h with ⟨hg,h⟩ | ⟨hg,h⟩
  ·obtain ⟨out,h,m0,hm⟩:=yLa hP hG h
   split at h
   ·exact h.elim
   ·rename_i F' hF'
    rw [yyM] at h
    obtain ⟨F2,H2,hk,m1,hm1⟩:=yxT hP hG r (i+1) F' out.h K h
    refine ⟨F2,H2,hk,max m0 m1,fun n e m hn hp hle=>?_⟩
    have e0:yjM e (yca e m) F H o=some (F',out.h):=by
     simp only [yjM,hg,hm n e m (by omega) hp (by omega),hF',Option.map]
    simp only [ygs,e0]
    exact hm1 n e m (by omega) hp (by omega)
  ·obtain ⟨F2,H2,hk,m1,hm1⟩:=yxT hP hG r (i+1) (yqw F o.dst) H K h
   refine ⟨F2,H2,hk,m1,fun n e m hn hp hle=>?_⟩
   have e0:yjM e (yca e m) F H o=some (yqw F o.dst,H):=by
    simp only [yjM,hg]
    cases o.dst <;> rfl
   simp only [ygs,e0]
   exact hm1 n e m hn hp hle
def yC9:List FP→List FP→Prop
 | [],[]=>True
 | p::r,q::s=>(∃ H H1,q=p.tight H H1)∧yC9 r s
 | _,_=>False
theorem yC9.get:∀ (l l':List FP),yC9 l l'→∀ (i:Nat) (p:FP),l[i]?=some p→∃ q:FP,l'[i]?=some q∧∃ H H1,q=p.tight H H1
 | [],_,_,i,p,e=>by simp at e
 | p::r,[],h,_,_,_=>h.elim
 | p::r,q::s,h,i,x,e=>by
  obtain ⟨h1,h2⟩:=h
  cases i with
  | zero=>simp at e;subst e;exact ⟨q,rfl,h1⟩
  | succ i=>simp at e;simpa using yC9.get r s h2 i x e
theorem yvp:∀ l:List Nat,meets l []=false
 | []=>rfl
 | x::r=>by simp only [meets,yvp r];rfl
theorem yFm {p q:FP} {H1 H2 H3 H4:Hp} (h:yrn p q=false):yrn (p.tight H1 H2) (q.tight H3 H4)=false:=by
 have hp:∀ {x:FP},x.heapy=false→x.push=false∧x.all=false∧x.hr=[]∧x.hw=[]:=by
  intro x hx
  simp only [FP.heapy,qB7,Bool.not_eq_false',List.isEmpty_iff] at hx
  exact ⟨hx.1.1.1,hx.1.1.2,hx.1.2,hx.2⟩
 unfold FP.tight
 cases ea:p.all with
 | true =>
  simp only [yrn,ea,qA7,qB7] at h
  obtain ⟨⟨⟨⟨⟨⟨⟨⟨A,B⟩,C⟩,D⟩,_⟩,_⟩,_⟩,_⟩,_⟩:=h
  obtain ⟨h1,h2,h3,h4⟩:=hp D
  simp [h2,yrn,h1,h3,h4,yvp,A,B,C,meets]
 | false =>
  cases eb:q.all with
  | true =>
   simp only [yrn,ea,eb,qA7,qB7] at h
   obtain ⟨⟨⟨⟨⟨⟨⟨⟨A,B⟩,C⟩,_⟩,D⟩,_⟩,_⟩,_⟩,_⟩:=h
   obtain ⟨h1,h2,h3,h4⟩:=hp D
   simp [h2,yrn,h1,h3,h4,yvp,A,B,C,meets]
  | false=>simpa using h
theorem ywD {l l':List FP} (ht:yC9 l l'):∀ (pairs:List (Nat×Nat)),yjN l pairs=true→yjN l' pairs=true
 | [],_=>rfl
 | (i,j)::r,h=>by
  simp only [yjN,qAd] at h ⊢
  refine ⟨?_,ywD ht r h.2⟩
  have h1:=h.1
  split at h1
  ·rename_i p q e1 e2
   obtain ⟨p',k1,_,_,rfl⟩:=yC9.get l l' ht i p e1
   obtain ⟨q',k2,_,_,rfl⟩:=yC9.get l l' ht j q e2
   rw [k1,k2]
   simp only [qA2] at h1 ⊢
   exact yFm h1
  ·cases h1
theorem yDa {P:EP} (hP:Sub P E) (hG:Good P callK) {an:List An} {F0:Frm} {l0:List AO} {pairs:List (Nat×Nat)}:∀ (l:List AO) (i:Nat) (F:Frm) (H:Hp) (ps:List FP) (K:Frm→Hp→Prop),WFps E callK an F0 l0 pairs l i F H ps K →
  ∃ F' H' qs qt,K F' H'∧yjN (ps.reverse++qs) pairs=true∧yqk F0 l0 l0=true∧yC9 qs qt∧∃ m0,∀ n e m,m0≤n→P n e→m0≤m→yoX e (yca e m) l F H=some (F',H',qt)
 | [],i,F,H,ps,K,h=>by
  simp only [WFps] at h
  obtain ⟨h1,h⟩:=yar.1 h
  simp only [qAd] at h1
  exact ⟨F,H,[],[],h,by simpa using h1.1,h1.2,trivial,0,fun _ _ _ _ _ _=>rfl⟩
 | o::r,i,F,H,ps,K,h=>by
  simp only [WFps] at h
  have hfp:∀ n e,P n e→∀ F H,yfJ e F H o=yfJ E F H o:=by
   intro n e hp F H
   have hl:=hP n e hp
   unfold Like at hl
   rw [hl]
   simp only [yfJ,yJI]
  rcases yB2 h with ⟨hg,h⟩ | ⟨hg,h⟩
  ·obtain ⟨out,h,m0,hm⟩:=yLa hP hG h
   split at h
   ·exact h.elim
   ·rename_i F' hF'
    rw [yyM] at h
    obtain ⟨F2,H2,qs,qt,hk,ha,hb,ht,m1,hm1⟩:=yDa hP hG r (i+1) F' out.h (yBZ E F H o::ps) K h
    refine ⟨F2,H2,yBZ E F H o::qs,(yBZ E F H o).tight H out.h::qt,hk,by simpa using ha,hb,⟨⟨_,_,rfl⟩,ht⟩,max m0 m1,fun n e m hn hp hle=>?_⟩
    have e0:yji e (yca e m) o (F,H)=some (F',out.h):=by
     simp only [yji,hg,hm n e m (by omega) hp (by omega),hF',Option.map]
    have e2:yfJ E F H o=yBZ E F H o:=by simp only [yfJ,hg,yBZ]
    simp only [yoX,e0,hm1 n e m (by omega) hp (by omega),hfp n e hp,e2]
  ·obtain ⟨F2,H2,qs,qt,hk,ha,hb,ht,m1,hm1⟩:=yDa hP hG r (i+1) (yqw F o.dst) H (fpNo o::ps) K h
   refine ⟨F2,H2,fpNo o::qs,(fpNo o).tight H H::qt,hk,by simpa using ha,hb,⟨⟨_,_,rfl⟩,ht⟩,m1,fun n e m hn hp hle=>?_⟩
   have e0:yji e (yca e m) o (F,H)=some (yqw F o.dst,H):=by
    simp only [yji,hg]
    cases o.dst <;> rfl
   have e2:yfJ E F H o=fpNo o:=by simp only [yfJ,hg,fpNo]
   simp only [yoX,e0,hm1 n e m hn hp hle,hfp n e hp,e2]
def yFn (P:EP) (c:AC) (F:Frm) (H:Hp) (Q:Ex→Frm→Hp→Prop):Prop :=
 ∃ x F' H',Q x F' H'∧∃ m0,∀ n e m,m0≤n→P n e→m0≤m→exec e m c F H=some (x,F',H')
theorem yFn.sub {P P':EP} {c:AC} {F:Frm} {H:Hp} {Q:Ex→Frm→Hp→Prop} (h:yFn P c F H Q) (hs:∀ n e,P' n e→P n e):yFn P' c F H Q:=by
 obtain ⟨x,F',H',h1,m0,h2⟩:=h
 exact ⟨x,F',H',h1,m0,fun n e m k1 k2 k3=>h2 n e m k1 (hs n e k2) k3⟩
def yok (P:EP) (c:TC) (F:Frm) (H:Hp) (Q:Ex→Frm→Hp→Prop):Prop:=yFn P (erase c) F H Q
def ycI:TC→Bool
 | .seq a b | .cond _ a b=>ycI a&&ycI b
 | .block _ b=>ycI b
 | .loop _ b=>ycI b
 | .lG _ b=>ycI b
 | .rangeF _ _ _ _ _ _ _=>false
 | _=>true
def LpOk (P:EP) (E:Env) (lp:LP) (G:Frm):TC→Prop
 | .seq a b=>LpOk P E lp G a∧LpOk P E lp G b
 | .cond _ a b=>LpOk P E lp G a∧LpOk P E lp G b
 | .block _ b=>LpOk P E lp G b
 | .loop id b=>LpOk P E lp G b∧∀ F H Q,lp id G F H Q→yok P (.loop id b) F H Q
 | .lG id b=>LpOk P E lp G b∧∀ F H Q,lp id G F H Q→yok P (.lG id b) F H Q
 | .rangeF _ f np ib ps as bd=>(∃ rs,E.fns f=some ⟨np,rs,erase ib⟩∧rs.length=0)∧(ycI ib=true∧ycI as=true∧ycI bd=true)∧(∀ G,LpOk (Rng E G ps (erase as) (erase bd)) E lp G ib)∧LpOk (Ats E) E lp [] as∧LpOk (Ats E) E lp [] bd
 | _=>True
def yci:TC→List (Nat×TC)
 | .seq a b | .cond _ a b=>yci a++yci b
 | .block _ b=>yci b
 | .loop id b=>yci b++[(id,.loop id b)]
 | .lG id b=>yci b++[(id,.lG id b)]
 | _=>[]
theorem ykR {P:EP} {E:Env} {lp:LP} {G:Frm}:∀ (c:TC),ycI c=true→(∀ p∈yci c,∀ F H Q,lp p.1 G F H Q→yok P p.2 F H Q)→LpOk P E lp G c
 | .skip,_,_ | .ops _ _ _ _,_,_ | .exit _,_,_ | .ret,_,_ | .bad,_,_ | .yret _ _ _ _ _ _ _,_,_ | .cut _,_,_=>trivial
 | .rangeF _ _ _ _ _ _ _,hf,_=>by simp [ycI] at hf
 | .seq a b,hf,h=>by
  simp only [ycI,qAd] at hf
  exact ⟨ykR a hf.1 fun p hp=>h p (by simp only [yci,qAu];exact .inl hp),ykR b hf.2 fun p hp=>h p (by simp only [yci,qAu];exact .inr hp)⟩
 | .cond _ a b,hf,h=>by
  simp only [ycI,qAd] at hf
  exact ⟨ykR a hf.1 fun p hp=>h p (by simp only [yci,qAu];exact .inl hp),ykR b hf.2 fun p hp=>h p (by simp only [yci,qAu];exact .inr hp)⟩
 | .block _ b,hf,h=>ykR b hf h
 | .loop id b,hf,h=>⟨ykR b hf fun p hp=>h p (by simp only [yci,qAu];exact .inl hp),h (id,.loop id b) (by simp [yci])⟩
 | .lG id b,hf,h=>⟨ykR b hf fun p hp=>h p (by simp only [yci,qAu];exact .inl hp),h (id,.lG id b) (by simp [yci])⟩
def YOk (P:EP) (E:Env) (yk:YK):Prop:=∀ vs H K,yk vs H K→∃ r H',K r H'∧∃ m0,∀ n e,m0≤n→P n e→e.yl e.yn E.yn vs H=some (r,H')
theorem YOk.no (P:EP) (E:Env):YOk P E noYK:=fun _ _ _ h=>h.elim
def yj6 (P:EP) (E:Env) (callK:CK) (c:TC):Prop:=ycI c=false→Good (Uni E) callK∧∀ n e,P n e→e=E
theorem yFn.up {P:EP} {c:AC} {F:Frm} {H:Hp} {Q:Ex→Frm→Hp→Prop} {x:Ex} {F':Frm} {H':Hp} {m0:Nat} (hk:Q x F' H') (h:∀ n e k,m0≤n→P n e→m0≤k→exec e (k+1) c F H=some (x,F',H')):yFn P c F H Q :=
 ⟨x,F',H',hk,m0+1,fun n e m hn hp hm=>by
  obtain ⟨k,rfl⟩:∃ k,m=k+1:=⟨m-1,by omega⟩
  exact h n e k (by omega) hp (by omega)⟩
def yDb (E:Env) (F:Frm) (H:Hp):Option (Ex×Frm×Hp)→Option (Ex×Frm×Hp)
 | some (.norm,_,H') | some (.ret,_,H')=>(match clrY E.yn H.length H' with | some H2=>some (.norm,F,H2) | none=>none)
 | some (.brk k i,_,H')=>if k=E.yn then (match clrY E.yn H.length H' with | some H2=>some (.exit i,F,H2) | none=>none) else none
 | _=>none
theorem ysp {E:Env} {n:Nat} {g:Opd} {ps:List Nat} {as bd:AC} {F:Frm} {H:Hp} {f:Nat} {first cap:List PV} {fn:AFn} (hg:evV E F g=some (.fn (.func f) first cap)) (hf:E.fns f=some fn) (hc:(first++[PV.fn (.yield E.yn) [] []]++cap).length=fn.nparams∧fn.results.length=0) :
  exec E (n+1) (.rangeF g ps as bd) F H=yDb E F H (exec (E.push ⟨yfR F,ps,as,bd⟩ (hnd E (yfR F) ps as bd n)) n fn.body (yfY 0 (first++[PV.fn (.yield E.yn) [] []]++cap)) H):=by
 simp only [exec,hg]
 simp only [hf]
 rw [if_pos hc]
 rfl
theorem yIA {K n0:Nat}:∀ (H:Hp) (i:Nat),noYH (noY K) (fun _=>true) H=true→badY K n0 [] i H=[]
 | [],_,_=>rfl
 | b::r,i,h=>by
  simp only [noYH,qAd] at h
  have h1:ybI (noY K) (fun id=>!memB [] id) b.rows=true:=h.1
  simp only [badY,h1,qBp,Bool.and_false,cond_false]
  exact yIA r (i+1) h.2
theorem yM2 {K n0:Nat} {H:Hp} (h:noYH (noY K) (fun _=>true) H=true):clrY K n0 H=some H:=by
 simp only [clrY,yIA H 0 h,h,cond_true]
theorem yme {lp:LP}:∀ (c:TC) (P:EP) (_:Sub P E) (_:Good P callK) (_:yj6 P E callK c) (G:Frm) (yk:YK) (_:YOk P E yk) (_:LpOk P E lp G c) (F:Frm) (H:Hp) (Q:Ex→Frm→Hp→Prop),WC E callK lp G yk c F H Q→yFn P (erase c) F H Q
 | .skip,P,hP,hG,hR,G,yk,hY,_,F,H,Q,h=>by
  simp only [WC] at h
  exact yFn.up (m0:=0) h fun n e k _ _ _=>by simp only [erase,exec]
 | .exit id,P,hP,hG,hR,G,yk,hY,_,F,H,Q,h=>by
  simp only [WC] at h
  exact yFn.up (m0:=0) h fun n e k _ _ _=>by simp only [erase,exec]
 | .ret,P,hP,hG,hR,G,yk,hY,_,F,H,Q,h=>by
  simp only [WC] at h
  exact yFn.up (m0:=0) h fun n e k _ _ _=>by simp only [erase,exec]
 | .bad,P,hP,hG,hR,G,yk,hY,_,F,H,Q,h=>by simp only [WC] at h
 | .cut _,P,hP,hG,hR,G,yk,hY,_,F,H,Q,h=>by simp only [WC] at h
 | .ops l an ps fg,P,hP,hG,hR,G,yk,hY,_,F,H,Q,h=>by
  cases ps with
  | nil =>
   simp only [WC] at h
   obtain ⟨F',H',hk,m0,hm⟩:=yxT hP hG l 0 F H _ h
   rw [yyM] at hk
   exact yFn.up (m0:=m0) hk fun n e k hn hp hle=>by simp only [erase,exec,yjO,hm n e k hn hp hle]
  | cons p ps =>
   simp only [WC] at h
   obtain ⟨F',H',qs,qt,hk,ha,hb,ht,m0,hm⟩:=yDa hP hG l 0 _ H [] _ h
   rw [yyM] at hk
   refine yFn.up (m0:=m0) hk fun n e k hn hp hle=>?_
   simp only [erase,exec,yjO,hm n e k hn hp hle]
   rw [if_pos ⟨ywD ht _ (by simpa using ha),hb⟩]
 | .seq a b,P,hP,hG,hR,G,yk,hY,hl,F,H,Q,h=>by
  simp only [WC] at h
  simp only [LpOk] at hl
  have hRa:yj6 P E callK a:=fun hf=>hR (by simp only [ycI,hf,qBm])
  have hRb:yj6 P E callK b:=fun hf=>hR (by simp only [ycI,hf,Bool.and_false])
  obtain ⟨x,F',H',hk,m0,hm⟩:=yme a P hP hG hRa G yk hY hl.1 F H _ h
  cases x with
  | norm =>
   obtain ⟨x2,F2,H2,hk2,m1,hm1⟩:=yme b P hP hG hRb G yk hY hl.2 F' H' Q hk
   exact yFn.up (m0:=max m0 m1) hk2 fun n e k hn hp hle=>by simp only [erase,exec,hm n e k (by omega) hp (by omega),hm1 n e k (by omega) hp (by omega)]
  | exit i=>exact yFn.up (m0:=m0) hk fun n e k hn hp hle=>by simp only [erase,exec,hm n e k hn hp hle]
  | ret=>exact yFn.up (m0:=m0) hk fun n e k hn hp hle=>by simp only [erase,exec,hm n e k hn hp hle]
  | brk _ _=>exact yFn.up (m0:=m0) hk fun n e k hn hp hle=>by simp only [erase,exec,hm n e k hn hp hle]
 | .cond c a b,P,hP,hG,hR,G,yk,hY,hl,F,H,Q,h=>by
  simp only [WC] at h
  simp only [LpOk] at hl
  have hRa:yj6 P E callK a:=fun hf=>hR (by simp only [ycI,hf,qBm])
  have hRb:yj6 P E callK b:=fun hf=>hR (by simp only [ycI,hf,Bool.and_false])
  split at h
  ·rename_i t ht
   have hte:∀ n e,P n e→evV e F c=some (.bool t):=fun n e hp=>by
    have hl:=hP n e hp
    unfold Like at hl
    rw [hl,yhm];exact ht
   obtain ⟨h1,h2⟩:=yhk.1 h
   cases t with
   | true =>
    obtain ⟨x,F',H',hk,m0,hm⟩:=yme a P hP hG hRa G yk hY hl.1 F H Q (yIz ht ▸ h1 rfl)
    exact yFn.up (m0:=m0) hk fun n e k hn hp hle=>by simp only [erase,exec,hte n e hp,hm n e k hn hp hle]
   | false =>
    obtain ⟨x,F',H',hk,m0,hm⟩:=yme b P hP hG hRb G yk hY hl.2 F H Q (yIz ht ▸ h2 rfl)
    exact yFn.up (m0:=m0) hk fun n e k hn hp hle=>by simp only [erase,exec,hte n e hp,hm n e k hn hp hle]
  ·exact h.elim
 | .block id b,P,hP,hG,hR,G,yk,hY,hl,F,H,Q,h=>by
  simp only [WC] at h
  simp only [LpOk] at hl
  have hRb:yj6 P E callK b:=fun hf=>hR (by simp only [ycI,hf])
  obtain ⟨x,F',H',hk,m0,hm⟩:=yme b P hP hG hRb G yk hY hl F H _ h
  cases x with
  | norm=>exact yFn.up (m0:=m0) hk fun n e k hn hp hle=>by simp only [erase,exec,hm n e k hn hp hle]
  | exit i =>
   simp only at hk
   cases hb:Nat.beq i id with
   | true =>
    rw [hb] at hk
    have e:=qAj hb
    subst e
    exact yFn.up (m0:=m0) (x:=.norm) hk fun n e k hn hp hle=>by simp only [erase,exec,hm n e k hn hp hle,if_true]
   | false =>
    rw [hb] at hk
    have e:¬i=id:=fun e=>by subst e;rw [qB1] at hb;cases hb
    exact yFn.up (m0:=m0) (x:=.exit i) hk fun n e' k hn hp hle=>by simp only [erase,exec,hm n e' k hn hp hle,e,if_false]
  | ret=>exact yFn.up (m0:=m0) hk fun n e k hn hp hle=>by simp only [erase,exec,hm n e k hn hp hle]
  | brk _ _=>exact yFn.up (m0:=m0) hk fun n e k hn hp hle=>by simp only [erase,exec,hm n e k hn hp hle]
 | .loop id b,P,hP,hG,hR,G,yk,hY,hl,F,H,Q,h=>by
  simp only [WC] at h
  simp only [LpOk] at hl
  exact hl.2 F H Q h
 | .lG id b,P,hP,hG,hR,G,yk,hY,hl,F,H,Q,h=>by
  simp only [WC] at h
  simp only [LpOk] at hl
  exact hl.2 F H Q h
 | .yret c pre d y args e0 fgt,P,hP,hG,hR,G,yk,hY,_,F,H,Q,h=>by
  simp only [WC] at h
  obtain ⟨F1,H1,hk,m0,hm⟩:=yxT hP hG pre 0 F H _ h
  split at hk
  ·rename_i k vs hy hvs
   obtain ⟨hb,hk⟩:=yar.1 hk
   have hb:=qAj hb
   subst hb
   obtain ⟨r,H2,hk,m1,hm1⟩:=hY _ _ _ hk
   have hye:∀ n e,P n e→evV e F1 y=some (.fn (.yield E.yn) [] [])∧evs e F1 args=some vs:=fun n e hp=>by
    have hl:=hP n e hp
    unfold Like at hl
    rw [hl,yhm,yo6];exact ⟨hy,hvs⟩
   cases r with
   | none =>
    simp only [yyM] at hk
    refine yFn.up (m0:=max m0 m1) hk fun n e k hn hp hle=>?_
    simp only [erase,exec,yjO,hm n e k (by omega) hp (by omega),(hye n e hp).1,(hye n e hp).2,hm1 n e (by omega) hp]
   | some i =>
    refine yFn.up (m0:=max m0 m1) hk fun n e k hn hp hle=>?_
    simp only [erase,exec,yjO,hm n e k (by omega) hp (by omega),(hye n e hp).1,(hye n e hp).2,hm1 n e (by omega) hp]
  ·exact hk.elim
 | .rangeF g f np ib ps as bd,P,hP,hG,hR,G,yk,hY,hl,F,H,Q,h=>by
  simp only [WC] at h
  simp only [LpOk] at hl
  obtain ⟨⟨rs,hfn,hrs⟩,hflat,hl1,hl2,hl3⟩:=hl
  obtain ⟨hU,hE⟩:=hR rfl
  split at h
  ·rename_i n first cap hg
   obtain ⟨hc,h2⟩:=yar.1 h
   clear h
   simp only [qAd,decide_eq_true_eq] at hc
   have hn:=qAj hc.1
   subst hn
   have hq:∀ (P':EP) (c:TC) (_:Sub P' E),ycI c=true→yj6 P' E callK c:=fun _ _ _ hf hf'=>by rw [hf] at hf';cases hf'
   have hyo:YOk (Rng E (yfR F) ps (erase as) (erase bd)) E (fun vs H K=>match ylS (yfR F) ps vs with
      | some F1=>WC E callK lp [] noYK as F1 H fun x F2 H2=>match x with
       | .norm=>WC E callK lp [] noYK bd F2 H2 fun x _ H3=>match x with
        | .norm=>K none H3
        | .exit i=>K (some i) H3
        | .ret | .brk _ _=>False
       | .exit _ | .ret | .brk _ _=>False
      | none=>False):=by
    intro vs H K hk
    simp only at hk
    split at hk
    ·rename_i F1 hF1
     obtain ⟨x,F2,H2,hk,m0,hm⟩:=yme as (Ats E) (Sub.ats E) (hU.sub (Sub.ats E)) (hq _ _ (Sub.ats E) hflat.2.1) [] noYK (YOk.no _ _) hl2 F1 H _ hk
     cases x with
     | norm =>
      simp only at hk
      obtain ⟨x,F3,H3,hk,m1,hm1⟩:=yme bd (Ats E) (Sub.ats E) (hU.sub (Sub.ats E)) (hq _ _ (Sub.ats E) hflat.2.2) [] noYK (YOk.no _ _) hl3 F2 H2 _ hk
      have key:∀ n e,max m0 m1≤n→Rng E (yfR F) ps (erase as) (erase bd) n e→e.yl e.yn E.yn vs H=hnd E (yfR F) ps (erase as) (erase bd) n (E.yn+1) vs H:=by
       intro n e hn he
       cases he
       simp only [Env.push,if_true]
      cases x with
      | norm =>
       refine ⟨none,H3,hk,max m0 m1,fun n e hn he=>?_⟩
       rw [key n e hn he]
       simp only [hnd,hF1,hm n _ n (by omega) rfl (by omega),hm1 n _ n (by omega) rfl (by omega)]
      | exit i =>
       refine ⟨some i,H3,hk,max m0 m1,fun n e hn he=>?_⟩
       rw [key n e hn he]
       simp only [hnd,hF1,hm n _ n (by omega) rfl (by omega),hm1 n _ n (by omega) rfl (by omega)]
      | ret=>exact hk.elim
      | brk _ _=>exact hk.elim
     | exit i=>exact hk.elim
     | ret=>exact hk.elim
     | brk _ _=>exact hk.elim
    ·exact hk.elim
   obtain ⟨x,F',H',hk,m0,hm⟩:=yme ib (Rng E (yfR F) ps (erase as) (erase bd)) (Sub.rng E (yfR F) ps (erase as) (erase bd)) (hU.sub (Sub.rng E (yfR F) ps (erase as) (erase bd))) (hq _ _ (Sub.rng E (yfR F) ps (erase as) (erase bd)) hflat.1) (yfR F) _ hyo (hl1 _) _ H _ h2
   have hclr:∀ {H':Hp} {Q':Hp→Prop},WClr E.yn H' Q'→Q' H'∧clrY E.yn H.length H'=some H':=fun hw=>by
    obtain ⟨h1,h2⟩:=yar.1 hw
    exact ⟨h2,yM2 h1⟩
   have run:∀ k,m0≤k→exec (E.push ⟨yfR F,ps,erase as,erase bd⟩ (hnd E (yfR F) ps (erase as) (erase bd) k)) k (erase ib) (yfY 0 (first++[PV.fn (.yield E.yn) [] []]++cap)) H=some (x,F',H'):=fun k hle=>hm k _ k hle rfl hle
   cases x with
   | norm =>
    obtain ⟨hk,hcl⟩:=hclr hk
    refine yFn.up (m0:=m0) hk fun n e k hn hp hle=>?_
    cases hE n e hp
    simp only [erase]
    rw [ysp hg hfn ⟨hc.2,hrs⟩]
    simp only
    rw [run k hle]
    simp only [yDb,hcl]
   | ret =>
    obtain ⟨hk,hcl⟩:=hclr hk
    refine yFn.up (m0:=m0) hk fun n e k hn hp hle=>?_
    cases hE n e hp
    simp only [erase]
    rw [ysp hg hfn ⟨hc.2,hrs⟩]
    simp only
    rw [run k hle]
    simp only [yDb,hcl]
   | brk k0 i =>
    obtain ⟨hb,hk2⟩:=yar.1 hk
    clear hk
    have hb:=qAj hb
    subst hb
    obtain ⟨hk,hcl⟩:=hclr hk2
    refine yFn.up (m0:=m0) hk fun n e k hn hp hle=>?_
    cases hE n e hp
    simp only [erase]
    rw [ysp hg hfn ⟨hc.2,hrs⟩]
    simp only
    rw [run k hle]
    simp only [yDb,if_true,hcl]
   | exit i=>exact hk.elim
  ·exact h.elim
theorem yLb {lp:LP} {G:Frm} {ps:List Nat} {as bd:TC} (hU:Good (Uni E) callK) (ha:ycI as=true) (hb:ycI bd=true) (hla:LpOk (Ats E) E lp [] as) (hlb:LpOk (Ats E) E lp [] bd):YOk (Rng E G ps (erase as) (erase bd)) E (WYk E callK lp G ps as bd):=by
 intro vs H K hk
 unfold WYk at hk
 have hq:∀ c,ycI c=true→yj6 (Ats E) E callK c:=fun _ hf hf'=>by rw [hf] at hf';cases hf'
 split at hk
 ·rename_i F1 hF1
  obtain ⟨x,F2,H2,hk,m0,hm⟩:=yme as (Ats E) (Sub.ats E) (hU.sub (Sub.ats E)) (hq _ ha) [] noYK (YOk.no _ _) hla F1 H _ hk
  cases x with
  | norm =>
   simp only at hk
   obtain ⟨x,F3,H3,hk,m1,hm1⟩:=yme bd (Ats E) (Sub.ats E) (hU.sub (Sub.ats E)) (hq _ hb) [] noYK (YOk.no _ _) hlb F2 H2 _ hk
   have key:∀ n e,Rng E G ps (erase as) (erase bd) n e→e.yl e.yn E.yn vs H=hnd E G ps (erase as) (erase bd) n (E.yn+1) vs H:=by
    intro n e he
    cases he
    simp only [Env.push,if_true]
   cases x with
   | norm =>
    refine ⟨none,H3,hk,max m0 m1,fun n e hn he=>?_⟩
    rw [key n e he]
    simp only [hnd,hF1,hm n _ n (by omega) rfl (by omega),hm1 n _ n (by omega) rfl (by omega)]
   | exit i =>
    refine ⟨some i,H3,hk,max m0 m1,fun n e hn he=>?_⟩
    rw [key n e he]
    simp only [hnd,hF1,hm n _ n (by omega) rfl (by omega),hm1 n _ n (by omega) rfl (by omega)]
   | ret=>exact hk.elim
   | brk _ _=>exact hk.elim
  | exit i=>exact hk.elim
  | ret=>exact hk.elim
  | brk _ _=>exact hk.elim
 ·exact hk.elim
theorem yok.intro {id:Nat} {P:EP} (hP:Sub P E) (hG:Good P callK) {lp:LP} {b:TC} (hf:ycI b=true) {G:Frm} {yk:YK} (hY:YOk P E yk) (hl:LpOk P E lp G b) {Q:Ex→Frm→Hp→Prop} (R:Nat→Frm→Hp→Prop) (h0:∀ F H,¬R 0 F H)
  (hs:∀ n F H,R (n+1) F H→WC E callK lp G yk b F H fun x F' H'=>match x with | .norm=>R n F' H' | .exit i=>Q (.exit i) F' H' | .ret=>Q .ret F' H' | .brk k i=>Q (.brk k i) F' H') :
  ∀ n F H,R n F H→yok P (.loop id b) F H Q
 | 0,F,H,h=>(h0 F H h).elim
 | n+1,F,H,h=>by
  obtain ⟨x,F',H',hk,m0,hm⟩:=yme b P hP hG (fun hf'=>by rw [hf] at hf';cases hf') G yk hY hl F H _ (hs n F H h)
  cases x with
  | norm =>
   have hk:R n F' H':=hk
   obtain ⟨x2,F2,H2,hk2,m1,hm1⟩:=yok.intro (id:=id) hP hG hf hY hl R h0 hs n F' H' hk
   simp only [erase] at hm1
   exact yFn.up (m0:=max m0 m1) hk2 fun n e k hn hp hle=>by simp only [erase,exec,hm n e k (by omega) hp (by omega),hm1 n e k (by omega) hp (by omega)]
  | exit i=>exact yFn.up (m0:=m0) hk fun n e k hn hp hle=>by simp only [erase,exec,hm n e k hn hp hle]
  | ret=>exact yFn.up (m0:=m0) hk fun n e k hn hp hle=>by simp only [erase,exec,hm n e k hn hp hle]
  | brk _ _=>exact yFn.up (m0:=m0) hk fun n e k hn hp hle=>by simp only [erase,exec,hm n e k hn hp hle]
theorem yok.introG {id:Nat} {P:EP} (hP:Sub P E) (hG:Good P callK) {lp:LP} {b:TC} (hf:ycI b=true) {G:Frm} {yk:YK} (hY:YOk P E yk) (hl:LpOk P E lp G b) {Q:Ex→Frm→Hp→Prop} (R:Nat→Frm→Hp→Prop) (h0:∀ F H,¬R 0 F H)
  (hs:∀ n F H,R (n+1) F H→WC E callK lp G yk b F H fun x F' H'=>match x with | .norm=>R n F' (gcH F' H.length H') | .exit i=>Q (.exit i) F' H' | .ret=>Q .ret F' H' | .brk k i=>Q (.brk k i) F' H') :
  ∀ n F H,R n F H→yok P (.lG id b) F H Q
 | 0,F,H,h=>(h0 F H h).elim
 | n+1,F,H,h=>by
  obtain ⟨x,F',H',hk,m0,hm⟩:=yme b P hP hG (fun hf'=>by rw [hf] at hf';cases hf') G yk hY hl F H _ (hs n F H h)
  cases x with
  | norm =>
   have hk:R n F' (gcH F' H.length H'):=hk
   obtain ⟨x2,F2,H2,hk2,m1,hm1⟩:=yok.introG (id:=id) hP hG hf hY hl R h0 hs n F' _ hk
   simp only [erase] at hm1
   exact yFn.up (m0:=max m0 m1) hk2 fun n e k hn hp hle=>by simp only [erase,exec,hm n e k (by omega) hp (by omega),hm1 n e k (by omega) hp (by omega)]
  | exit i=>exact yFn.up (m0:=m0) hk fun n e k hn hp hle=>by simp only [erase,exec,hm n e k hn hp hle]
  | ret=>exact yFn.up (m0:=m0) hk fun n e k hn hp hle=>by simp only [erase,exec,hm n e k hn hp hle]
  | brk _ _=>exact yFn.up (m0:=m0) hk fun n e k hn hp hle=>by simp only [erase,exec,hm n e k hn hp hle]
end
def AnsP (P:EP) (n:Nat) (as:List PV) (r:PV):Prop:=∃ m0,∀ k e m,m0≤k→P k e→m0≤m→yez e (yca e m) n as=some r
def Ans (E:Env) (n:Nat) (as:List PV) (r:PV):Prop:=AnsP (Uni E) n as r
def AnsS (E:Env) (n:Nat) (as:List PV) (r:PV):Prop:=AnsP (Solo E) n as r
theorem AnsP.sub {P P':EP} {n:Nat} {as:List PV} {r:PV} (h:AnsP P n as r) (hs:∀ k e,P' k e→P k e):AnsP P' n as r:=by
 obtain ⟨m0,hm⟩:=h
 exact ⟨m0,fun k e m h1 h2 h3=>hm k e m h1 (hs k e h2) h3⟩
theorem Ans.solo {E:Env} {n:Nat} {as:List PV} {r:PV} (h:Ans E n as r):AnsS E n as r:=AnsP.sub h fun _ e h=>by cases h;rfl
def yFo (E:Env):Prop:=∀ n as H x,E.eff n as H=some x→E.qui n=false∧E.frz n=false∧(∀ as,E.sum n as=none)∧E.rb n=false
def AnsL (P:EP) (n:Nat) (as:List PV) (b:HB) (q:PV) (rows:List PV):Prop:=∃ m0,∀ k e m,m0≤k→P k e→m0≤m→yCI (yca e m) n as b=some (q,rows)
structure SEOk (P:EP) (S:SE):Prop where
 sb:Sub P S.E
 sum:∀ n wp,S.sumK n=some wp→∀ as K,wp as K→∃ r,K r∧AnsP P n as r
 inl:∀ n fn,S.inl n=some fn→S.E.fns n=some fn.fn∧S.E.qui n=false∧S.E.frz n=false∧(∀ as,S.E.sum n as=none)∧(∀ as H,S.E.eff n as H=none)∧ycI fn.body=true∧LpOk P S.E S.lp [] fn.body
 eff:yFo S.E
 sumL:∀ n wp,S.sumL n=some wp→∀ as b K,wp as b K→∃ q rows,K q rows∧AnsL P n as b q rows
section
variable {S:SE} {P:EP} {callK:CK} {H:Hp}
theorem ygF {E e:Env} (h:Like E e):e.fns=E.fns∧e.sum=E.sum∧e.qui=E.qui∧e.frz=E.frz∧e.rb=E.rb∧e.nl=E.nl∧e.eff=E.eff:=by
 unfold Like at h
 rw [h]
 exact ⟨rfl,rfl,rfl,rfl,rfl,rfl,rfl⟩
theorem yDc (hP:Sub P S.E) (hG:Good P callK) {fn:TFn} (hR:yj6 P S.E callK fn.body) (hl:LpOk P S.E S.lp [] fn.body) {n:Nat} (hf:S.E.fns n=some fn.fn) (he:∀ as H,S.E.eff n as H=none) {args:List PV} {K:PV→Hp→Prop} (h:WFn S.E callK S.lp fn args H K) :
  ∃ r H',K r H'∧∃ m0,∀ k e m,m0≤k→P k e→m0≤m→yca e m n args H=some (r,H'):=by
 obtain ⟨h1,h⟩:=yar.1 h
 have h1:args.length=fn.nparams:=by simpa using h1
 obtain ⟨x,F',H',hk,m0,hm⟩:=yme fn.body P hP hG hR [] noYK (YOk.no _ _) hl _ H _ h
 have key:(match yjP F' H' fn.results with | some ps=>K (yjQ ps) H' | none=>False)→(x=.norm∨x=.ret) →
   ∃ r H',K r H'∧∃ m0,∀ k e m,m0≤k→P k e→m0≤m→yca e m n args H=some (r,H'):=by
  intro hk hx
  split at hk
  ·rename_i ps hps
   refine ⟨_,_,hk,m0+1,fun k e m hkl hp hle=>?_⟩
   obtain ⟨q,rfl⟩:∃ q,m=q+1:=⟨m-1,by omega⟩
   have e0:=hm k e q (by omega) hp (by omega)
   obtain ⟨l1,_,_,_,_,_,l7⟩:=ygF (hP k e hp)
   simp only [yca,Env.effx,yrl,l7,l1,he,hf,TFn.fn,h1,if_true]
   rw [e0]
   rcases hx with rfl | rfl <;> simp only [hps]
  ·exact hk.elim
 cases x with
 | norm=>exact key hk (.inl rfl)
 | exit i=>exact hk.elim
 | brk _ _=>exact hk.elim
 | ret=>exact key hk (.inr rfl)
theorem yJK {H:Hp} {x:PV} {K:PV→Hp→Prop} (h:yC8 H x K):∃ q H',K q H'∧yBD H x=some (q,H'):=by
 cases x with
 | tup ps =>
  simp only [yC8] at h
  obtain ⟨ys,H',h,e⟩:=yo7 ps H _ h
  exact ⟨_,_,h,by simp only [yBD,e]⟩
 | _ =>
  simp only [yC8] at h
  obtain ⟨y,H',h,e⟩:=ymc h
  exact ⟨_,_,h,by simp only [yBD,e]⟩
theorem yyT {E e:Env} (h:Like E e) (f:PV) (args:List PV):ytm e f args=ytm E f args:=by
 unfold Like at h
 rw [h]
 rfl
theorem ytH {e:Env} {call:Nat→List PV→Hp→Option (PV×Hp)} {f:PV} {args:List PV} (h:ytm e f args=none):yof e call f args H=ylb e call f args H:=by
 simp only [yof,h]
theorem yaD (hS:SEOk P S):∀ d,Good P (yhO S d)
 | 0,f,args,H,K,h=>h.elim
 | d+1,f,args,H,K,h=>by
  unfold yhO at h
  split at h
  ·rename_i n first captured
   split at h
   ·rename_i x hx
    split at h
    ·rename_i wp hwp
     unfold WLoc at h
     obtain ⟨as,H',h,hp⟩:=yo7 _ _ _ h
     split at h
     ·rename_i b hb
      obtain ⟨hc,h⟩:=yar.1 h
      simp only [qAd,qA2] at hc
      obtain ⟨q,rows,hk,m0,hm⟩:=hS.sumL _ wp hwp _ _ _ h
      refine ⟨q,_,hk,m0,fun k e m hkl he hle=>?_⟩
      simp only [yof,yyT (hS.sb k e he),hx,yCJ,hp,hb]
      rw [if_pos hc]
      simp only [hm k e m hkl he hle]
     ·exact h.elim
    ·exact h.elim
   rename_i hx
   have hx':∀ k e,P k e→ytm e (.fn (.func n) first captured) args=none:=fun k e he=>(yyT (hS.sb k e he) _ _).trans hx
   split at h
   ·rename_i wp hwp
    cases hb:S.E.rb n with
    | true =>
     rw [hb,cond_true] at h
     obtain ⟨as,h,hp⟩:=yB0 _ _ h
     obtain ⟨r,hk,m0,hm⟩:=hS.sum n wp hwp as _ h
     obtain ⟨hs,hk⟩:=yar.1 hk
     refine ⟨r,_,hk,m0,fun k e m hkl he hle=>?_⟩
     obtain ⟨_,_,_,_,l5,_,_⟩:=ygF (hS.sb k e he)
     rw [ytH (hx' k e he)]
     simp only [ylb,l5,hb,if_true,hp,hm k e m hkl he hle,hs]
    | false =>
     rw [hb,cond_false] at h
     obtain ⟨as,H',h,hp⟩:=yo7 _ _ _ h
     obtain ⟨r,hk,m0,hm⟩:=hS.sum n wp hwp as _ h
     refine ⟨r,_,hk,m0,fun k e m hkl he hle=>?_⟩
     obtain ⟨_,_,_,_,l5,_,_⟩:=ygF (hS.sb k e he)
     rw [ytH (hx' k e he)]
     simp only [ylb,l5,hb,qAs,if_false,hp,hm k e m hkl he hle]
     cases r.scalar <;> simp
   ·split at h
    ·rename_i fn hfn
     obtain ⟨h1,h2,h3,h4,h6,h7,h5⟩:=hS.inl n fn hfn
     cases hb:S.E.rb n with
     | true =>
      rw [hb,cond_true] at h
      exact h.elim
     | false =>
      rw [hb,cond_false] at h
      obtain ⟨r,H',hk,m0,hm⟩:=yDc hS.sb (yaD hS d) (fun hf=>by rw [h7] at hf;cases hf) h5 h1 h6 h
      refine ⟨r,H',hk,m0,fun k e m hkl he hle=>?_⟩
      obtain ⟨_,l2,l3,l4,l5,_,_⟩:=ygF (hS.sb k e he)
      have e0:∀ as,yez e (yca e m) n as=none:=by
       intro as;simp only [yez,l2,l3,h4 as,h2];rfl
      rw [ytH (hx' k e he)]
      simp only [ylb,e0,l3,l4,l5,h2,h3,hb]
      cases ybi H (first++args++captured) <;> simp only [qAs,if_false,hm k e m hkl he hle]
    ·split at h
     ·rename_i c t x y he
      obtain ⟨hc,h⟩:=yar.1 h
      subst hc
      obtain ⟨h2,h3,h4,h7⟩:=hS.eff n _ _ _ he
      obtain ⟨r,H',h,hrt⟩:∃ r H',K r H'∧(bif t then x else y)=(r,H'):=by
       cases t with
       | true=>exact ⟨_,_,h,rfl⟩
       | false=>exact ⟨_,_,h,rfl⟩
      refine ⟨r,H',h,1,fun k e m hkl hp hle=>?_⟩
      obtain ⟨k,rfl⟩:∃ k,m=k+1:=⟨m-1,by omega⟩
      obtain ⟨_,l2,l3,l4,l5,_,l7⟩:=ygF (hS.sb _ e hp)
      have e0:∀ as,yez e (yca e (k+1)) n as=none:=by
       intro as;simp only [yez,l2,l3,h4 as,h2];rfl
      have hi:yca e (k+1) n (first++args++captured) H=some (r,H'):=by
       simp only [yca,Env.effx,yrl,l7,he,hrt]
      rw [ytH (hx' _ e hp)]
      simp only [ylb,e0,l3,l4,l5,h2,h3,h7]
      cases ybi H (first++args++captured) <;> simp only [qAs,if_false,hi]
     ·exact h.elim
  ·exact h.elim
theorem yOO (hS:SEOk P S) {d:Nat} {fn:TFn} {n:Nat} (hR:yj6 P S.E (yhO S d) fn.body) (hl:LpOk P S.E S.lp [] fn.body) (hf:S.E.fns n=some fn.fn) (hq:S.E.qui n=true) (hs:∀ as,S.E.sum n as=none) (he:∀ as H,S.E.eff n as H=none) {as:List PV} {K:PV→Prop} (h:WP S d fn as K) (hn:S.E.nl n=false:=by kernel_rfl) :
  ∃ r,K r∧AnsP P n as r:=by
 unfold WP at h
 obtain ⟨r,H',hk,m0,hm⟩:=yDc hS.sb (yaD hS d) hR hl hf he h
 obtain ⟨q,hk,hq'⟩:=yK8 hk
 refine ⟨q,hk,m0,fun k e m hkl hp hle=>?_⟩
 obtain ⟨_,l2,l3,_,_,l6,_⟩:=ygF (hS.sb k e hp)
 simp only [yez,l2,l3,l6,hs as,hq,hm k e m hkl hp hle,hn,purN,cond_false,hq',if_true]
theorem yOg (hS:SEOk P S) {d:Nat} {fn:TFn} {n:Nat} (hR:yj6 P S.E (yhO S d) fn.body) (hl:LpOk P S.E S.lp [] fn.body) (hf:S.E.fns n=some fn.fn) (he:∀ as H,S.E.eff n as H=none) {as:List PV} {b:HB} {K:PV→List PV→Prop} (h:WPL S d fn as b K) :
  ∃ q rows,K q rows∧AnsL P n as b q rows:=by
 unfold WPL at h
 obtain ⟨r,H',hk,m0,hm⟩:=yDc hS.sb (yaD hS d) hR hl hf he h
 obtain ⟨q,H2,hk,hq'⟩:=yJK hk
 split at hk
 ·rename_i b2 hb2
  obtain ⟨hc,hk⟩:=yar.1 hk
  simp only [qAd,qA2,decide_eq_true_eq] at hc
  refine ⟨q,_,hk,m0,fun k e m hkl hp hle=>?_⟩
  simp only [yCI,hm k e m hkl hp hle,hq',hb2]
  rw [if_pos hc]
 ·exact hk.elim
theorem yj6.flat {E:Env} {c:TC} (h:ycI c=true:=by kernel_rfl):yj6 P E callK c:=fun hf=>by rw [h] at hf;cases hf
end
def AllL (P:EP) (lp:LP) (G:Frm):List (Nat×TC)→Prop
 | []=>True
 | p::r=>(∀ F H Q,lp p.1 G F H Q→yok P p.2 F H Q)∧AllL P lp G r
theorem AllL.mem {P:EP} {lp:LP} {G:Frm}:∀ {l:List (Nat×TC)},AllL P lp G l→∀ p∈l,∀ F H Q,lp p.1 G F H Q→yok P p.2 F H Q
 | [],_,p,hp=>by cases hp
 | q::r,h,p,hp=>by
  rcases qAr.1 hp with rfl | hp
  ·exact h.1
  ·exact AllL.mem h.2 p hp
theorem ybe {P:EP} {E:Env} {lp:LP} {G:Frm} {c:TC} {l:List (Nat×TC)} (h:AllL P lp G l) (e:yci c=l) (hf:ycI c=true:=by kernel_rfl):LpOk P E lp G c:=ykR c hf (by rw [e];exact h.mem)
theorem yai {P:EP} {E:Env} {lp:LP} {G:Frm} {c:TC} (e:yci c=[]) (hf:ycI c=true:=by kernel_rfl):LpOk P E lp G c:=ybe (l:=[]) trivial e hf
def ylg:TC→List TC
 | .seq a b | .cond _ a b=>ylg a++ylg b
 | .block _ b | .loop _ b | .lG _ b=>ylg b
 | .rangeF g f np ib ps as bd=>[.rangeF g f np ib ps as bd]
 | _=>[]
theorem yiE {P:EP} {E:Env} {lp:LP} {G:Frm}:∀ (c:TC),(∀ p∈yci c,∀ F H Q,lp p.1 G F H Q→yok P p.2 F H Q)→(∀ r∈ylg c,LpOk P E lp G r)→LpOk P E lp G c
 | .skip,_,_ | .ops _ _ _ _,_,_ | .exit _,_,_ | .ret,_,_ | .bad,_,_ | .yret _ _ _ _ _ _ _,_,_ | .cut _,_,_=>trivial
 | .rangeF _ _ _ _ _ _ _,_,h=>h _ (by simp [ylg])
 | .seq a b,h,k=>⟨yiE a (fun p hp=>h p (by simp only [yci,qAu];exact .inl hp)) (fun p hp=>k p (by simp only [ylg,qAu];exact .inl hp)),yiE b (fun p hp=>h p (by simp only [yci,qAu];exact .inr hp)) (fun p hp=>k p (by simp only [ylg,qAu];exact .inr hp))⟩
 | .cond _ a b,h,k=>⟨yiE a (fun p hp=>h p (by simp only [yci,qAu];exact .inl hp)) (fun p hp=>k p (by simp only [ylg,qAu];exact .inl hp)),yiE b (fun p hp=>h p (by simp only [yci,qAu];exact .inr hp)) (fun p hp=>k p (by simp only [ylg,qAu];exact .inr hp))⟩
 | .block _ b,h,k=>yiE b h k
 | .loop id b,h,k=>⟨yiE b (fun p hp=>h p (by simp only [yci,qAu];exact .inl hp)) k,h (id,.loop id b) (by simp [yci])⟩
 | .lG id b,h,k=>⟨yiE b (fun p hp=>h p (by simp only [yci,qAu];exact .inl hp)) k,h (id,.lG id b) (by simp [yci])⟩
theorem yLc {P:EP} {E:Env} {lp:LP} {G:Frm} {c r:TC} {l:List (Nat×TC)} (h:AllL P lp G l) (e:yci c=l) (er:ylg c=[r]) (hr:LpOk P E lp G r):LpOk P E lp G c :=
 yiE c (by rw [e];exact h.mem) (by rw [er];intro x hx;simp only [List.mem_singleton] at hx;subst hx;exact hr)
theorem LpOk.sub {P P':EP} {E:Env} {lp:LP} {G:Frm} (hs:∀ n e,P' n e→P n e):∀ (c:TC),ycI c=true→LpOk P E lp G c→LpOk P' E lp G c
 | .skip,_,_ | .ops _ _ _ _,_,_ | .exit _,_,_ | .ret,_,_ | .bad,_,_ | .yret _ _ _ _ _ _ _,_,_ | .cut _,_,_=>trivial
 | .rangeF _ _ _ _ _ _ _,hf,_=>by simp [ycI] at hf
 | .seq a b,hf,h=>by
  simp only [ycI,qAd] at hf
  exact ⟨LpOk.sub hs a hf.1 h.1,LpOk.sub hs b hf.2 h.2⟩
 | .cond _ a b,hf,h=>by
  simp only [ycI,qAd] at hf
  exact ⟨LpOk.sub hs a hf.1 h.1,LpOk.sub hs b hf.2 h.2⟩
 | .block _ b,hf,h=>LpOk.sub hs b hf h
 | .loop _ b,hf,h=>⟨LpOk.sub hs b hf h.1,fun F H Q k=>(h.2 F H Q k).sub hs⟩
 | .lG _ b,hf,h=>⟨LpOk.sub hs b hf h.1,fun F H Q k=>(h.2 F H Q k).sub hs⟩
theorem SEOk.solo {S:SE} (h:SEOk (Uni S.E) S):SEOk (Solo S.E) S where
 sb:=Sub.solo _
 sum:=fun n wp hw as K k=>by
  obtain ⟨r,h1,h2⟩:=h.sum n wp hw as K k
  exact ⟨r,h1,h2.sub fun _ _ he=>Sub.solo _ _ _ he⟩
 inl:=fun n fn hf=>by
  obtain ⟨h1,h2,h3,h4,h5,h6,h7⟩:=h.inl n fn hf
  exact ⟨h1,h2,h3,h4,h5,h6,LpOk.sub (fun n e he=>Sub.solo _ n e he) _ h6 h7⟩
 eff:=h.eff
 sumL:=fun n wp hw as b K k=>by
  obtain ⟨q,rows,h1,m0,h2⟩:=h.sumL n wp hw as b K k
  exact ⟨q,rows,h1,m0,fun k e m k1 k2 k3=>h2 k e m k1 (Sub.solo _ _ _ k2) k3⟩
theorem yJL {P:EP} {E:Env} {lp:LP} {G:Frm} {g:Opd} {f np:Nat} {ib as bd:TC} {ps:List Nat} (hf:E.fns f=some ⟨np,[],erase ib⟩) (h1:ycI ib=true) (h2:ycI as=true) (h3:ycI bd=true)
  (hl:∀ G,LpOk (Rng E G ps (erase as) (erase bd)) E lp G ib) (ha:LpOk (Ats E) E lp [] as) (hb:LpOk (Ats E) E lp [] bd):LpOk P E lp G (.rangeF g f np ib ps as bd) :=
 ⟨⟨[],hf,rfl⟩,⟨h1,h2,h3⟩,hl,ha,hb⟩
theorem yj6.one {S:SE} (h:SEOk (Uni S.E) S) (d:Nat) {c:TC}:yj6 (Solo S.E) S.E (yhO S d) c:=fun _=>⟨yaD h d,fun _ _ he=>he⟩
def yeB:List (Nat×(List PV→(PV→Prop)→Prop))→Nat→Option (List PV→(PV→Prop)→Prop)
 | [],_=>none
 | (k,f)::r,n=>bif Nat.beq k n then some f else yeB r n
def yeC:List (Nat×TFn)→Nat→Option TFn
 | [],_=>none
 | (k,f)::r,n=>bif Nat.beq k n then some f else yeC r n
def AllS (P:EP):List (Nat×(List PV→(PV→Prop)→Prop))→Prop
 | []=>True
 | (k,f)::r=>(∀ as K,f as K→∃ q,K q∧AnsP P k as q)∧AllS P r
def AllI (P:EP) (E:Env) (lp:LP):List (Nat×TFn)→Prop
 | []=>True
 | (k,f)::r=>(E.fns k=some f.fn∧E.qui k=false∧E.frz k=false∧(∀ as,E.sum k as=none)∧(∀ as H,E.eff k as H=none)∧ycI f.body=true∧LpOk P E lp [] f.body)∧AllI P E lp r
theorem yyU {P:EP}:∀ (l:List (Nat×(List PV→(PV→Prop)→Prop))),AllS P l→∀ n wp,yeB l n=some wp→∀ as K,wp as K→∃ r,K r∧AnsP P n as r
 | [],_,_,_,h=>by simp [yeB] at h
 | (k,f)::r,hl,n,wp,h=>by
  simp only [AllS] at hl
  simp only [yeB] at h
  cases hc:Nat.beq k n with
  | true =>
   rw [hc] at h
   simp only [cond_true,qAg] at h
   have:=qAj hc
   subst this;subst h
   exact hl.1
  | false =>
   rw [hc] at h
   exact yyU r hl.2 n wp (by simpa using h)
theorem yyV {P:EP} {E:Env} {lp:LP}:∀ (l:List (Nat×TFn)),AllI P E lp l→∀ n fn,yeC l n=some fn→E.fns n=some fn.fn∧E.qui n=false∧E.frz n=false∧(∀ as,E.sum n as=none)∧(∀ as H,E.eff n as H=none)∧ycI fn.body=true∧LpOk P E lp [] fn.body
 | [],_,_,_,h=>by simp [yeC] at h
 | (k,f)::r,hl,n,fn,h=>by
  simp only [AllI] at hl
  simp only [yeC] at h
  cases hc:Nat.beq k n with
  | true =>
   rw [hc] at h
   simp only [cond_true,qAg] at h
   have:=qAj hc
   subst this;subst h
   exact hl.1
  | false =>
   rw [hc] at h
   exact yyV r hl.2 n fn (by simpa using h)
def yyW:List (Nat×(List PV→HB→(PV→List PV→Prop)→Prop))→Nat→Option (List PV→HB→(PV→List PV→Prop)→Prop)
 | [],_=>none
 | (k,f)::r,n=>bif Nat.beq k n then some f else yyW r n
def yIB (P:EP):List (Nat×(List PV→HB→(PV→List PV→Prop)→Prop))→Prop
 | []=>True
 | (k,f)::r=>(∀ as b K,f as b K→∃ q rows,K q rows∧AnsL P k as b q rows)∧yIB P r
theorem yFp {P:EP}:∀ (l:List (Nat×(List PV→HB→(PV→List PV→Prop)→Prop))),yIB P l→∀ n wp,yyW l n=some wp→∀ as b K,wp as b K→∃ q rows,K q rows∧AnsL P n as b q rows
 | [],_,_,_,h=>by simp [yyW] at h
 | (k,f)::r,hl,n,wp,h=>by
  simp only [yIB] at hl
  simp only [yyW] at h
  cases hc:Nat.beq k n with
  | true =>
   rw [hc] at h
   simp only [cond_true,qAg] at h
   have:=qAj hc
   subst this;subst h
   exact hl.1
  | false =>
   rw [hc] at h
   exact yFp r hl.2 n wp (by simpa using h)
theorem yFq {P:EP} {E:Env} {ls:List (Nat×(List PV→(PV→Prop)→Prop))} {li:List (Nat×TFn)} {lp:LP} {ll:List (Nat×(List PV→HB→(PV→List PV→Prop)→Prop))} (hb:Sub P E) (hs:AllS P ls) (hi:AllI P E lp li) (he:yFo E) (hL:yIB P ll):SEOk P ⟨E,yeB ls,yeC li,lp,yyW ll⟩ where
 sb:=hb
 sum:=fun n wp h=>yyU ls hs n wp h
 inl:=fun n fn h=>yyV li hi n fn h
 eff:=he
 sumL:=fun n wp h=>yFp ll hL n wp h
theorem yaw {P:EP} {E:Env} {ls:List (Nat×(List PV→(PV→Prop)→Prop))} {li:List (Nat×TFn)} {lp:LP} (hb:Sub P E) (hs:AllS P ls) (hi:AllI P E lp li) (he:yFo E):SEOk P ⟨E,yeB ls,yeC li,lp,fun _=>none⟩ where
 sb:=hb
 sum:=fun n wp h=>yyU ls hs n wp h
 inl:=fun n fn h=>yyV li hi n fn h
 eff:=he
 sumL:=fun n wp h=>by cases h
theorem yB3 {add sub n:Nat} (h1:Nat.beq n add=false) (h2:Nat.beq n sub=false) (as:List PV):sumC add sub n as=none:=by
 unfold sumC
 split
 ·rw [h1,h2];rfl
 ·rfl
def yjF (p0 p1 p2:Int) (K:Int→Int→Prop):Prop :=
 asr (decide (p2.toNat≤1)) (K (((p0.toNat+p1.toNat+p2.toNat) % 18446744073709551616:Nat):Int) (((p0.toNat+p1.toNat+p2.toNat) / 18446744073709551616:Nat):Int))
def yhn:List PV:=([0,1,2,2,3,3,3,3,4,4,4,4,4,4,4,4,5,5,5,5,5,5,5,5,5,5,5,5,5,5,5,5,6,6,6,6,6,6,6,6,6,6,6,6,6,6,6,6,6,6,6,6,6,6,6,6,6,6,6,6,6,6,6,6,7,7,7,7,7,7,7,7,7,7,7,7,7,7,7,7,7,7,7,7,7,7,7,7,7,7,7,7,7,7,7,7,7,7,7,7,7,7,7,7,7,7,7,7,7,7,7,7,7,7,7,7,7,7,7,7,7,7,7,7,7,7,7,7,8,8,8,8,8,8,8,8,8,8,8,8,8,8,8,8,8,8,8,8,8,8,8,8,8,8,8,8,8,8,8,8,8,8,8,8,8,8,8,8,8,8,8,8,8,8,8,8,8,8,8,8,8,8,8,8,8,8,8,8,8,8,8,8,8,8,8,8,8,8,8,8,8,8,8,8,8,8,8,8,8,8,8,8,8,8,8,8,8,8,8,8,8,8,8,8,8,8,8,8,8,8,8,8,8,8,8,8,8,8,8,8,8,8,8,8,8,8,8,8,8,8,8,8,8,8,8,8]:List Int).map (PV.int .u8)
def ysq (w:Int→Int→Int→(Int→Int→Prop)→Prop) (as:List PV) (K:PV→Prop):Prop :=
 match as with
 | [(.int .u64 p0),(.int .u64 p1),(.int .u64 p2)]=>w p0 p1 p2 (fun (r0:Int) (r1:Int)=>K (.tup [(.int .u64 r0),(.int .u64 r1)]))
 | _=>False
def ysr (as:List PV) (K:PV→Prop):Prop:=ysq yjF as K
def yjG (p0 p1 p2:Int) (K:Int→Int→Prop):Prop :=
 asr (decide (p2.toNat≤1)) (K (((p0.toNat+18446744073709551616-p1.toNat-p2.toNat) % 18446744073709551616:Nat):Int) ((bif Nat.ble (p1.toNat+p2.toNat) p0.toNat then 0 else 1:Nat):Int))
def yss (w:Int→Int→Int→(Int→Int→Prop)→Prop) (as:List PV) (K:PV→Prop):Prop :=
 match as with
 | [(.int .u64 p0),(.int .u64 p1),(.int .u64 p2)]=>w p0 p1 p2 (fun (r0:Int) (r1:Int)=>K (.tup [(.int .u64 r0),(.int .u64 r1)]))
 | _=>False
def yst (as:List PV) (K:PV→Prop):Prop:=yss yjG as K
theorem yIC {P:Program} {E:Env} (hE:EO P E) (hm:P.follows .mixedOrders=true) {n:Nat} {as:List PV} {r:PV} (hs:E.sum n as=none) (hq:E.qui n=true) (h:AnsS E n as r):ymb P E.glob n as r:=by
 obtain ⟨m0,hm0⟩:=h
 have:=hm0 m0 E m0 (qAk _) rfl (qAk _)
 simp only [yez,hs,hq,if_true] at this
 refine yIm hE hm (n:=m0) ?_
 unfold topV
 split at this
 ·rename_i x H hx;rw [hx];exact this
 ·cases this
end Go.Pf
namespace Go.Pf
open Go Go.RowKit
section
variable {P:Program} {E:Env}
theorem yJM {b:Bool} {call} (hc:ybl P E call) {I:Nat→Prop} {w:World} {f:Nat} {args:List PV} {vs:List Value} {r q:PV} {H:Hp} (himm:∀ b,I b→b<w.heap.size)
  (hg:∀ n x,E.glob n=some x→I n∧∃ vs,0<vs.length∧RC I w x vs∧At w n 0 vs) (hv:VRs ⟨fun _=>none,fun _=>none,I,fun _=>none⟩ [] w args vs) (hin:call f args []=some (r,H)) (h:purN b H r=some q) :
  yiB P f vs.toArray w fun v w'=>Bel w.heap.size w w'∧VP (fun b=>I b∨(w.heap.size≤b∧b<w'.heap.size)) w' q v:=by
 let g0:Gh:=⟨fun _=>none,fun _=>none,I,fun _=>none⟩
 have hr:Rel E 0 g0 [] [] #[] w:=by
  refine ⟨qBg _,fun s fv e=>by simp [fget] at e,fun id hb e=>by simp at e,fun id id' hb b o b' o' e=>by simp at e,fun id b o e=>by simp [g0] at e,fun s s' b e=>by simp [g0] at e,fun s b id o e=>by simp [g0] at e,fun s b e=>by simp [g0] at e,himm,hg⟩
 refine (hc f args [] r H hin 0 g0 [] #[] w vs hr (Lps.none_ fun _=>rfl) hv).mono ?_
 rintro v w' ⟨g',n1,r1,hvr⟩
 obtain ⟨g2,H2,r2,n2,hvp⟩:=yyp r1 hvr h
 have n3:=n1.trans n2
 have noR:∀ b,¬RngR g0 b:=fun b ⟨id,o,e⟩=>by simp [g0] at e
 have noM:∀ b,¬MutF g0 b:=fun b ⟨s,e⟩=>by simp [g0] at e
 refine ⟨⟨⟨n3.os,n3.tape,n3.output,n3.size,fun k hk=>n3.kept k hk (noR k) (noM k)⟩,n3.drawn⟩,yCU (fun b hb=>⟨?_,rfl⟩) hvp⟩
 rcases qA5 b w.heap.size with h1 | h1
 ·rcases hb with hb | hb
  ·rcases n3.immb b h1 hb with h2 | h2
   ·exact .inl h2
   ·exact absurd h2 (noR b)
  ·exact absurd (n3.rng b h1 hb) (noR b)
 ·exact .inr ⟨h1,hb.elim (r2.imm b) r2.brng⟩
theorem yOh (hE:EO P E) (hm:P.follows .mixedOrders=true) {n f:Nat} {q:PV} (h:∀ b,topV E n f [.mt b]=some q):ymb P E.glob f [.data []] q:=by
 intro I w vs himm hgl hv
 simp only [VPs,VP1,RC] at hv
 obtain ⟨v,vr,rfl,⟨a,len,cap,e,hl,hc,hm2,_⟩,rfl⟩:=hv
 simp only [qA1,and_true] at e
 subst e
 have hl:len=0:=hl
 subst hl
 have hh:=h a.isNone
 unfold topV at hh
 split at hh
 ·rename_i r H hin
  refine yJM (yvm hE hm n) himm hgl (args:=[.mt a.isNone]) ?_ hin hh
  simp only [VRs,VR]
  exact ⟨_,_,rfl,⟨a,cap,rfl,hm2,rfl⟩,rfl⟩
 ·cases hh
end
def yvq (esz bytes:Nat) (z:PV):AFn:=⟨1,[.tmp 2],
 (.seq
  (.ops [⟨some 2,(.mv (.c .nils)),none⟩] [] [2])
  (.seq
   (.seq
    (.ops [⟨some 3,(.mv (.t 0)),none⟩,
     ⟨some 4,(.eqN false (.t 3)),none⟩] [] [3])
    (.cond (.t 4)
     (.seq (.ops [⟨some 2,(.mv (.c .nils)),none⟩] [] [0,4]) .ret)
     .skip))
   (.seq
    (.ops [⟨some 5,(.bSl true esz z 0 []),none⟩,
     ⟨some 6,(.mv (.t 0)),none⟩,
     ⟨some 7,(.app true esz bytes (.t 5) (.t 6)),none⟩,
     ⟨some 2,(.mv (.t 7)),none⟩] [] [0,4,5,6,7])
    .ret)))⟩
abbrev yfK:=List (Nat×Nat×Nat)
def yjr (esz bytes:Nat) (rows:List PV):Bool:=yd7 esz rows&&decide ((rows.length+64)*(bytes+1)≤room)
def yho:yfK→Nat→List PV→Option PV
 | [],_,_=>none
 | (k,esz,bytes)::r,n,as=>bif Nat.beq k n then (match as with
  | [.data rows]=>(bif yjr esz bytes rows then some (.data rows) else none)
  | _=>none) else yho r n as
def ytI:yfK→Nat→Bool
 | [],_=>false
 | (k,_,_)::r,n=>Nat.beq k n||ytI r n
section
variable {P:Program} {E:Env}
theorem yLd {n esz bytes:Nat} {z:PV} (hf:E.fns n=some (yvq esz bytes z)) (he:∀ as H,E.eff n as H=none) (hnl:E.nl n=false) (b:Bool):topV E 12 n [.mt b]=some (.data []):=by
 unfold topV
 cases b <;> simp [yca,Env.effx,yrl,he,exec,hf,yvq,yjO,ygs,yjM,yeW,yap,evV,ev,yfY,fget,fset,fdels,fdel,ygp,yeZ,outV,Option.map,yjP,yBE,yjQ,purN,hnl,purR,ycy,yfQ,appV,yhS,yd7,yrm]
theorem yHl {n esz bytes:Nat} {z:PV} (hf:E.fns n=some (yvq esz bytes z)) (he:∀ as H,E.eff n as H=none) (hnl:E.nl n=false) {x:PV} {r:List PV} (h:yjr esz bytes (x::r)=true):topV E 12 n [.data (x::r)]=some (.data (x::r)):=by
 simp only [yjr,qAd,decide_eq_true_eq,qAc] at h
 obtain ⟨h1,h2⟩:=h
 unfold topV
 simp [yca,Env.effx,yrl,he,exec,hf,yvq,yjO,ygs,yjM,yeW,yap,evV,ev,yfY,fget,fset,fdels,fdel,ygp,yeZ,outV,Option.map,yjP,yBE,yjQ,purN,hnl,purR,ycy,yfQ,appV,yhS,h1,yrm,ydE,h2]
theorem ywE (hE:EO P E) (hm:P.follows .mixedOrders=true) (he:∀ n as H,E.eff n as H=none) (hnl:∀ n,E.nl n=false):∀ (cl:yfK),(∀ n esz bytes,(n,esz,bytes)∈cl→∃ z,E.fns n=some (yvq esz bytes z))→∀ n as r,yho cl n as=some r→ymb P E.glob n as r
 | [],_,_,_,_,h=>by simp [yho] at h
 | (k,esz,bytes)::t,hc,n,as,r,h=>by
  simp only [yho] at h
  cases hb:Nat.beq k n with
  | false=>rw [hb] at h;exact ywE hE hm he hnl t (fun n e b hm=>hc n e b (qAh _ hm)) n as r (by simpa using h)
  | true =>
   rw [hb] at h
   have e:=qAj hb
   subst e
   simp only [cond_true] at h
   split at h
   ·rename_i rows
    cases hk:yjr esz bytes rows with
    | false=>rw [hk] at h;simp at h
    | true =>
     rw [hk] at h
     simp only [cond_true,qAg] at h
     subst h
     obtain ⟨z,hf⟩:=hc k esz bytes qAi
     cases rows with
     | nil=>exact yOh hE hm (fun b=>yLd hf (he k) (hnl k) b)
     | cons x r=>exact yIm hE hm (yHl hf (he k) (hnl k) hk)
   ·cases h
end
def yNM:List (Nat×PV)→Nat→Option PV
 | [],_=>none
 | (k,a)::r,n=>bif Nat.beq k n then some a else yNM r n
theorem ymb.any {P:Program} {G:Nat→Option PV} {f:FuncId} {as:List PV} {r:PV} (h:ymb P (fun _=>none) f as r):ymb P G f as r :=
 fun I w vs hI _ hv=>h I w vs hI (fun _ _ e=>nomatch e) hv
def yol (add sub:Nat) (tab:List (Nat×AFn)) (qui:List Nat) (cl:yfK) (gl:List (Nat×PV)):Env :=
 { glob:=yNM gl,sum:=fun n as=>match sumC add sub n as with | some r=>some r | none=>yho cl n as,fns:=yyB tab,frz:=fun _=>false,qui:=memN qui,nl:=fun n=>memN qui (n+1000000),rb:=fun n=>memN qui (n+3000000),lo:=fun n=>bif memN qui (n+4000000) then some 1 else bif memN qui (n+5000000) then some 0 else none }
def ytJ (add sub:Nat) (cl:yfK) (n:Nat):Bool:=Nat.beq n add||(Nat.beq n sub||ytI cl n)
theorem yrz:∀ (cl:yfK) (n:Nat) (as:List PV),ytI cl n=false→yho cl n as=none
 | [],_,_,_=>rfl
 | (k,_,_)::r,n,as,h=>by
  simp only [ytI,qB7] at h
  simp only [yho,h.1,cond_false]
  exact yrz r n as h.2
theorem yHm {add sub:Nat} {tab:List (Nat×AFn)} {qui:List Nat} {cl:yfK} {gl:List (Nat×PV)} {n:Nat} (h:ytJ add sub cl n=false) (as:List PV):(yol add sub tab qui cl gl).sum n as=none:=by
 simp only [ytJ,qB7] at h
 simp only [yol,yB3 h.1 h.2.1,yrz cl n as h.2.2]
def yID (esz bytes:Nat) (p0:List PV) (K:List PV→Prop):Prop:=asr (yjr esz bytes p0) (K p0)
def yyX (w:List PV→(List PV→Prop)→Prop) (as:List PV) (K:PV→Prop):Prop :=
 match as with
 | [(.data p0)]=>w p0 (fun r0=>K (.data r0))
 | _=>False
def yyY (esz bytes:Nat) (as:List PV) (K:PV→Prop):Prop:=yyX (yID esz bytes) as K
def ytK:yfK→Nat→Option (Nat×Nat)
 | [],_=>none
 | (k,e,b)::r,n=>bif Nat.beq k n then some (e,b) else ytK r n
theorem ywF {n esz bytes:Nat} {rows:List PV}:∀ (cl:yfK),ytK cl n=some (esz,bytes)→yjr esz bytes rows=true→yho cl n [.data rows]=some (.data rows)
 | [],h,_=>by simp [ytK] at h
 | (k,e,b)::r,h,hk=>by
  simp only [ytK] at h
  simp only [yho]
  cases hb:Nat.beq k n with
  | true=>rw [hb] at h;simp only [cond_true,qAg,Prod.mk.injEq] at h;obtain ⟨rfl,rfl⟩:=h;simp only [cond_true,hk]
  | false=>rw [hb] at h;simp only [cond_false] at h ⊢;exact ywF r h hk
theorem yLe {P:Program} {add sub:Nat} {tab:List (Nat×AFn)} {qui:List Nat} {cl:yfK} {gl:List (Nat×PV)} (hm:P.follows .mixedOrders=true) (ha:IsExtern P add add64Entry) (hs:IsExtern P sub yyE) (ht:yyC P tab)
  (hc:∀ n esz bytes,(n,esz,bytes)∈cl→∃ z,yyB tab n=some (yvq esz bytes z)):EO P (yol add sub tab qui cl gl) where
 sum:=by
  intro n as r h
  simp only [yol] at h
  split at h
  ·rename_i q hq;cases h;exact yIo ha hs n as _ hq
  ·exact (ywE (yMV (qui:=[]) ha hs ht) hm (fun _ _ _=>rfl) (fun _=>rfl) cl (fun n e b hmem=>hc n e b hmem) n as r h).any
 fns:=fun n fn h=>yyD tab ht n fn h
 eff:=fun _ _ _ _ _ _ _ h=>by cases h
 dn:=fun _ h=>by cases h
 top:=fun _ _=>rfl
 yl:=fun _ _ _ _ _ _ h=>by cases h
end Go.Pf
namespace Go.Pf
abbrev Ls:Type:=List PV
def O (d:Nat) (x:AOp):AO:=⟨some d,x,none⟩
def M (d s:Nat):AO:=⟨some d,.mv (.t s),none⟩
def I (n:Int):Opd:=.c (.int .i64 n)
def oX (d:Nat) (op:BinOp) (a b:Nat):AO:=⟨some d,.bin op (.t a) (.t b),none⟩
def oT (d sz a:Nat):AO:=⟨some d,.load true sz (.t a),none⟩
def oF (d sz a:Nat):AO:=⟨some d,.load false sz (.t a),none⟩
def oQ (l:List AO) (d:List Nat):TC:=.ops l [] [] d
abbrev OkF (E:Env) (wp:List PV→(PV→Prop)→Prop) (n:Nat):Prop:=∀ as K,wp as K→∃ r,K r∧Ans E n as r
abbrev OkL (E:Env) (wp:List PV→HB→(PV→List PV→Prop)→Prop) (n:Nat):Prop:=∀ as b K,wp as b K→∃ q rows,K q rows∧AnsL (Uni E) n as b q rows
abbrev OkS (E:Env) (wp:List PV→(PV→Prop)→Prop) (n:Nat):Prop:=∀ as K,wp as K→∃ r,K r∧AnsS E n as r
theorem OkF.solo {E:Env} {wp:List PV→(PV→Prop)→Prop} {n:Nat} (h:OkF E wp n):OkS E wp n:=fun as K k=>by
 obtain ⟨r,h1,h2⟩:=h as K k
 exact ⟨r,h1,h2.solo⟩
theorem AnsS.unique {E:Env} {n:Nat} {as:List PV} {r r':PV} (h:AnsS E n as r) (h':AnsS E n as r'):r=r':=by
 obtain ⟨m,hm⟩:=h
 obtain ⟨m',hm'⟩:=h'
 have e:=hm (m+m') E (m+m') (by omega) rfl (by omega)
 rw [hm' (m+m') E (m+m') (by omega) rfl (by omega)] at e
 exact (Option.some.inj e).symm
theorem Ans.unique {E:Env} {n:Nat} {as:List PV} {r r':PV} (h:Ans E n as r) (h':Ans E n as r'):r=r':=AnsS.unique h.solo h'.solo
theorem detS {E:Env} {n:Nat} {wp:List PV→(PV→Prop)→Prop} (ok:OkS E wp n) {as:List PV} {x:PV}
  (h:∀ K:PV→Prop,K x→wp as K) {K:PV→Prop} (k:wp as K):K x:=by
 obtain ⟨r,h1,h2⟩:=ok as K k
 obtain ⟨q,h3,h4⟩:=ok as (fun y=>y=x) (h _ rfl)
 subst h3
 rw [← h2.unique h4]
 exact h1
theorem detC {E:Env} {n:Nat} {wp:List PV→(PV→Prop)→Prop} (ok:∀ as K,wp as K→∃ r,K r∧Ans E n as r) {as:List PV} {x:PV}
 (h:∀ K:PV→Prop,K x→wp as K) {K:PV→Prop} (k:wp as K):K x:=detS (OkF.solo ok) h k
end Go.Pf
namespace Go.Pf
open Go
inductive DS where
 | b
 | i (k:IntKind)
 | s (e:DS)
 | a (l:List DS)
def DS.isA:DS→Bool
 | .a _=>true
 | _=>false
def PV.isAgg:PV→Bool
 | .agg _=>true
 | _=>false
mutual
def HasF:DS→List PV→Prop
 | .b,c=>∃ x,c=[.bool x]
 | .i k,c=>∃ n,c=[.int k n]∧inK k n
 | .s e,c=>∃ rows:List PV,c=[.data rows]∧rows.length≤maxLen∧∀ x∈rows,x.isAgg=e.isA∧HasF e x.cells
 | .a l,c=>HasL l c
def HasL:List DS→List PV→Prop
 | [],c=>c=[]
 | d::l,c=>∃ c1 c2,c=c1++c2∧HasF d c1∧HasL l c2
end
mutual
def tyOk (P:Program):DS→TypeId→Bool
 | .b,t=>(match P.underlying t with | some .bool=>true | _=>false)
 | .i k,t=>(match P.underlying t with | some (.int q)=>decide (q=k) | _=>false)
 | .s e,t=>(match P.underlying t with | some (.slice u)=>decide (0<P.cellsOf u)&&tyOk P e u | _=>false)
 | .a l,t=>(match P.underlying t with | some (.struct fs)=>tyL P l (fs.toList.map (·.type)) | some (.array n u)=>tyL P l (List.replicate n u) | _=>false)
def tyL (P:Program):List DS→List TypeId→Bool
 | [],[]=>true
 | d::l,t::r=>tyOk P d t&&tyL P l r
 | _,_=>false
end
theorem yIE (P:Program):∀ (l:List DS) (ts:List TypeId),tyL P l ts=true→l.length=ts.length
 | [],[],_=>rfl
 | _::l,_::r,h=>by
  unfold tyL at h
  simp only [qAd] at h
  simp [yIE P l r h.2]
 | [],_::_,h=>by unfold tyL at h;cases h
 | _::_,[],h=>by unfold tyL at h;cases h
theorem yIF (P:Program):∀ (l:List DS) (ts:List TypeId),tyL P l ts=true→∀ (j:Nat) d t,l[j]?=some d→ts[j]?=some t→tyOk P d t=true
 | [],[],_,_,_,_,h,_=>by simp at h
 | d::l,t::r,h,0,d',t',h1,h2=>by
  unfold tyL at h
  simp only [qAd] at h
  simp only [List.getElem?_cons_zero,qAg] at h1 h2
  subst h1;subst h2;exact h.1
 | d::l,t::r,h,j+1,d',t',h1,h2=>by
  unfold tyL at h
  simp only [qAd] at h
  exact yIF P l r h.2 j d' t' (by simpa using h1) (by simpa using h2)
 | [],_::_,h,_,_,_,_,_=>by unfold tyL at h;cases h
 | _::_,[],h,_,_,_,_,_=>by unfold tyL at h;cases h
section
variable {H:Type} {enc:TypeId×Value→H} {P:Program} {w:World} {I:Nat→Prop}
theorem yHn {l1 l2:List PV} {v1 v2:List Value} (h1:yaN I w l1 v1) (h2:yaN I w l2 v2):yaN I w (l1++l2) (v1++v2):=yle h1 h2
def yNN (enc:TypeId×Value→H) (P:Program) (w:World) (I:Nat→Prop) (n:Nat):Prop :=
 ∀ (d:DS) (t:TypeId) (cs:List Value) (x:DataW H×List MemPlace),t<P.types.size→tyOk P d t=true→DataW.trod enc P w 0 (fun _=>true) true n t cs=some x→(∀ p∈x.2,I p.block)→∃ pcs,HasF d pcs∧yaN I w pcs cs
theorem yyZ {n:Nat} (ih:yNN enc P w I n) {l:List DS} {ts:List TypeId} (hl:tyL P l ts=true) (hrow:∀ t∈ts,t<P.types.size) {cs:List Value} {xs:List (DataW H×List MemPlace)} (off:Nat→Nat)
  (hoff:∀ j t,ts[j]?=some t→off (j+1)=off j+P.cellsOf t) (hend:cs.length≤off ts.length) (hx:∀ j t,ts[j]?=some t→DataW.trod enc P w 0 (fun _=>true) true n t ((cs.drop (off j)).take (P.cellsOf t))=xs[j]?)
  (hxl:xs.length=ts.length) (hI:∀ p∈xs.flatMap (·.2),I p.block) :
  ∀ (r j:Nat),j+r=ts.length→∃ pcs,HasL (l.drop j) pcs∧yaN I w pcs (cs.drop (off j)):=by
 have hll:=yIE P l ts hl
 intro r
 induction r with
 | zero =>
  intro j hj
  refine ⟨[],?_,?_⟩
  ·rw [qA0 (by omega)];simp only [HasL]
  ·rw [qA0 (by rw [show j=ts.length by omega];exact hend)];simp only [yaN]
 | succ r ihr =>
  intro j hj
  obtain ⟨pcs,h1,h2⟩:=ihr (j+1) (by omega)
  have ht:ts[j]?=some ts[j]:=qAa (by omega)
  have hd:l[j]?=some l[j]:=qAa (by omega)
  have hxj:xs[j]?=some xs[j]:=qAa (by omega)
  have h:=hx j _ ht
  rw [hxj] at h
  obtain ⟨pc,k1,k2⟩:=ih l[j] ts[j] _ _ (hrow _ (qBw _)) (yIF P l ts hl j _ _ hd ht) h (fun p hp=>hI p (List.mem_flatMap.2 ⟨xs[j],qBw _,hp⟩))
  refine ⟨pc++pcs,?_,?_⟩
  ·rw [List.drop_eq_getElem_cons (by omega)]
   simp only [HasL]
   exact ⟨pc,pcs,rfl,k1,h1⟩
  ·have e:cs.drop (off j)=(cs.drop (off j)).take (P.cellsOf ts[j])++cs.drop (off (j+1)):=by
    rw [hoff j _ ht,← List.drop_drop,List.take_append_drop]
   rw [e]
   exact yHn k2 h2
theorem yOi {d:DS} {pcs:List PV} (h:HasF d pcs):∃ x:PV,x.isAgg=d.isA∧x.cells=pcs∧∀ vs,yaN I w pcs vs→RC I w x vs:=by
 have one:∀ y:PV,y.isAgg=false→pcs=[y]→d.isA=false→∃ x:PV,x.isAgg=d.isA∧x.cells=pcs∧∀ vs,yaN I w pcs vs→RC I w x vs:=by
  intro y hy e hd
  refine ⟨y,hy.trans hd.symm,?_,?_⟩
  ·subst e;cases y <;> first | rfl | cases hy
  ·intro vs hv
   subst e
   simp only [yaN] at hv
   obtain ⟨v,vr,rfl,_,h1,rfl⟩:=hv
   exact h1
 cases d with
 | b=>simp only [HasF] at h;obtain ⟨x,e⟩:=h;exact one _ rfl e rfl
 | i k=>simp only [HasF] at h;obtain ⟨x,e,_⟩:=h;exact one _ rfl e rfl
 | s e=>simp only [HasF] at h;obtain ⟨x,e,_⟩:=h;exact one _ rfl e rfl
 | a l=>exact ⟨.agg pcs,rfl,rfl,fun vs hv=>by simp only [RC];exact hv⟩
theorem yHo (K:Kids P (·<P.types.size)):∀ n,yNN enc P w I n:=by
 intro n
 induction n with
 | zero=>intro d t cs x _ _ h;simp [DataW.trod] at h
 | succ n ih =>
  intro d t cs x hrow hty h hI
  cases d with
  | b =>
   unfold tyOk at hty
   split at hty
   ·rename_i ht
    obtain ⟨b,rfl,_⟩:=DataW.trod_bool ht h
    refine ⟨[.bool b],by simp only [HasF];exact ⟨b,rfl⟩,?_⟩
    simp only [yaN,RC]
    exact ⟨_,_,rfl,rfl,rfl,rfl⟩
   ·cases hty
  | i k =>
   unfold tyOk at hty
   split at hty
   ·rename_i q ht
    simp only [decide_eq_true_eq] at hty
    subst hty
    obtain ⟨m,rfl,_,hw⟩:=DataW.trod_int ht h
    have hk:inK q m:=by
     unfold inK
     simpa [Lit.wf] using hw
    refine ⟨[.int q m],by simp only [HasF];exact ⟨m,rfl,hk⟩,?_⟩
    simp only [yaN,RC]
    exact ⟨_,_,rfl,rfl,⟨rfl,hk⟩,rfl⟩
   ·cases hty
  | s e =>
   unfold tyOk at hty
   split at hty
   ·rename_i u ht
    simp only [qAd,decide_eq_true_eq] at hty
    obtain ⟨hpos,hty⟩:=hty
    rcases DataW.trod_slice ht h with ⟨rfl,_⟩ | ⟨a,len,cap,elems,rest,m,hm,rfl,rfl,_,hle,hcap,hlen,hel,_⟩
    ·refine ⟨[.data []],?_,?_⟩
     ·simp only [HasF];exact ⟨[],rfl,by simp,by simp⟩
     ·simp only [yaN,RC]
      exact ⟨_,_,rfl,rfl,⟨none,0,0,rfl,rfl,by omega,by decide,by simp⟩,rfl⟩
    ·have hmn:m=n:=by omega
     subst hmn
     have hru:=K.slice hrow ht
     have hspot0:len≠0→a.spot=none:=by
      intro h0
      have hb:=hel 0 (by omega)
      rw [qAa (by omega)] at hb
      obtain ⟨cs',hc,hy⟩:=Option.bind_eq_some_iff.1 hb
      obtain ⟨_,hcl,hcg⟩:=World.cells?_some hc
      have h0:=hcg 0 hpos
      rw [qAa (by omega)] at h0
      have e0:(a.add (0*P.cellsOf u)).add 0=a:=by simp [Addr.add]
      rw [e0] at h0
      unfold World.cell? at h0
      split at h0
      ·split at h0
       ·cases h0
       ·rename_i hs;simpa using hs
      ·cases h0
     have hadd:a.spot=none→∀ k i:Nat,(a.add k).add i=⟨a.block,a.off+k+i,none⟩:=by
      intro hs k i
      obtain ⟨ab,ao,as⟩:=a
      simp only at hs
      subst hs
      simp only [Addr.add]
      by_cases h1:k=0 <;> by_cases h2:i=0 <;> simp [h1,h2,Nat.add_assoc]
     have yhS:∀ (r j:Nat),j+r=len→∃ rows:List PV,rows.length=r∧(∀ x∈rows,x.isAgg=e.isA∧HasF e x.cells)∧(r≠0→a.spot=none∧I a.block)∧yco I w rows (P.cellsOf u) a.block (a.off+j*P.cellsOf u):=by
      intro r
      induction r with
      | zero=>intro j _;exact ⟨[],rfl,by simp,fun h=>absurd rfl h,by simp only [yco]⟩
      | succ r ihr =>
       intro j hj
       obtain ⟨rows,l1,l2,_,l4⟩:=ihr (j+1) (by omega)
       have hj2:j<elems.length:=by omega
       have hb:=hel j (by omega)
       rw [qAa hj2] at hb
       obtain ⟨cs',hc,hy⟩:=Option.bind_eq_some_iff.1 hb
       obtain ⟨_,hcl,hcg⟩:=World.cells?_some hc
       obtain ⟨pcs,k1,k2⟩:=ih e u cs' _ hru hty hy (fun p hp=>hI p (by
        simp only [qAu,List.mem_flatMap]
        exact .inr ⟨elems[j],.inl (qBw _),hp⟩))
       obtain ⟨x,x1,x2,x3⟩:=yOi (I:=I) (w:=w) k1
       have hspot:=hspot0 (by omega)
       have hIa:I a.block:=hI (.cell a.block a.off) (by
        simp only [qAu]
        left
        exact MemPlace.mem_row.2 ⟨0,Nat.mul_pos (by omega) hpos,rfl⟩)
       refine ⟨x::rows,by simp [l1],?_,fun _=>⟨hspot,hIa⟩,?_⟩
       ·intro y hy
        rcases qAr.1 hy with rfl | hy
        ·exact ⟨x1,by rw [x2];exact k1⟩
        ·exact l2 y hy
       ·simp only [yco]
        refine ⟨⟨cs',hcl,x3 _ k2,?_⟩,?_⟩
        ·intro i v hi
         have hi2:i<P.cellsOf u:=by rw [← hcl];exact (qBq.1 hi).1
         have:=hcg i hi2
         rw [hi] at this
         rw [← this,hadd hspot]
        ·rw [Nat.add_assoc,show j*P.cellsOf u+P.cellsOf u=(j+1)*P.cellsOf u by rw [qAp,qBi]]
         exact l4
     obtain ⟨rows,l1,l2,l3,l4⟩:=yhS len 0 (by omega)
     refine ⟨[.data rows],?_,?_⟩
     ·simp only [HasF];exact ⟨rows,rfl,by omega,l2⟩
     ·simp only [yaN,RC]
      refine ⟨_,_,rfl,rfl,⟨some a,len,cap,rfl,l1.symm,hle,hcap,?_⟩,rfl⟩
      by_cases h0:len=0
      ·left;exact qAm (by omega)
      ·right
       obtain ⟨hs,hIa⟩:=l3 h0
       refine ⟨a.block,a.off,P.cellsOf u,?_,hIa,hpos,by simpa using l4⟩
       cases a;simp only at hs;subst hs;rfl
   ·cases hty
  | a l =>
   unfold tyOk at hty
   split at hty
   ·rename_i fs ht
    obtain ⟨xs,m,hm,rfl,hcl,hxl,hxs⟩:=DataW.trod_struct ht h
    have hmn:m=n:=by omega
    subst hmn
    obtain ⟨k1,k2,k3⟩:=K.struct hrow ht
    have:=yyZ ih (l:=l) (ts:=fs.toList.map (·.type)) hty (fun t ht=>by obtain ⟨f,hf,rfl⟩:=qB8.1 ht;exact k1 f hf) (cs:=cs) (xs:=xs) (fun j=>((fs.toList.take j).map fun f=>P.cellsOf f.type).sum)
     (fun j t hj=>by
      rw [qA3,qA4] at hj
      obtain ⟨f,hf,rfl⟩:=hj
      obtain ⟨hlt,hf2⟩:=qBq.1 hf
      show ((fs.toList.take (j+1)).map _).sum=_
      rw [List.take_add_one,hf]
      simp)
     (by simp only [qAq,List.take_length];rw [hcl,k2];exact qAk _)
     (fun j t hj=>by
      rw [qA3,qA4] at hj
      obtain ⟨f,hf,rfl⟩:=hj
      have:=hxs j f (by simpa using hf)
      rw [← this,k3 j f hf])
     (by simp [hxl]) hI (fs.toList.map (·.type)).length 0 (by omega)
    obtain ⟨pcs,p1,p2⟩:=this
    exact ⟨pcs,by simp only [HasF];exact p1,by simpa using p2⟩
   ·rename_i q u ht
    obtain ⟨xs,m,hm,rfl,hcl,hxl,hxs⟩:=DataW.trod_array ht h
    have hmn:m=n:=by omega
    subst hmn
    obtain ⟨k1,k2⟩:=K.array hrow ht
    have:=yyZ ih (l:=l) (ts:=List.replicate q u) hty (fun t ht=>by rw [(List.mem_replicate.1 ht).2];exact k1) (cs:=cs) (xs:=xs) (fun j=>j*P.cellsOf u)
     (fun j t hj=>by
      have:t=u:=(List.mem_replicate.1 (List.mem_of_getElem? hj)).2
      subst this
      show (j+1)*_=_
      rw [qAp,qBi])
     (by rw [qAw,hcl,k2];exact qAk _)
     (fun j t hj=>by
      have e:t=u:=(List.mem_replicate.1 (List.mem_of_getElem? hj)).2
      subst e
      have hlt:j<q:=by have:=(qBq.1 hj).1;simpa using this
      exact hxs j hlt)
     (by simp [hxl]) hI (List.replicate q u).length 0 (by omega)
    obtain ⟨pcs,p1,p2⟩:=this
    exact ⟨pcs,by simp only [HasF];exact p1,by simpa using p2⟩
   ·cases hty
end
end Go.Pf
namespace Go.Pf
open Go Go.ChangeShapes Go.WideShapes Go.ChangeAt Go.RowKit
def ytL:List DS→List PV→Prop
 | [],as=>as=[]
 | d::l,as=>∃ x r,as=x::r∧x.isAgg=d.isA∧HasF d x.cells∧ytL l r
section
variable {H:Type} {enc:TypeId×Value→H} {P:Program}
theorem yLf (K:Kids P (·<P.types.size)) {w:World} {I:Nat→Prop} {base:Nat} {d:DS} {t:TypeId} {v:Value} {x:DataW H} {p:List MemPlace} (hrow:t<P.types.size) (hty:tyOk P d t=true)
  (hval:Value.okWide P w .any base t v) (h:DataW.Trod enc P w 0 (fun _=>true) true t v x p) (hI:∀ q∈p,I q.block) :
  ∃ y:PV,y.isAgg=d.isA∧HasF d y.cells∧VP1 I w y v:=by
 obtain ⟨n,hn⟩:=h
 obtain ⟨pcs,h1,h2⟩:=yHo (I:=I) K n d t _ _ hrow hty hn hI
 have single:∀ y:PV,pcs=[y]→y.isAgg=false→d.isA=false→v.cells.toList=[v]→∃ y:PV,y.isAgg=d.isA∧HasF d y.cells∧VP1 I w y v:=by
  intro y e hy hd hv
  subst e
  refine ⟨y,hy.trans hd.symm,?_,?_⟩
  ·have:y.cells=[y]:=by cases y <;> first | rfl | cases hy
   rw [this];exact h1
  ·rw [hv] at h2
   simp only [yaN] at h2
   obtain ⟨u,vr,e,_,h3,h4⟩:=h2
   simp only [qA1] at e
   obtain ⟨rfl,_⟩:=e
   cases y <;> first | exact h3 | (simp only [RC] at h3;done) | (simp only [VP1];exact h3) | cases hy
 cases d with
 | b =>
  unfold tyOk at hty
  split at hty
  ·rename_i ht
   obtain ⟨b,rfl⟩:=okWide_bool ht hval
   simp only [HasF] at h1
   obtain ⟨z,e⟩:=h1
   exact single _ e rfl rfl rfl
  ·cases hty
 | i k =>
  unfold tyOk at hty
  split at hty
  ·rename_i q ht
   obtain ⟨m,rfl⟩:=okWide_int ht hval
   simp only [HasF] at h1
   obtain ⟨z,e,_⟩:=h1
   exact single _ e rfl rfl rfl
  ·cases hty
 | s e =>
  unfold tyOk at hty
  split at hty
  ·rename_i u ht
   obtain ⟨a,len,cap,rfl⟩:=okWide_slice ht hval
   simp only [HasF] at h1
   obtain ⟨z,e,_⟩:=h1
   exact single _ e rfl rfl rfl
  ·cases hty
 | a l =>
  have key:∀ cs,v=.agg cs→∃ y:PV,y.isAgg=(DS.a l).isA∧HasF (DS.a l) y.cells∧VP1 I w y v:=by
   rintro cs rfl
   refine ⟨.agg pcs,rfl,h1,?_⟩
   simp only [VP1]
   exact ⟨cs.toList,rfl,h2⟩
  unfold tyOk at hty
  split at hty
  ·rename_i fs ht
   obtain ⟨cs,e,_⟩:=okWide_struct ht hval
   exact key cs e
  ·rename_i q u ht
   have hval2:=hval
   unfold Value.okWide at hval2
   rw [ht] at hval2
   obtain ⟨cs,e,_⟩:=hval2
   exact key cs e
  ·cases hty
theorem yB4 (K:Kids P (·<P.types.size)) {w:World} {I:Nat→Prop} {base:Nat}:∀ (ts:List TypeId) (dss:List DS) (vs:List Value) (xs:List (DataW H)) (p:List MemPlace),tyL P dss ts=true→(∀ t∈ts,t<P.types.size) →
  (∀ (j:Nat) t v,ts[j]?=some t→vs[j]?=some v→Value.okWide P w .any base t v)→DataW.TrodAll enc P w 0 (fun _=>true) true ts vs xs p→(∀ q∈p,I q.block)→∃ as,ytL dss as∧VPs I w as vs
 | [],[],[],[],p,_,_,_,_,_=>⟨[],by simp only [ytL],by simp only [VPs]⟩
 | t::ts,d::dss,v::vs,x::xs,p,hty,hrow,hval,h,hI=>by
  unfold tyL at hty
  simp only [qAd] at hty
  obtain ⟨p1,q,h1,h2,rfl⟩:=h
  obtain ⟨y,y1,y2,y3⟩:=yLf K (hrow t (qAi ..)) hty.1 (hval 0 t v rfl rfl) h1 (fun z hz=>hI z (List.mem_append_left _ hz))
  obtain ⟨as,a1,a2⟩:=yB4 K ts dss vs xs q hty.2 (fun u hu=>hrow u (qAh _ hu)) (fun j u z hj hz=>hval (j+1) u z hj hz) h2 (fun z hz=>hI z (List.mem_append_right _ hz))
  refine ⟨y::as,?_,?_⟩
  ·simp only [ytL];exact ⟨y,as,rfl,y1,y2,a1⟩
  ·simp only [VPs];exact ⟨v,vs,rfl,y3,a2⟩
 | [],_::_,_,_,_,hty,_,_,_,_=>by unfold tyL at hty;cases hty
 | _::_,[],_,_,_,hty,_,_,_,_=>by unfold tyL at hty;cases hty
 | [],[],_::_,_,_,_,_,_,h,_=>h.elim
 | [],[],[],_::_,_,_,_,_,h,_=>h.elim
 | _::_,_::_,[],_,_,_,_,_,h,_=>h.elim
 | _::_,_::_,_::_,[],_,_,_,_,h,_=>h.elim
theorem yJN (K:Kids P (·<P.types.size)) {n:FuncId} {fn:Func} {G:Nat→Option PV} {dss:List DS} {ts:List TypeId} (hty:tyL P dss ts=true) (hrow:∀ t∈ts,t<P.types.size)
  (hf : P.funcs[n]? = some fn) (hn : (fn.name == "runtime.NumGoroutine") = false) (hb : fn.body.isSome = true) (hsum : ∀ as, ytL dss as → ymb P G n as (.bool true))
  {W:World} {base:Nat} {args:Array Value} {ds:List (DataW H)} {p:List MemPlace} {I:Nat→Prop} (hval:∀ (j:Nat) t v,ts[j]?=some t→args.toList[j]?=some v→Value.okWide P W .any base t v)
  (hA:DataW.TrodAll enc P W 0 (fun _=>true) true ts args.toList ds p) (hI:∀ q∈p,I q.block) (himm:∀ b,I b→b<W.heap.size) (hG:yG2 G I W) :
  Calls P n args W fun e W'=>e=.returned (.bool true)∧Below W.heap.size W W':=by
 obtain ⟨as,a1,a2⟩:=yB4 (I:=I) K ts dss args.toList ds p hty hrow hval hA hI
 have h:=hsum as a1 I W args.toList himm hG a2
 have e:(callFunc n (args.toList).toArray).run P W=.ok (.enter n args) W:=by
  have h1 : fn.name ≠ "runtime.NumGoroutine" := by simpa using hn
  obtain ⟨c,hc⟩:=qA9.1 hb
  simp [callFunc,hf,h1,hc]
 unfold yiB at h
 rw [e] at h
 refine Calls.mono h fun e w' he=>?_
 cases e with
 | returned v =>
  obtain ⟨h1,h2⟩:=he
  simp only [VP,VP1,RC,qA1,and_true] at h2
  exact ⟨by rw [h2],h1.toBelow⟩
 | panicked ch=>exact he.elim
 | outgrown=>exact he.elim
theorem yHp (K:Kids P (·<P.types.size)) (hz:∀ t e,t<P.types.size→P.underlying t=some (.slice e)→0<P.cellsOf e) {W W':World} (hb:Below W.heap.size W W') {sp:Nat→Bool} :
  ∀ {ts:List TypeId} {vs:List Value} {ds:List (DataW H)} {ps:List MemPlace},(∀ t∈ts,t<P.types.size)→DataW.TrodAll enc P W 0 (fun _=>true) true ts vs ds ps→(∀ p∈ps,p.block<W.heap.size)→(∀ p∈ps,sp p.block=true)→DataW.TrodAll enc P W' 0 sp true ts vs ds ps:=by
 intro ts vs ds ps hT h hlt hs
 have carry:∀ {ts:List TypeId} {vs:List Value} {ds:List (DataW H)} {ps:List MemPlace},DataW.TrodAll enc P W 0 (fun _=>true) true ts vs ds ps→(∀ p∈ps,p.block<W.heap.size)→DataW.TrodAll enc P W' 0 (fun _=>true) true ts vs ds ps:=by
  intro ts
  induction ts with
  | nil =>
   intro vs ds ps h _
   cases vs with
   | nil=>cases ds with
    | nil=>exact h
    | cons _ _=>exact h.elim
   | cons _ _=>exact h.elim
  | cons t ts ih =>
   intro vs ds ps h hlt
   cases vs with
   | nil=>exact h.elim
   | cons v vs=>cases ds with
    | nil=>exact h.elim
    | cons d ds =>
     obtain ⟨p,q,⟨n,h1⟩,h2,e⟩:=h
     subst e
     exact ⟨p,q,⟨n,DataW.trod_carry n _ _ _ h1 (fun x hx=>hb.same (hlt x (List.mem_append_left _ hx)))⟩,ih h2 (fun x hx=>hlt x (List.mem_append_right _ hx)),rfl⟩
 exact DataW.TrodAll.respare K hz hT (carry h hlt) hs
theorem yy0 {f:Func} {s:ChangeSpec} {yjN fresh handsOn again:Bool} {W W':World} {args:Array Value} {v:Value} {ds gs:List (DataW H)} {before pa pv:List MemPlace}
  (hW:DataW.Whole enc P f.params.toList s.vars yjN W args.toList ds gs before)
  (hres:∀ (b:Nat) (sp:Nat→Bool) (hd:Bool),DataW.TrodAll enc P W' b sp hd f.resultTypes.toList (v.resultList f.resultTypes.size) (s.fn H (ds++gs)).results [])
  (hargs:∀ sp:Nat→Bool,(∀ p∈before,sp p.block=true)→DataW.TrodAll enc P W' 0 sp true f.params.toList args.toList (s.fn H (ds++gs)).args pa)
  (hvars:∀ sp:Nat→Bool,(∀ p∈before,sp p.block=true)→DataW.TrodVars enc P W' sp s.vars (s.fn H (ds++gs)).vars pv)
  (hps:before=pa++pv) (hb:Below W.heap.size W W')
  (hok:∀ (j:Nat) (t:TypeId) (r:Value),f.resultTypes[j]?=some t→(v.resultList f.resultTypes.size)[j]?=some r→Value.okWide P W' .any 0 t r) :
  s.post enc P f yjN fresh handsOn again W args v W':=by
 have hlt:∀ p∈before,p.block<W.heap.size:=fun p hp=>hW.lt p hp
 have hold:∀ p∈before,(fun b=>decide (b<W.heap.size)) p.block=true:=fun p hp=>by simpa using hlt p hp
 refine ⟨ds,gs,before,[],pa,pv,hW,hres _ _ _,hargs _ hold,hvars _ hold,World.keptBut_mono (fun p hp=>⟨hp,?_⟩) (hb.frame (·∈before)),fun _=>?_⟩
 ·rw [hps,qAu] at hp
  exact Or.inr hp
 ·obtain ⟨_,_,_,_,_,hz,hn⟩:=hW
  refine ⟨hok,_,_,([]++pa)++pv,⟨[]++pa,pv,trodAll_append (hargs _ (fun _ _=>rfl)) (hres _ _ _),hvars _ (fun _ _=>rfl),rfl,?_,?_⟩,?_⟩
  ·intro b off hp
   have hin:MemPlace.cell b off∈before:=by rw [hps];simpa using hp
   rw [hb.frozen (hlt _ hin)]
   exact hz b off hin
  ·intro ha
   have:=hn ha
   rw [hps] at this
   simpa using this
  ·intro p hp _
   rw [hps]
   simpa using hp
theorem yLg (K:Kids P (·<P.types.size)) (hz:∀ t e,t<P.types.size→P.underlying t=some (.slice e)→0<P.cellsOf e) {n:FuncId} {fn:Func} {G:Nat→Option PV} {dss:List DS} {s:ChangeSpec} {bt:TypeId}
  (hty : tyL P dss fn.params.toList = true) (hrow : ∀ t ∈ fn.params.toList, t < P.types.size) (hf : P.funcs[n]? = some fn) (hn : (fn.name == "runtime.NumGoroutine") = false) (hb : fn.body.isSome = true)
  (hvars:s.vars=[]) (hfn:∀ ds:List (DataW H),ds.length=fn.params.toList.length→s.fn H (ds++[])={ results:=[.lit (.bool true)],args:=ds })
  (hrt:fn.resultTypes.toList=[bt]) (hbt:P.underlying bt=some .bool) (hsum:∀ as,ytL dss as→ymb P G n as (.bool true)) {yjN fresh handsOn again:Bool}
  {W:World} {base:Nat} {args:Array Value} {ds gs:List (DataW H)} {before:List MemPlace} (hval:∀ (j:Nat) t v,fn.params[j]?=some t→args[j]?=some v→Value.okWide P W .any base t v)
  (hW:DataW.Whole enc P fn.params.toList s.vars yjN W args.toList ds gs before) (J:Nat→Prop) (hJ:∀ b,J b→b<W.heap.size) (hG:yG2 G (fun b=>(∃ p∈before,p.block=b)∨J b) W) :
  Calls P n args W fun e W'=>∃ v,e=.returned v∧s.post enc P fn yjN fresh handsOn again W args v W':=by
 have hW':=hW
 obtain ⟨p,q,hA,hV,hpq,hfz,hnd⟩:=hW
 have hlt:∀ x∈before,x.block<W.heap.size:=fun x hx=>hW'.lt x hx
 rw [hvars] at hV
 obtain ⟨hgs,hq⟩:=trodVars_none hV
 subst hgs;subst hq
 rw [qBh] at hpq
 subst hpq
 have hlen:ds.length=fn.params.toList.length:=by
  have len:∀ {ts:List TypeId} {vs:List Value} {xs:List (DataW H)} {ps:List MemPlace},DataW.TrodAll enc P W 0 (fun _=>true) true ts vs xs ps→xs.length=ts.length:=by
   intro ts
   induction ts with
   | nil =>
    intro vs xs ps h
    cases vs with
    | nil=>cases xs with
     | nil=>rfl
     | cons _ _=>exact h.elim
    | cons _ _=>exact h.elim
   | cons t ts ih =>
    intro vs xs ps h
    cases vs with
    | nil=>exact h.elim
    | cons v vs=>cases xs with
     | nil=>exact h.elim
     | cons x xs =>
      obtain ⟨_,_,_,h2,_⟩:=h
      simp [ih h2]
  exact len hA
 have hc:=yJN (I:=fun b=>(∃ x∈before,x.block=b)∨J b) K hty hrow hf hn hb hsum (W:=W) (base:=base) (args:=args) (fun j t v h1 h2=>hval j t v (by simpa using h1) (by simpa using h2)) hA (fun x hx=>.inl ⟨x,hx,rfl⟩)
  (fun b hb=>by
   rcases hb with ⟨x,hx,rfl⟩ | hb
   ·exact hlt x hx
   ·exact hJ b hb) hG
 refine hc.mono fun e W' ⟨he,hg⟩=>?_
 subst he
 have hrs:fn.resultTypes=#[bt]:=by rw [← qBv];exact hrt
 refine ⟨_,rfl,yy0 (pa:=before) (pv:=[]) hW' ?_ ?_ ?_ (by simp) hg ?_⟩
 ·intro b sp hd
  rw [hfn ds hlen,hrs]
  exact trodAll_mk1 (shut_bool hbt true)
 ·intro sp hs
  rw [hfn ds hlen]
  exact yHp K hz hg hrow hA hlt hs
 ·intro sp hs
  rw [hfn ds hlen,hvars];rfl
 ·intro j t r h1 h2
  rw [hrs] at h1 h2
  have hj:j=0:=by
   rcases j with _ | j
   ·rfl
   ·simp at h1
  subst hj
  simp at h1
  subst h1
  have:r=.bool true:=by
   have h3:((Value.bool true).resultList (#[bt]:Array TypeId).size)[0]?=some (.bool true):=rfl
   rw [h3] at h2
   exact (Option.some.inj h2).symm
  subst this
  exact okWide_bool_mk hbt true
end
end Go.Pf
namespace Go.Pf
open Go
def yB5:PV→Value
 | .int k n=>.int k n
 | _=>.bool false
def okL:List IntKind→List PV→Bool
 | [],[]=>true
 | k::ks,.int q n::r=>decide (q=k)&&(decide (k.min≤n)&&(decide (n≤k.max)&&okL ks r))
 | _,_=>false
def okI (ks:List IntKind):PV→Bool
 | .agg cs=>okL ks cs
 | _=>false
def encI (x:PV):List Value:=x.cells.map yB5
structure Srt where
 n:Nat
 g:Nat
 ks:List IntKind
 good:PV→Bool
 z:PV
def Srt.gd (s:Srt) (x:PV):Bool:=okI s.ks x&&s.good x
abbrev Srt.El (s:Srt):Type:={x:PV // s.gd x=true}
def Srt.enc (s:Srt) (x:s.El):List Value:=encI x.1
def Srt.rows? (s:Srt):List PV→Option (List s.El)
 | []=>some []
 | x::r=>if h:s.gd x=true then (match s.rows? r with | some l=>some (⟨x,h⟩::l) | none=>none) else none
theorem Srt.rows?_val {s:Srt}:∀ {l:List PV} {d:List s.El},s.rows? l=some d→d.map (·.1)=l
 | [],d,h=>by simp only [Srt.rows?] at h;cases h;rfl
 | x::r,d,h=>by
  simp only [Srt.rows?] at h
  split at h
  ·split at h
   ·rename_i l hl
    cases h
    rw [qB3,Srt.rows?_val hl]
   ·cases h
  ·cases h
def Srt.sorted (s:Srt) (srt:Array s.El→Array s.El) (l:List PV):List PV :=
 match s.rows? l with
 | some d=>(srt d.toArray).toList.map (·.1)
 | none=>l
def Srt.cond (s:Srt) (rows:List PV) (lo len ext esz:Nat) (fz:Bool):Bool :=
 decide (rows.length=ext)&&(decide (lo+len≤ext)&&(decide (0<len)&&(decide (esz=s.ks.length)&&(!fz&&(decide (len<4611686018427387904)&&(s.rows? ((rows.drop lo).take len)).isSome)))))
def yy1 (s:Srt) (srt:Array s.El→Array s.El) (n:Nat) (xs:List PV) (H:Hp):Option (Bool×Bool×(PV×Hp)×(PV×Hp)) :=
 bif Nat.beq n s.n then
  (match xs with
   | [.own id lo len ext _,.fn (.func g) [] []] =>
    bif Nat.beq g s.g then
     (match H[id]? with
      | some b=>some (s.cond b.rows lo len ext b.esz b.fz,true,(.tup [],H.set id { b with rows:=b.rows.take lo++(s.sorted srt ((b.rows.drop lo).take len)++b.rows.drop (lo+len)) }),(.nils,[]))
      | none=>none)
    else none
   | [.nils,.fn (.func g) [] []]=>bif Nat.beq g s.g then some (true,true,(.tup [],H),(.nils,[])) else none
   | [.emp,.fn (.func g) [] []]=>bif Nat.beq g s.g then some (true,true,(.tup [],H),(.nils,[])) else none
   | _=>none)
 else none
theorem yLh {s:Srt} {srt:Array s.El→Array s.El} {n:Nat} {xs:List PV} {H:Hp} {x:Bool×Bool×(PV×Hp)×(PV×Hp)} (h:yy1 s srt n xs H=some x):n=s.n:=by
 unfold yy1 at h
 cases hb:Nat.beq n s.n with
 | true=>exact qAj hb
 | false=>rw [hb] at h;cases h
structure Srts where
 s:Srt
 cf:s.El→s.El→Int
def Srts.srt (s:Srts) [Inhabited s.s.El] (d:Array s.s.El):Array s.s.El:=Go.Sort.pdq (fun x y=>decide (s.cf x y<0)) d 0 d.size (Go.Lib.bitLen d.size) true true
abbrev EffF:Type:=Nat→List PV→Hp→Option (Bool×Bool×(PV×Hp)×(PV×Hp))
def ytM:List (Nat×EffF)→EffF
 | [],_,_,_=>none
 | (k,e)::r,n,xs,H=>bif Nat.beq n k then (match e n xs H with | some x=>some x | none=>ytM r n xs H) else ytM r n xs H
theorem yIG:∀ {l:List (Nat×EffF)} {n:Nat} {xs:List PV} {H:Hp} {x:Bool×Bool×(PV×Hp)×(PV×Hp)},ytM l n xs H=some x→∃ e∈l,n=e.1
 | [],_,_,_,_,h=>by cases h
 | (k,e)::r,n,xs,H,x,h=>by
  simp only [ytM] at h
  cases hb:Nat.beq n k with
  | true=>exact ⟨(k,e),qAi,qAj hb⟩
  | false =>
   rw [hb,cond_false] at h
   obtain ⟨e2,h1,h2⟩:=yIG h
   exact ⟨e2,qAh _ h1,h2⟩
theorem yo8 {P:Program} {E:Env}:∀ {l:List (Nat×EffF)},(∀ e∈l,ybl P E (fun n xs H=>yrl (e.2 n xs H)))→ybl P E (fun n xs H=>yrl (ytM l n xs H))
 | [],_=>fun _ _ _ _ _ h=>by cases h
 | (k,e)::r,h=>by
  intro f args H q H' hc
  dsimp only [ytM] at hc
  cases hb:Nat.beq f k with
  | false =>
   rw [hb,cond_false] at hc
   exact yo8 (fun e2 h2=>h e2 (qAh _ h2)) f args H q H' hc
  | true =>
   rw [hb,cond_true] at hc
   cases he:e f args H with
   | some x =>
    rw [he] at hc
    refine h (k,e) qAi f args H q H' ?_
    dsimp only
    rw [he]
    exact hc
   | none =>
    rw [he] at hc
    exact yo8 (fun e2 h2=>h e2 (qAh _ h2)) f args H q H' hc
def yom (add sub:Nat) (tab:List (Nat×AFn)) (qui:List Nat) (cl:yfK) (gl:List (Nat×PV)) (ef:List (Nat×EffF)):Env:={ yol add sub tab qui cl gl with eff:=ytM ef }
theorem yax {add sub:Nat} {tab:List (Nat×AFn)} {qui:List Nat} {cl:yfK} {gl:List (Nat×PV)} {ef:List (Nat×EffF)} {n:Nat} (h:ytJ add sub cl n=false) (xs:List PV):(yom add sub tab qui cl gl ef).sum n xs=none:=yHm (tab:=tab) (qui:=qui) (gl:=gl) h xs
theorem yJO {add sub:Nat} {tab:List (Nat×AFn)} {qui:List Nat} {cl:yfK} {gl:List (Nat×PV)} {ef:List (Nat×EffF)} (h:(ef.all fun e=>!memN qui e.1&&(!ytJ add sub cl e.1&&!memN qui (e.1+3000000)))=true):yFo (yom add sub tab qui cl gl ef):=by
 intro n xs H x hx
 obtain ⟨e,h1,rfl⟩:=yIG hx
 have h2:=qCa.1 h e h1
 simp only [qAd,qA2] at h2
 exact ⟨h2.1,rfl,fun xs=>yax (tab:=tab) (qui:=qui) (gl:=gl) (ef:=ef) h2.2.1 xs,h2.2.2⟩
theorem yFr {P:Program} {add sub:Nat} {tab:List (Nat×AFn)} {qui:List Nat} {cl:yfK} {gl:List (Nat×PV)} {ef:List (Nat×EffF)} (h:EO P (yol add sub tab qui cl gl))
  (hs:∀ e∈ef,∀ y,ybl P ((yol add sub tab qui cl gl).ats y) (fun n xs H=>yrl (e.2 n xs H))):EO P (yom add sub tab qui cl gl ef) where
 sum:=h.sum
 fns:=h.fns
 eff:=EO.eff' (E:=yol add sub tab qui cl gl) (E':=yom add sub tab qui cl gl ef) rfl rfl rfl fun y _=>yo8 fun e he=>hs e he y
 dn:=h.dn
 top:=h.top
 yl:=h.yl' (E':=yom add sub tab qui cl gl ef) rfl rfl rfl rfl
end Go.Pf
namespace Go.Pf
abbrev lt {α:Type} (x:α) (f:α→Prop):Prop:=f x
abbrev jn {α:Type} (f:α→Prop) (k:α):Prop:=f k
def rvB (n d:Int):Bool:=decide (1≤d)&&(decide (d≤1000000000000000000)&&(decide (-1000000000000000000≤n)&&(decide (n≤1000000000000000000)&&decide (Nat.gcd n.natAbs d.natAbs=1))))
def cmpI (a b c d:Int):Int:=if a*d<c*b then -1 else if c*b<a*d then 1 else 0
def ysu:PV→Bool
 | .agg [.int _ a,.int _ b,_,_]=>rvB a b
 | _=>false
def yOj:PV→Bool
 | .agg [.int _ a,.int _ b]=>rvB a b
 | _=>false
def yon:PV→PV→Int
 | .agg [.int _ a,.int _ b,_,_],.agg [.int _ c,.int _ d,_,_]=>cmpI a b c d
 | _,_=>0
def yOP:PV→PV→Int
 | .agg [.int _ a,.int _ b],.agg [.int _ c,.int _ d]=>cmpI a b c d
 | _,_=>0
def ykS (n g:Nat):Srts:=⟨⟨n,g,[.i64,.i64,.i64,.i64],ysu,.agg [.int .i64 0,.int .i64 1,.int .i64 0,.int .i64 1]⟩,fun x y=>yon x.1 y.1⟩
def yOQ (n g:Nat):Srts:=⟨⟨n,g,[.i64,.i64],yOj,.agg [.int .i64 0,.int .i64 1]⟩,fun x y=>yOP x.1 y.1⟩
instance (n g:Nat):Inhabited (ykS n g).s.El:=⟨⟨.agg [.int .i64 0,.int .i64 1,.int .i64 0,.int .i64 1],rfl⟩⟩
instance (n g:Nat):Inhabited (yOQ n g).s.El:=⟨⟨.agg [.int .i64 0,.int .i64 1],rfl⟩⟩
theorem yy2 {n:Nat} {xs:List PV} {H:Hp}:∀ {l:List (Nat×EffF)},memN (l.map (·.1)) n=false→ytM l n xs H=none
 | [],_=>rfl
 | (k,e)::r,h=>by
  simp only [qB3,memN] at h
  simp only [ytM]
  cases hb:Nat.beq k n with
  | true=>rw [hb] at h;cases h
  | false =>
   rw [hb,cond_false] at h
   have hb2:Nat.beq n k=false:=by
    cases hc:Nat.beq n k with
    | false=>rfl
    | true =>
     have:=qAj hc
     subst this
     rw [qB1] at hb
     cases hb
   rw [hb2,cond_false]
   exact yy2 h
structure EffG (E:List (Nat×EffF)→Env) (nums:List Nat) (e:List (Nat×EffF)):Prop where
 ok:yFo (E e)
 num:∀ n,memN nums n=false→∀ xs H,(E e).eff n xs H=none
theorem yJP {add sub:Nat} {tab:List (Nat×AFn)} {qui:List Nat} {cl:yfK} {gl:List (Nat×PV)} {ef:List (Nat×EffF)} {n esz bytes:Nat} (h1:Nat.beq n add=false) (h2:Nat.beq n sub=false) (hc:ytK cl n=some (esz,bytes)) :
  ∀ as K,yyY esz bytes as K→∃ r,K r∧Ans (yom add sub tab qui cl gl ef) n as r:=by
 intro as K h
 unfold yyY yyX at h
 split at h
 ·rename_i rows
  obtain ⟨hk,h⟩:=yar.1 h
  refine ⟨_,h,0,fun k e m _ hl _=>?_⟩
  have hl:=(ygF hl).2.1
  simp only [yez,hl,yom,yol,yB3 h1 h2,ywF cl hc hk]
 ·exact h.elim
theorem yJQ {add sub:Nat} {tab:List (Nat×AFn)} {qui:List Nat} {cl:yfK} {gl:List (Nat×PV)} {ef:List (Nat×EffF)}:∀ as K,ysr as K→∃ r,K r∧Ans (yom add sub tab qui cl gl ef) add as r:=by
 intro as K h
 unfold ysr ysq at h
 split at h
 ·rename_i a b c
  obtain ⟨h1,h⟩:=yar.1 h
  have h1:c.toNat≤1:=by simpa using h1
  refine ⟨_,h,0,fun k e m _ hl _=>?_⟩
  have hl:=(ygF hl).2.1
  have e0:sumC add sub add [.int .u64 a,.int .u64 b,.int .u64 c]=some (.tup [u64 ((a.toNat+b.toNat+c.toNat) % 18446744073709551616),u64 ((a.toNat+b.toNat+c.toNat) / 18446744073709551616)]):=by
   simp only [sumC,qB1,qA7,Nat.ble_eq_true_of_le h1,cond_true]
  simp only [yez,hl,yom,yol,e0,u64]
 ·exact h.elim
theorem yJR {add sub:Nat} (hne:Nat.beq sub add=false) {tab:List (Nat×AFn)} {qui:List Nat} {cl:yfK} {gl:List (Nat×PV)} {ef:List (Nat×EffF)}:∀ as K,yst as K→∃ r,K r∧Ans (yom add sub tab qui cl gl ef) sub as r:=by
 intro as K h
 unfold yst yss at h
 split at h
 ·rename_i a b c
  obtain ⟨h1,h⟩:=yar.1 h
  have h1:c.toNat≤1:=by simpa using h1
  refine ⟨_,h,0,fun k e m _ hl _=>?_⟩
  have hl:=(ygF hl).2.1
  have e0:sumC add sub sub [.int .u64 a,.int .u64 b,.int .u64 c]=some (.tup [u64 ((a.toNat+18446744073709551616-b.toNat-c.toNat) % 18446744073709551616),u64 (bif Nat.ble (b.toNat+c.toNat) a.toNat then 0 else 1)]):=by
   simp only [sumC,hne,qB1,qA7,qBm,Nat.ble_eq_true_of_le h1,cond_true,cond_false]
  simp only [yez,hl,yom,yol,e0,u64]
 ·exact h.elim
end Go.Pf
namespace Go.Pf
open Go Go.Sort
theorem Srts.sorted_is (S:Srts) [Inhabited S.s.El] (h:SWO (fun x y=>decide (S.cf x y<0))) {rows:List PV} {d:List S.s.El} (hd:S.s.rows? rows=some d) :
  ∃ d':List S.s.El,d'.Perm d∧d'.Pairwise (fun x y=>¬S.cf y x<0)∧Srt.sorted S.s S.srt rows=d'.map (·.1):=by
 have e:Srt.sorted S.s S.srt rows=(S.srt d.toArray).toList.map (·.1):=by unfold Srt.sorted;rw [hd]
 obtain ⟨⟨h1,_,h3⟩,h4⟩:=pdq_sorts _ h d.toArray 0 d.toArray.size (Go.Lib.bitLen d.toArray.size) true true (qBg _) (qAk _) (Or.inl rfl)
 refine ⟨(S.srt d.toArray).toList,?_,?_,e⟩
 ·have h5:(S.srt d.toArray).size=d.toArray.size:=h1
  have e1:(S.srt d.toArray).extract 0 d.toArray.size=S.srt d.toArray:=by rw [← h5];exact Array.extract_size
  have e2:d.toArray.extract 0 d.toArray.size=d.toArray:=Array.extract_size
  have h6:((S.srt d.toArray).extract 0 d.toArray.size).toList.Perm (d.toArray.extract 0 d.toArray.size).toList:=h3
  rw [e1,e2] at h6
  simpa using h6
 ·have h5:(S.srt d.toArray).size=d.toArray.size:=h1
  rw [List.pairwise_iff_getElem]
  intro i j hi hj hij hlt
  rw [qCb] at hi hj
  have h6:SortedIn (fun x y=>decide (S.cf x y<0)) 0 d.toArray.size (S.srt d.toArray):=h4
  have:=h6 i j (qBg _) hij (by rw [← h5];exact hj)
  rw [getElem!_pos (S.srt d.toArray) i hi,getElem!_pos (S.srt d.toArray) j hj] at this
  simp only [Array.getElem_toList] at hlt
  simp [hlt] at this
end Go.Pf
namespace Go.Pf
abbrev Es:Type:=List (Nat×EffF)
def okB:Option Bool→Prop | none=>True | some b=>b=true
def asB:Option Bool→Prop→Prop | none,x=>x | some b,x=>asr b x
theorem yxU {g:Option Bool} {x:Prop}:asB g x↔okB g∧x:=by cases g <;> simp [asB,okB,yar]
def blen (H:Hp) (id:Nat):Nat:=match H[id]? with | some b=>b.rows.length | none=>0
structure Pat (α:Type) where
 T:Type
 A:Type→Type
 app:{R:Type}→A R→T→R
 of:(Nat→Nat)→T→α
 get:(Nat→Nat)→α→Option Bool→Option (T×Option Bool)
 inv:∀ {H x g t g'},get H x g=some (t,g')→okB g'→okB g∧x=of H t
section
variable {α β:Type}
def pAt:Pat α:=⟨α,fun R=>α→R,fun g t=>g t,fun _ t=>t,fun _ x g=>some (x,g),fun h k=>by cases h;exact ⟨k,rfl⟩⟩
def pCst (c:α) (f:α→Bool) (h:∀ x,f x=true→x=c):Pat α :=
 ⟨Unit,fun R=>R,fun g _=>g,fun _ _=>c,fun _ x g=>bif f x then some ((),g) else none,fun {H x g t g'} e k=>by
  cases hf:f x with
  | true=>rw [hf] at e;cases e;exact ⟨k,h _ hf⟩
  | false=>rw [hf] at e;cases e⟩
def pSub (m:β→α) (s:α→Option β) (h:∀ x b,s x=some b→x=m b) (p:Pat β):Pat α :=
 ⟨p.T,p.A,p.app,fun H t=>m (p.of H t),fun H x g=>match s x with | none=>none | some b=>p.get H b g,fun {H x g t g'} e k=>by
  cases hs:s x with
  | none=>rw [hs] at e;cases e
  | some b =>
   rw [hs] at e
   obtain ⟨h1,h2⟩:=p.inv e k
   exact ⟨h1,by rw [h _ _ hs,h2]⟩⟩
def pPr (p:Pat α) (q:Pat β):Pat (α×β) :=
 ⟨p.T×q.T,fun R=>p.A (q.A R),fun g t=>q.app (p.app g t.1) t.2,fun H t=>(p.of H t.1,q.of H t.2),
  fun H x g=>match p.get H x.1 g with | none=>none | some (a,g1)=>(match q.get H x.2 g1 with | none=>none | some (b,g2)=>some ((a,b),g2)),fun {H x g t g'} e k=>by
   cases h1:p.get H x.1 g with
   | none=>rw [h1] at e;cases e
   | some y =>
    obtain ⟨a,g1⟩:=y
    rw [h1] at e
    simp only at e
    cases h2:q.get H x.2 g1 with
    | none=>rw [h2] at e;cases e
    | some z =>
     obtain ⟨b,g2⟩:=z
     rw [h2] at e
     cases e
     obtain ⟨k2,e2⟩:=q.inv h2 k
     obtain ⟨k1,e1⟩:=p.inv h1 k2
     exact ⟨k1,Prod.ext e1 e2⟩⟩
end
def nK (n:Nat):Pat Nat:=pCst n (fun x=>Nat.beq x n) fun _ h=>qAj h
def nT (id:Nat):Pat Nat :=
 ⟨Unit,fun R=>R,fun g _=>g,fun H _=>H id,fun H x g=>some ((),match g with | none=>some (decide (x=H id)) | some b=>some (b&&decide (x=H id))),fun {H x g t g'} e k=>by
  cases e
  cases g with
  | none=>exact ⟨trivial,of_decide_eq_true k⟩
  | some b =>
   have k:(b&&decide (x=H id))=true:=k
   simp only [qAd,decide_eq_true_eq] at k
   exact ⟨k.1,k.2⟩⟩
abbrev nV:Pat Nat:=pAt
abbrev LPt:Type 1:=Pat (List PV)
abbrev VPt:Type 1:=Pat PV
def vI (k:IntKind):VPt:=pSub (.int k) (fun x=>match x with | .int q n=>bif decide (q=k) then some n else none | _=>none) (fun x b h=>by
 split at h
 ·rename_i q n
  by_cases e:q=k
  ·subst e;rw [decide_eq_true rfl] at h;cases h;rfl
  ·rw [decide_eq_false e] at h;cases h
 ·cases h) pAt
def vB:VPt:=pSub .bool (fun x=>match x with | .bool b=>some b | _=>none) (fun x b h=>by cases x <;> cases h;rfl) pAt
def vDl (p:LPt):VPt:=pSub .data (fun x=>match x with | .data b=>some b | _=>none) (fun x b h=>by cases x <;> cases h;rfl) p
def vD:VPt:=vDl pAt
def vA (p:LPt):VPt:=pSub .agg (fun x=>match x with | .agg b=>some b | _=>none) (fun x b h=>by cases x <;> cases h;rfl) p
def vNs:VPt:=pCst .nils (fun x=>match x with | .nils=>true | _=>false) fun x h=>by cases x <;> cases h;rfl
def vY:VPt:=pCst (.fn (.yield 0) [] []) (fun x=>match x with | .fn (.yield k) [] []=>Nat.beq k 0 | _=>false) fun x h=>by
 split at h
 ·rw [qAj h]
 ·cases h
def vP (id o:Nat) (e i:Pat Nat):VPt:=pSub (fun b=>.ptr id b.1 b.2 o) (fun x=>match x with | .ptr a e i f=>bif Nat.beq a id&&Nat.beq f o then some (e,i) else none | _=>none) (fun x b h=>by
 split at h
 ·rename_i a e i f
  cases hc:(Nat.beq a id&&Nat.beq f o) with
  | false=>rw [hc] at h;cases h
  | true =>
   rw [hc] at h
   simp only [qAd] at hc
   cases h
   rw [qAj hc.1,qAj hc.2]
 ·cases h) (pPr e i)
def vX (o:Nat) (p:VPt):VPt:=pSub (fun b=>.eptr [b] 0 o) (fun x=>match x with | .eptr [y] i f=>bif Nat.beq i 0&&Nat.beq f o then some y else none | _=>none) (fun x b h=>by
 split at h
 ·rename_i y i f
  cases hc:(Nat.beq i 0&&Nat.beq f o) with
  | false=>rw [hc] at h;cases h
  | true =>
   rw [hc] at h
   simp only [qAd] at hc
   cases h
   rw [qAj hc.1,qAj hc.2]
 ·cases h) p
def vO (id:Nat) (lo len ext c:Pat Nat):VPt:=pSub (fun b=>.own id b.1 b.2.1 b.2.2.1 (some b.2.2.2)) (fun x=>match x with | .own a lo len ext (some c)=>bif Nat.beq a id then some (lo,len,ext,c) else none | _=>none) (fun x b h=>by
 split at h
 ·rename_i a lo len ext c
  cases hc:Nat.beq a id with
  | false=>rw [hc] at h;cases h
  | true=>rw [hc] at h;cases h;rw [qAj hc]
 ·cases h) (pPr lo (pPr len (pPr ext c)))
def vW (id:Nat) (lo len ext:Pat Nat):VPt:=pSub (fun b=>.own id b.1 b.2.1 b.2.2 none) (fun x=>match x with | .own a lo len ext none=>bif Nat.beq a id then some (lo,len,ext) else none | _=>none) (fun x b h=>by
 split at h
 ·rename_i a lo len ext
  cases hc:Nat.beq a id with
  | false=>rw [hc] at h;cases h
  | true=>rw [hc] at h;cases h;rw [qAj hc]
 ·cases h) (pPr lo (pPr len ext))
def vF (n:Nat) (p q:LPt):VPt:=pSub (fun b=>.fn (.func n) b.1 b.2) (fun x=>match x with | .fn (.func k) a b=>bif Nat.beq k n then some (a,b) else none | _=>none) (fun x b h=>by
 split at h
 ·rename_i k a b
  cases hc:Nat.beq k n with
  | false=>rw [hc] at h;cases h
  | true=>rw [hc] at h;cases h;rw [qAj hc]
 ·cases h) (pPr p q)
def lN:LPt:=pCst [] (fun x=>match x with | []=>true | _::_=>false) fun x h=>by cases x <;> cases h;rfl
def lC (p:VPt) (q:LPt):LPt:=pSub (fun b=>b.1::b.2) (fun x=>match x with | y::r=>some (y,r) | []=>none) (fun x b h=>by cases x <;> cases h;rfl) (pPr p q)
def fN:Pat Frm:=pCst [] (fun x=>match x with | []=>true | _::_=>false) fun x h=>by cases x <;> cases h;rfl
def fV (s:Nat) (p:VPt) (q:Pat Frm):Pat Frm:=pSub (fun b=>(s,.v b.1)::b.2) (fun x=>match x with | (k,.v y)::r=>bif Nat.beq k s then some (y,r) else none | _=>none) (fun x b h=>by
 split at h
 ·rename_i k y r
  cases hc:Nat.beq k s with
  | false=>rw [hc] at h;cases h
  | true=>rw [hc] at h;cases h;rw [qAj hc]
 ·cases h) (pPr p q)
def fX (s:Nat) (p:VPt) (q:Pat Frm):Pat Frm:=pSub (fun b=>(s,.box b.1)::b.2) (fun x=>match x with | (k,.box y)::r=>bif Nat.beq k s then some (y,r) else none | _=>none) (fun x b h=>by
 split at h
 ·rename_i k y r
  cases hc:Nat.beq k s with
  | false=>rw [hc] at h;cases h
  | true=>rw [hc] at h;cases h;rw [qAj hc]
 ·cases h) (pPr p q)
def rhN:Pat Hp:=pCst [] (fun x=>match x with | []=>true | _::_=>false) fun x h=>by cases x <;> cases h;rfl
def rhB (fz pu:Bool) (esz:Nat) (p:LPt) (q:Pat Hp):Pat Hp:=pSub (fun b=>⟨fz,pu,esz,b.1⟩::b.2) (fun x=>match x with | ⟨a,b,c,rows⟩::r=>bif (a == fz)&&((b == pu)&&Nat.beq c esz) then some (rows,r) else none | []=>none) (fun x b h=>by
 split at h
 ·rename_i a b c rows r
  cases hc:((a == fz)&&((b == pu)&&Nat.beq c esz)) with
  | false=>rw [hc] at h;cases h
  | true =>
   rw [hc] at h
   simp only [qAd,beq_iff_eq] at hc
   cases h
   rw [hc.1,hc.2.1,qAj hc.2.2]
 ·cases h) (pPr p q)
structure RPt where
 p:LPt
 n:∀ r r' t,(p.of r t).length=(p.of r' t).length
structure HPt where
 p:Pat Hp
 n:∀ r r' t id,blen (p.of r t) id=blen (p.of r' t) id
def rA:RPt:=⟨pAt,fun _ _ _=>rfl⟩
def rN:RPt:=⟨lN,fun _ _ _=>rfl⟩
def rC (p:VPt) (q:RPt):RPt:=⟨lC p q.p,fun r r' t=>congrArg (·+1) (q.n r r' t.2)⟩
def hN:HPt:=⟨rhN,fun _ _ _ _=>rfl⟩
def hB (fz pu:Bool) (esz:Nat) (p:RPt) (q:HPt):HPt:=⟨rhB fz pu esz p.p q.p,fun r r' t id=>by
 cases id with
 | zero=>exact p.n r r' t.1
 | succ k=>exact q.n r r' t.2 k⟩
abbrev Sta:Type:=Hp×Frm×Frm
abbrev r0:Nat→Nat:=fun _=>0
def pS (h:HPt) (p o:Pat Frm):Pat Sta :=
 ⟨h.p.T×p.T×o.T,fun R=>h.p.A (p.A (o.A R)),fun g t=>o.app (p.app (h.p.app g t.1) t.2.1) t.2.2,fun _ t=>(h.p.of (blen (h.p.of r0 t.1)) t.1,p.of (blen (h.p.of r0 t.1)) t.2.1,o.of (blen (h.p.of r0 t.1)) t.2.2),
  fun _ x g=>match h.p.get (blen x.1) x.1 g with | none=>none | some (a,g1)=>(match p.get (blen x.1) x.2.1 g1 with | none=>none | some (b,g2)=>(match o.get (blen x.1) x.2.2 g2 with | none=>none | some (c,g3)=>some ((a,b,c),g3))),fun {H x g t g'} e k=>by
   obtain ⟨X,Y,Z⟩:=x
   cases h1:h.p.get (blen X) X g with
   | none=>simp only [h1] at e;cases e
   | some y =>
    obtain ⟨a,g1⟩:=y
    simp only [h1] at e
    cases h2:p.get (blen X) Y g1 with
    | none=>rw [h2] at e;cases e
    | some z =>
     obtain ⟨b,g2⟩:=z
     rw [h2] at e
     simp only at e
     cases h3:o.get (blen X) Z g2 with
     | none=>rw [h3] at e;cases e
     | some w =>
      obtain ⟨c,g3⟩:=w
      rw [h3] at e
      cases e
      obtain ⟨k3,e3⟩:=o.inv h3 k
      obtain ⟨k2,e2⟩:=p.inv h2 k3
      obtain ⟨k1,e1⟩:=h.p.inv h1 k2
      refine ⟨k1,?_⟩
      show (X,Y,Z)=(h.p.of (blen (h.p.of r0 a)) a,p.of (blen (h.p.of r0 a)) b,o.of (blen (h.p.of r0 a)) c)
      have e4:blen (h.p.of r0 a)=blen X:=funext fun id=>by
       rw [h.n r0 (blen X) a id,← e1]
      rw [e4,← e1,← e2,← e3]⟩
structure St where
 p:Pat Sta
 g:Nat→p.A Prop
def runS:List St→Nat→Sta→Prop
 | [],_,_=>False
 | s::r,n,x=>match s.p.get r0 x none with | some (t,b)=>asB b (s.p.app (s.g n) t) | none=>runS r n x
def runE:List St→Sta→Prop
 | [],_=>False
 | s::r,x=>match s.p.get r0 x none with | some (t,b)=>asB b (∃ n,s.p.app (s.g n) t) | none=>runE r x
theorem yHq {x:Sta}:∀ {L:List St},runE L x→∃ n,runS L n x
 | [],h=>h.elim
 | s::r,h=>by
  unfold runE at h
  unfold runS
  split at h
  ·rename_i t b e
   obtain ⟨hb,n,h⟩:=yxU.1 h
   exact ⟨n,yxU.2 ⟨hb,h⟩⟩
  ·obtain ⟨n,h⟩:=yHq h
   exact ⟨n,h⟩
theorem yo9 {x:Sta} {n:Nat}:∀ {L:List St},runS L n x→∃ s,s∈L∧∃ t,x=s.p.of r0 t∧s.p.app (s.g n) t
 | [],h=>h.elim
 | s::r,h=>by
  unfold runS at h
  split at h
  ·rename_i t b e
   obtain ⟨hb,h⟩:=yxU.1 h
   exact ⟨s,qAi,t,(s.p.inv e hb).2,h⟩
  ·obtain ⟨s',h1,h2⟩:=yo9 h
   exact ⟨s',qAh _ h1,h2⟩
def bodS (gc:Bool) (L:List St) (n:Nat) (G:Frm) (k:Nat) (F':Frm) (H':Hp):Prop:=runS L n (bif gc then gcH F' k H' else H',F',G)
def AllB (E:Env) (callK:CK) (lp:LP) (yk:Frm→YK) (b:TC) (gc:Bool) (Q:Qx) (L:List St):List St→Prop
 | []=>True
 | s::r=>(∀ t,s.p.app (s.g 0) t=False)∧(∀ n t,WC E callK lp (s.p.of r0 t).2.2 (yk (s.p.of r0 t).2.2) b (s.p.of r0 t).2.1 (s.p.of r0 t).1 (exQ (bodS gc L n (s.p.of r0 t).2.2 (s.p.of r0 t).1.length) Q)=s.p.app (s.g (n+1)) t)∧AllB E callK lp yk b gc Q L r
theorem AllB.mem {E:Env} {callK:CK} {lp:LP} {yk:Frm→YK} {b:TC} {gc:Bool} {Q:Qx} {L:List St}:∀ {l:List St},AllB E callK lp yk b gc Q L l→∀ s∈l,(∀ t,s.p.app (s.g 0) t=False)∧(∀ n t,WC E callK lp (s.p.of r0 t).2.2 (yk (s.p.of r0 t).2.2) b (s.p.of r0 t).2.1 (s.p.of r0 t).1 (exQ (bodS gc L n (s.p.of r0 t).2.2 (s.p.of r0 t).1.length) Q)=s.p.app (s.g (n+1)) t)
 | [],_,s,h=>by cases h
 | x::r,h,s,hs=>by
  rcases qAr.1 hs with rfl | hs
  ·exact ⟨h.1,h.2.1⟩
  ·exact AllB.mem h.2.2 s hs
section
variable {E:Env} {callK:CK} {P:EP} {lp:LP} {yk:Frm→YK} {b:TC} {Q:Qx} {L:List St} {id:Nat} {F G:Frm} {H:Hp}
theorem yok.st (hP:Sub P E) (hG:Good P callK) (hY:YOk P E (yk G)) (hl:LpOk P E lp G b) (hb:AllB E callK lp yk b false Q L L) (h:runE L (H,F,G)) (hf:ycI b=true:=by kernel_rfl):yok P (.loop id b) F H Q:=by
 obtain ⟨n,h⟩:=yHq h
 refine yok.intro (id:=id) hP hG hf hY hl (fun n F H=>runS L n (H,F,G)) (fun F H h=>?_) (fun n F H h=>?_) n F H h
 ·obtain ⟨s,hs,t,_,h⟩:=yo9 h
  rw [(hb.mem s hs).1 t] at h
  exact h
 ·obtain ⟨s,hs,t,e,h⟩:=yo9 h
  rw [← (hb.mem s hs).2 n t,← e] at h
  exact h
theorem yok.stG (hP:Sub P E) (hG:Good P callK) (hY:YOk P E (yk G)) (hl:LpOk P E lp G b) (hb:AllB E callK lp yk b true Q L L) (h:runE L (H,F,G)) (hf:ycI b=true:=by kernel_rfl):yok P (.lG id b) F H Q:=by
 obtain ⟨n,h⟩:=yHq h
 refine yok.introG (id:=id) hP hG hf hY hl (fun n F H=>runS L n (H,F,G)) (fun F H h=>?_) (fun n F H h=>?_) n F H h
 ·obtain ⟨s,hs,t,_,h⟩:=yo9 h
  rw [(hb.mem s hs).1 t] at h
  exact h
 ·obtain ⟨s,hs,t,e,h⟩:=yo9 h
  rw [← (hb.mem s hs).2 n t,← e] at h
  exact h
end
abbrev ycp (S:SE) (d:Nat) (yk:Frm→YK) (b:TC) (gc:Bool) (L:Qx→List St):Prop:=∀ Q,AllB S.E (yhO S d) S.lp yk b gc Q (L Q) (L Q)
abbrev a:Frm→YK:=fun _=>noYK
abbrev LpT (P:EP) (lp:LP) (G:Frm) (id:Nat) (c:TC):Prop:=∀ F H Q,lp id G F H Q→yok P c F H Q
def lpS:List (Nat×(Qx→List St))→LP
 | [],_,_,_,_,_=>False
 | p::r,id,G,F,H,Q=>bif Nat.beq id p.1 then runE (p.2 Q) (H,F,G) else lpS r id G F H Q
structure Sg where
 p:LPt
 R:Type
 k:(PV→Prop)→R
abbrev Sg.W (s:Sg):Type:=s.p.A (s.R→Prop)
def Sg.pw (s:Sg) (w:s.W) (as:List PV) (K:PV→Prop):Prop:=match s.p.get r0 as none with | some (t,b)=>asB b (s.p.app w t (s.k K)) | none=>False
def sE (E:Env) (l:List (Nat×(List PV→(PV→Prop)→Prop))) (lp:LP):SE:=⟨E,yeB l,yeC [],lp,fun _=>none⟩
def lp0:LP:=fun _ _ _ _ _=>False
def EqW (S:SE) (d:Nat) (t:TFn) (s:Sg) (w:s.W):Prop:=∀ a K,WP S d t (s.p.of r0 a) K=s.p.app w a (s.k K)
theorem Sg.inv {s:Sg} {w:s.W} {as:List PV} {K:PV→Prop} (h:s.pw w as K):∃ a,as=s.p.of r0 a∧s.p.app w a (s.k K):=by
 unfold Sg.pw at h
 split at h
 ·rename_i t b e
  obtain ⟨hb,h⟩:=yxU.1 h
  exact ⟨t,(s.p.inv e hb).2,h⟩
 ·exact h.elim
theorem okW {P:EP} {S:SE} {d n:Nat} {t:TFn} {s:Sg} {w:s.W} (hq:EqW S d t s w) (hS:SEOk P S) (hR:yj6 P S.E (yhO S d) t.body) (hl:LpOk P S.E S.lp [] t.body) (hs:∀ as,S.E.sum n as=none) (he:∀ as H,S.E.eff n as H=none) (hf:S.E.fns n=some t.fn) (hu:S.E.qui n=true) (hn:S.E.nl n=false):∀ as K,s.pw w as K→∃ r,K r∧AnsP P n as r:=fun as K h=>by
 obtain ⟨a,e,k⟩:=Sg.inv h
 subst e
 rw [← hq a K] at k
 exact yOO hS hR hl hf hu hs he k hn
end Go.Pf
namespace Go.Pf.Vc
open Go Go.Pf
def yiF:Nat:=34
def ye1:Nat:=8
def yg3:Nat:=113
def yiG:Nat:=62
def ymf:Nat:=26
def yiH:Nat:=63
def yfA:Nat:=141
def yeo:Nat:=142
def yby:Nat:=95
def ycj:Nat:=64
def ycL:Nat:=127
def yeD:Nat:=74
def yhX:Nat:=35
def yaO:Nat:=37
def ydL:Nat:=76
def ybK:Nat:=67
def ycb:Nat:=54
def yiI:Nat:=162
def ybn:Nat:=93
def ycB:Nat:=94
def ycM:Nat:=98
def yeE:Nat:=122
def ygh:Nat:=130
def ycq:Nat:=52
def ybz:Nat:=105
def yd9:Nat:=143
def ybL:Nat:=96
def ydq:Nat:=169
def ydH:Nat:=150
def ydZ:Nat:=97
def yc8:Nat:=170
def ycC:Nat:=152
def yhp:Nat:=151
def ybU:Nat:=112
def yck:Nat:=102
def ydM:Nat:=99
def ygi:Nat:=144
def ygj:Nat:=145
def yjH:Nat:=190
def yea:Nat:=168
def yhY:Nat:=147
def ymg:Nat:=146
def ycD:Nat:=106
def yeF:Nat:=103
def ydk:Nat:=55
def ydl:Nat:=104
def yfG:Nat:=101
def ypa:Nat:=100
def yiJ:Nat:=56
def ycN:Nat:=66
def ye2:Nat:=161
def yj7:Nat:=129
def ye3:Nat:=128
def yeG:Nat:=114
def ycz:Nat:=65
def yiK:Nat:=131
def yiL:Nat:=132
def yfl:Nat:=77
def ybr:Nat:=79
def yfL:Nat:=133
def ydN:Nat:=78
def yep:Nat:=75
def yio:Nat:=36
def ygO:Nat:=11
def yfm:Nat:=9
def ymh:Nat:=39
def yfB:Nat:=14
def yg4:Nat:=27
def yhq:Nat:=28
def ygG:Nat:=212
def yiM:Nat:=191
def ydP:Nat:=172
def ydQ:Nat:=171
def ybw:Nat:=116
def ybo:Nat:=123
def ydR:Nat:=153
def yeq:Nat:=174
def ypb:Nat:=173
def ybY:Nat:=154
def ybc:Nat:=115
def yc9:Nat:=68
def yeb:Nat:=69
def ydr:Nat:=157
def ybT:Nat:=175
def yaK:Nat:=155
def ycu:Nat:=156
def yfH:Nat:=119
def ybA:Nat:=118
def ycf:Nat:=117
def ycO:Nat:=176
def ydy:Nat:=158
def yvr:Nat:=189
def yDd:Nat:=167
def ydm:Nat:=192
def ybQ:Nat:=177
def ybj:Nat:=159
def ycg:Nat:=160
def ycP:Nat:=120
def ybB:Nat:=121
def ybC:Nat:=124
def ybD:Nat:=125
def ybE:Nat:=126
def ybh:Nat:=70
def yhr:Nat:=29
def ybf:Nat:=71
def yaR:Nat:=72
def yf3:Nat:=30
def yj8:Nat:=6
def zF (d s:Nat) (o:AOp):AO:=⟨some d,o,some (s,false)⟩
def zT (d s:Nat) (o:AOp):AO:=⟨some d,o,some (s,true)⟩
def zS (n:Nat) (a x:Opd):AO:=⟨none,.store n a x,none⟩
def zR:Nat→Nat→List Nat
 | _,0=>[]
 | a,n+1=>a::zR (a+1) n
def zQ:TC→TC→TC:=.seq
def zC:Opd→TC→TC→TC:=.cond
def zB:Nat→TC→TC:=.block
abbrev zI:Sh:=.one (.i .i64)
abbrev zD:Sh:=.one .d
abbrev z2:Sh:=.agg [.i .i64,.i .i64]
abbrev z4:Sh:=.agg [.i .i64,.i .i64,.i .i64,.i .i64]
abbrev zK:Sh:=.agg [.i .i64,.d,.d]
abbrev zE:Sh:=.agg [.d,.d]
def t0:Opd:=.t 0
def t1:Opd:=.t 1
def t4:Opd:=.t 4
def t5:Opd:=.t 5
def t7:Opd:=.t 7
def t8:Opd:=.t 8
def t9:Opd:=.t 9
def t10:Opd:=.t 10
def t11:Opd:=.t 11
def yFs:TFn:=⟨1,[.tmp 2],(zQ (oQ [O 1 (.boxL t0),O 2 (.mv (.c (.bool false)))] [0,2]) (zQ (.ops [O 3 (.fad 1 t1),oF 4 1 3,O 5 (.len t4),O 6 (.bin .gtr t5 (I 60)),M 7 6,zF 8 7 (.fad 2 t1),zF 9 7 (.load false 1 t8),zF 10 7 (.len t9),zF 11 7 (.bin .gtr t10 (I 60)),O 12 (.pick t7 (.c (.bool true)) t11),M 2 12] [⟨1,zK,0⟩,⟨6,zK,0⟩] [] [1,3,4,5,6,7,8,9,10,11,12]) .ret))⟩
def t13:Opd:=.t 13
def t14:Opd:=.t 14
def yqz:TC:=(zQ (zQ (oQ [M 4 3,M 5 0,O 6 (.len t5),oX 7 .lss 4 6] [4,5,6]) (zC t7 .skip (.exit 0))) (zQ (zB 1 (zQ (.ops [M 10 0,M 11 3,O 12 (.iad 3 t10 t11),oT 13 3 12,O 14 (.call (.f yiF) [t13])] [⟨2,zK,0⟩,⟨3,zK,0⟩] [] [7,10,11,12,13]) (zC t14 (zQ (oQ [O 2 (.mv (.c (.bool true)))] [0,3,14]) .ret) .skip))) (oQ [M 8 3,O 9 (.bin .add t8 (I 1)),M 3 9] [8,9,14])))
def t15:Opd:=.t 15
def t16:Opd:=.t 16
def yvs:TFn:=⟨1,[.tmp 2],(zQ (oQ [O 2 (.mv (.c (.bool false)))] [2]) (zQ (zQ (oQ [O 3 (.mv (I 0))] []) (zB 0 (.loop 4277600 yqz))) (zQ (oQ [M 15 0,O 16 (.len t15),O 17 (.bin .gtr t16 (I 10)),M 2 17] [0,3,7,15,16,17]) .ret)))⟩
def t55:Opd:=.t 55
def t57:Opd:=.t 57
def t58:Opd:=.t 58
def t61:Opd:=.t 61
def t62:Opd:=.t 62
def t63:Opd:=.t 63
def t67:Opd:=.t 67
def t68:Opd:=.t 68
def t72:Opd:=.t 72
def t73:Opd:=.t 73
def t74:Opd:=.t 74
def t75:Opd:=.t 75
def t76:Opd:=.t 76
def t77:Opd:=.t 77
def t78:Opd:=.t 78
def t80:Opd:=.t 80
def t81:Opd:=.t 81
def t82:Opd:=.t 82
def t83:Opd:=.t 83
def t84:Opd:=.t 84
def t85:Opd:=.t 85
def t86:Opd:=.t 86
def t87:Opd:=.t 87
def t89:Opd:=.t 89
def t90:Opd:=.t 90
def t91:Opd:=.t 91
def t92:Opd:=.t 92
def t93:Opd:=.t 93
def t94:Opd:=.t 94
def t95:Opd:=.t 95
def ymU:TC:=(zQ (zQ (.ops [M 53 4,O 54 (.fad 2 t1),oF 55 1 54,O 56 (.len t55),oX 57 .lss 53 56] [⟨2,zK,0⟩] [] (zR 53 4)) (zC t57 .skip (.exit 0))) (zQ (zB 1 (zQ (zQ (.ops [O 60 (.fad 1 t1),oF 61 1 60,M 62 4,O 63 (.bin .add t62 (I 1)),O 64 (.iad 1 t61 t63),oF 65 1 64,O 66 (.fad 1 t1),oF 67 1 66,M 68 4,O 69 (.iad 1 t67 t68),oF 70 1 69,oX 71 .leq 65 70,M 72 71,zF 73 72 (.fad 2 t1),zF 74 72 (.load false 1 t73),zF 75 72 (.mv t4),zF 76 72 (.iad 1 t74 t75),zF 77 72 (.load false 1 t76),zF 78 72 (.bin .lss t77 (I 0)),O 79 (.pick t72 (.c (.bool true)) t78),M 80 79,zF 81 80 (.fad 2 t1),zF 82 80 (.load false 1 t81),zF 83 80 (.mv t4),zF 84 80 (.iad 1 t82 t83),zF 85 80 (.load false 1 t84),zF 86 80 (.bin .gtr t85 (I 12)),O 87 (.pick t80 (.c (.bool true)) t86)] [⟨1,zK,0⟩,⟨4,zI,0⟩,⟨5,zI,0⟩,⟨7,zK,0⟩,⟨9,zI,0⟩,⟨10,zI,0⟩,⟨14,zK,0⟩,⟨16,zI,0⟩,⟨17,zI,0⟩,⟨22,zK,0⟩,⟨24,zI,0⟩,⟨25,zI,0⟩] [(0,2),(1,2),(0,3),(1,3),(0,6),(1,6),(2,6),(3,6),(4,6),(5,6),(0,7),(1,7),(2,7),(3,7),(4,7),(5,7),(0,8),(1,8),(2,8),(3,8),(4,8),(5,8),(6,8),(7,8),(0,9),(1,9),(2,9),(3,9),(4,9),(5,9),(0,10),(1,10),(2,10),(3,10),(4,10),(5,10),(13,15),(14,15),(21,23),(22,23)] [57,60,61,62,63,64,65,66,67,68,69,70,71,72,73,74,75,76,77,78,79,80,81,82,83,84,85,86]) (zC t87 (zQ (oQ [O 2 (.mv (I 8))] [1,3,4,87]) .ret) .skip)) (.ops [M 88 3,M 89 88,zF 90 89 (.fad 2 t1),zF 91 89 (.load false 1 t90),zF 92 89 (.mv t4),zF 93 89 (.iad 1 t91 t92),zF 94 89 (.load false 1 t93),zF 95 89 (.bin .gtr t94 (I 0)),O 96 (.pick t89 (.c (.bool true)) t95),M 3 96] [⟨3,zK,0⟩,⟨5,zI,0⟩,⟨6,zI,0⟩] [] (zR 87 10)))) (oQ [M 58 4,O 59 (.bin .add t58 (I 1)),M 4 59] [58,59])))
def t6:Opd:=.t 6
def t12:Opd:=.t 12
def t17:Opd:=.t 17
def t18:Opd:=.t 18
def t19:Opd:=.t 19
def t20:Opd:=.t 20
def t21:Opd:=.t 21
def t23:Opd:=.t 23
def t24:Opd:=.t 24
def t25:Opd:=.t 25
def t26:Opd:=.t 26
def t27:Opd:=.t 27
def t28:Opd:=.t 28
def t29:Opd:=.t 29
def t30:Opd:=.t 30
def t31:Opd:=.t 31
def t33:Opd:=.t 33
def t34:Opd:=.t 34
def t35:Opd:=.t 35
def t36:Opd:=.t 36
def t37:Opd:=.t 37
def t38:Opd:=.t 38
def t40:Opd:=.t 40
def t41:Opd:=.t 41
def t42:Opd:=.t 42
def t43:Opd:=.t 43
def t44:Opd:=.t 44
def t45:Opd:=.t 45
def t46:Opd:=.t 46
def t47:Opd:=.t 47
def t48:Opd:=.t 48
def t49:Opd:=.t 49
def t50:Opd:=.t 50
def t51:Opd:=.t 51
def t52:Opd:=.t 52
def t97:Opd:=.t 97
def t98:Opd:=.t 98
def yFt:TFn:=⟨1,[.tmp 2],(zQ (oQ [O 1 (.boxL t0),O 2 (.mv (I 0))] [0,2]) (zQ (zQ (.ops [O 5 (.fad 0 t1),oF 6 1 5,O 7 (.bin .gtr t6 (I 1000)),M 8 7,zF 9 8 (.fad 1 t1),zF 10 8 (.load false 1 t9),zF 11 8 (.len t10),zF 12 8 (.bin .gtr t11 (I 40)),O 13 (.pick t8 (.c (.bool true)) t12)] [⟨1,zK,0⟩,⟨5,zK,0⟩] [] (zR 5 8)) (zC t13 (zQ (oQ [O 2 (.mv (I 4))] [1,13]) .ret) .skip)) (zQ (zQ (.ops [O 14 (.fad 0 t1),oF 15 1 14,O 16 (.bin .lss t15 (I 1)),M 17 16,zF 18 17 (.fad 1 t1),zF 19 17 (.load false 1 t18),zF 20 17 (.len t19),zF 21 17 (.bin .lss t20 (I 2)),O 22 (.pick t17 (.c (.bool true)) t21),M 23 22,zF 24 23 (.fad 2 t1),zF 25 23 (.load false 1 t24),zF 26 23 (.len t25),zF 27 23 (.fad 1 t1),zF 28 23 (.load false 1 t27),zF 29 23 (.len t28),zF 30 23 (.bin .sub t29 (I 1)),zF 31 23 (.bin .neq t26 t30),O 32 (.pick t23 (.c (.bool true)) t31),M 33 32,zF 34 33 (.fad 1 t1),zF 35 33 (.load false 1 t34),zF 36 33 (.iad 1 t35 (I 0)),zF 37 33 (.load false 1 t36),zF 38 33 (.bin .neq t37 (I 0)),O 39 (.pick t33 (.c (.bool true)) t38),M 40 39,zF 41 40 (.fad 1 t1),zF 42 40 (.load false 1 t41),zF 43 40 (.fad 1 t1),zF 44 40 (.load false 1 t43),zF 45 40 (.len t44),zF 46 40 (.bin .sub t45 (I 1)),zF 47 40 (.iad 1 t42 t46),zF 48 40 (.load false 1 t47),zF 49 40 (.fad 0 t1),zF 50 40 (.load false 1 t49),zF 51 40 (.bin .neq t48 t50),O 52 (.pick t40 (.c (.bool true)) t51)] [⟨1,zK,0⟩,⟨5,zK,0⟩,⟨11,zK,0⟩,⟨14,zK,0⟩,⟨21,zK,0⟩,⟨22,zI,0⟩,⟨23,zI,0⟩,⟨28,zK,0⟩,⟨30,zK,0⟩,⟨33,zI,0⟩,⟨34,zI,0⟩,⟨36,zK,0⟩] [(10,13),(11,13),(12,13),(10,14),(11,14),(12,14),(10,15),(11,15),(12,15),(10,16),(11,16),(12,16),(27,29),(28,29),(27,30),(28,30),(27,31),(28,31),(27,32),(28,32),(27,35),(28,35),(29,35),(30,35),(31,35),(32,35),(33,35),(34,35),(27,36),(28,36),(29,36),(30,36),(31,36),(32,36),(33,36),(34,36)] (zR 13 39)) (zC t52 (zQ (oQ [O 2 (.mv (I 8))] [1,52]) .ret) .skip)) (zQ (oQ [O 3 (.mv (.c (.bool false)))] [52]) (zQ (zQ (oQ [O 4 (.mv (I 0))] []) (zB 0 (.loop 94526800 ymU))) (zQ (zQ (oQ [M 97 3,O 98 (.un .not t97)] [1,3,4,57,97]) (zC t98 (zQ (oQ [O 2 (.mv (I 8))] [98]) .ret) .skip)) (zQ (oQ [O 2 (.mv (I 0))] [98]) .ret)))))))⟩
def t32:Opd:=.t 32
def yqA:TC:=(zQ (zQ (.ops [M 19 3,O 20 (.fad 0 t1),oF 21 1 20,O 22 (.len t21),oX 23 .lss 19 22] [⟨2,zE,0⟩] [] (zR 19 4)) (zC t23 .skip (.exit 0))) (zQ (zB 1 (zQ (.ops [O 26 (.fad 0 t1),oF 27 1 26,M 28 3,O 29 (.iad 3 t27 t28),oT 30 3 29,O 31 (.call (.f yg3) [t30]),O 32 (.bin .neq t31 (I 0))] [⟨1,zE,0⟩,⟨3,zK,0⟩,⟨4,zK,0⟩] [] [23,26,27,28,29,30,31]) (zC t32 (zQ (.ops [O 33 (.fad 0 t1),oF 34 1 33,M 35 3,O 36 (.iad 3 t34 t35),oT 37 3 36,O 38 (.call (.f yg3) [t37]),M 2 38] [⟨1,zE,0⟩,⟨3,zK,0⟩,⟨4,zK,0⟩] [] [1,3,32,33,34,35,36,37,38]) .ret) .skip))) (oQ [M 24 3,O 25 (.bin .add t24 (I 1)),M 3 25] [24,25,32])))
def t53:Opd:=.t 53
def t54:Opd:=.t 54
def yqB:TC:=(zQ (zQ (.ops [M 39 4,O 40 (.fad 0 t1),oF 41 1 40,O 42 (.len t41),oX 43 .lss 39 42] [⟨2,zE,0⟩] [] (zR 39 4)) (zC t43 .skip (.exit 2))) (zQ (zB 3 (zQ (.ops [O 46 (.fad 0 t1),oF 47 1 46,M 48 4,O 49 (.iad 3 t47 t48),O 50 (.fad 0 t49),oF 51 1 50,O 52 (.fad 0 t1),oF 53 1 52,O 54 (.iad 3 t53 (I 0)),O 55 (.fad 0 t54),oF 56 1 55,oX 57 .neq 51 56] [⟨1,zE,0⟩,⟨3,zK,0⟩,⟨5,zK,0⟩,⟨7,zE,0⟩,⟨8,zK,0⟩,⟨10,zK,0⟩] [(0,2),(1,2),(0,6),(1,6),(2,6),(3,6),(4,6),(5,6),(0,7),(1,7),(2,7),(3,7),(4,7),(5,7),(0,8),(1,8),(2,8),(3,8),(4,8),(5,8),(0,9),(1,9),(2,9),(3,9),(4,9),(5,9),(0,10),(1,10),(2,10),(3,10),(4,10),(5,10)] [43,46,47,48,49,50,51,52,53,54,55,56]) (zC t57 (zQ (oQ [O 2 (.mv (I 8))] [1,4,57]) .ret) .skip))) (oQ [M 44 4,O 45 (.bin .add t44 (I 1)),M 4 45] [44,45,57])))
def yFu:TFn:=⟨1,[.tmp 2],(zQ (oQ [O 1 (.boxL t0),O 2 (.mv (I 0))] [0,2]) (zQ (zQ (.ops [O 5 (.fad 0 t1),oF 6 1 5,O 7 (.len t6),O 8 (.bin .gtr t7 (I 6)),M 9 8,zF 10 9 (.fad 1 t1),zF 11 9 (.load false 1 t10),zF 12 9 (.len t11),zF 13 9 (.bin .gtr t12 (I 2000)),O 14 (.pick t9 (.c (.bool true)) t13)] [⟨1,zE,0⟩,⟨6,zE,0⟩] [] (zR 5 9)) (zC t14 (zQ (oQ [O 2 (.mv (I 4))] [1,14]) .ret) .skip)) (zQ (zQ (.ops [O 15 (.fad 0 t1),oF 16 1 15,O 17 (.len t16),O 18 (.bin .eql t17 (I 0))] [⟨1,zE,0⟩] [] (zR 14 4)) (zC t18 (zQ (oQ [O 2 (.mv (I 8))] [1,18]) .ret) .skip)) (zQ (zQ (oQ [O 3 (.mv (I 0))] [18]) (zB 0 (.loop 6981300 yqA))) (zQ (zQ (oQ [O 4 (.mv (I 0))] [3,23]) (zB 2 (.loop 6981301 yqB))) (zQ (oQ [O 2 (.mv (I 0))] [1,4,43]) .ret))))))⟩
def t3:Opd:=.t 3
def yJS:TFn:=⟨1,[.tmp 2],(zQ (oQ [O 2 (.mv (.c (.bool false)))] [2]) (zQ (oQ [M 3 0,O 4 (.call (.f ye1) [t3]),O 5 (.un .not t4),M 6 5,zT 7 6 (.mv t0),zT 8 6 (.build [.nils,.nils] [(0,1,t7)]),zT 9 6 (.call (.f yiG) [t8]),zT 10 6 (.bin .eql t9 (I 0)),O 11 (.pick t6 t10 (.c (.bool false))),M 2 11] [0,3,4,5,6,7,8,9,10,11]) .ret))⟩
def t2:Opd:=.t 2
def yFv:TFn:=⟨0,[.tmp 0],(zQ (oQ [O 0 (.mv (.c .nils))] [0]) (zQ (oQ [O 1 (.bD 1 (.int .i64 (0)) 2 [(0,(I 0)),(1,(I 6))]),O 2 (.bD 1 (.int .i64 (0)) 1 [(0,(I 1))]),O 3 (.build [(.int .i64 (0)),.nils,.nils] [(0,1,(I 6)),(1,1,t1),(2,1,t2)]),O 4 (.bD 1 (.int .i64 (0)) 3 [(0,(I 0)),(1,(I 4)),(2,(I 6))]),O 5 (.bD 1 (.int .i64 (0)) 2 [(0,(I 1)),(1,(I 4))]),O 6 (.build [(.int .i64 (0)),.nils,.nils] [(0,1,(I 6)),(1,1,t4),(2,1,t5)]),O 7 (.bD 1 (.int .i64 (0)) 3 [(0,(I 0)),(1,(I 2)),(2,(I 6))]),O 8 (.bD 1 (.int .i64 (0)) 2 [(0,(I 2)),(1,(I 0))]),O 9 (.build [(.int .i64 (0)),.nils,.nils] [(0,1,(I 6)),(1,1,t7),(2,1,t8)]),O 10 (.bSl true 3 (.agg [(.int .i64 (0)),(.data []),(.data [])]) 3 [(0,t3),(1,t6),(2,t9)]),M 0 10] (zR 1 10)) .ret))⟩
def t22:Opd:=.t 22
def ymV:TC:=(zQ (zQ (oQ [M 12 4,M 13 0,O 14 (.len t13),oX 15 .lss 12 14] [12,13,14]) (zC t15 .skip (.exit 0))) (zQ (zB 1 (.ops [M 18 3,M 19 0,M 20 4,O 21 (.iad 1 t19 t20),oF 22 1 21,O 23 (.minmax false [t18,t22]),M 3 23] [⟨3,zI,0⟩,⟨4,zI,0⟩] [] [15,18,19,20,21,22,23])) (oQ [M 16 4,O 17 (.bin .add t16 (I 1)),M 4 17] [16,17])))
def ywX:TFn:=⟨1,[.tmp 2],(zQ (oQ [O 2 (.mv (I 0))] [2]) (zQ (zQ (oQ [M 5 0,O 6 (.len t5),O 7 (.bin .lss t6 (I 1))] [5,6]) (zC t7 (oQ [⟨some 8,.bad,none⟩,⟨none,.bad,none⟩] [7,8]) .skip)) (zQ (.ops [M 9 0,O 10 (.iad 1 t9 (I 0)),oF 11 1 10,M 3 11] [⟨1,zI,0⟩,⟨2,zI,0⟩] [] [7,9,10,11]) (zQ (zQ (oQ [O 4 (.mv (I 1))] []) (zB 0 (.loop 10434000 ymV))) (zQ (oQ [M 24 3,M 2 24] [0,3,4,15,24]) .ret)))))⟩
def ymW:TC:=(zQ (zQ (oQ [M 12 4,M 13 0,O 14 (.len t13),oX 15 .lss 12 14] [12,13,14]) (zC t15 .skip (.exit 0))) (zQ (zB 1 (.ops [M 18 3,M 19 0,M 20 4,O 21 (.iad 1 t19 t20),oF 22 1 21,O 23 (.minmax true [t18,t22]),M 3 23] [⟨3,zI,0⟩,⟨4,zI,0⟩] [] [15,18,19,20,21,22,23])) (oQ [M 16 4,O 17 (.bin .add t16 (I 1)),M 4 17] [16,17])))
def ywY:TFn:=⟨1,[.tmp 2],(zQ (oQ [O 2 (.mv (I 0))] [2]) (zQ (zQ (oQ [M 5 0,O 6 (.len t5),O 7 (.bin .lss t6 (I 1))] [5,6]) (zC t7 (oQ [⟨some 8,.bad,none⟩,⟨none,.bad,none⟩] [7,8]) .skip)) (zQ (.ops [M 9 0,O 10 (.iad 1 t9 (I 0)),oF 11 1 10,M 3 11] [⟨1,zI,0⟩,⟨2,zI,0⟩] [] [7,9,10,11]) (zQ (zQ (oQ [O 4 (.mv (I 1))] []) (zB 0 (.loop 64079100 ymW))) (zQ (oQ [M 24 3,M 2 24] [0,3,4,15,24]) .ret)))))⟩
def t59:Opd:=.t 59
def t60:Opd:=.t 60
def t64:Opd:=.t 64
def ymX:TC:=(zQ (oQ [oX 51 .lss 50 49] []) (zQ (zC t51 .skip (.exit 0)) (zQ (zB 1 (zQ (oQ [M 52 50,M 4 52] [51,52]) (zQ (.ops [O 53 (.fad 1 t1),oF 54 1 53,M 55 4,O 56 (.iad 1 t54 t55),oF 57 1 56,O 58 (.fad 1 t1),oF 59 1 58,M 60 4,O 61 (.bin .add t60 (I 1)),O 62 (.iad 1 t59 t61),oF 63 1 62,oX 64 .geq 57 63] [⟨1,zK,0⟩,⟨3,zI,0⟩,⟨4,zI,0⟩,⟨6,zK,0⟩,⟨9,zI,0⟩,⟨10,zI,0⟩] [(0,2),(1,2),(0,5),(1,5),(2,5),(3,5),(4,5),(0,6),(1,6),(2,6),(3,6),(4,6),(0,7),(1,7),(2,7),(3,7),(4,7),(5,7),(6,7),(0,8),(1,8),(2,8),(3,8),(4,8),(5,8),(6,8),(0,9),(1,9),(2,9),(3,9),(4,9),(0,10),(1,10),(2,10),(3,10),(4,10)] [4,53,54,55,56,57,58,59,60,61,62,63]) (zC t64 (zQ (oQ [O 2 (.mv (I 8))] [1,49,50,64]) .ret) .skip)))) (oQ [O 65 (.bin .add t50 (I 1)),M 50 65] [64,65]))))
def t39:Opd:=.t 39
def t70:Opd:=.t 70
def t71:Opd:=.t 71
def t79:Opd:=.t 79
def yDe:TFn:=⟨1,[.tmp 2],(zQ (oQ [O 1 (.boxL t0),O 2 (.mv (I 0))] [0,2]) (zQ (.ops [O 5 (.fad 1 t1),oF 6 1 5,O 7 (.len t6),M 3 7] [⟨1,zK,0⟩] [] [5,6,7]) (zQ (zQ (.ops [O 8 (.fad 0 t1),oF 9 1 8,O 10 (.bin .gtr t9 (I 1000)),M 11 10,zF 12 11 (.mv t3),zF 13 11 (.bin .gtr t12 (I 40)),O 14 (.pick t11 (.c (.bool true)) t13)] [⟨1,zK,0⟩] [] (zR 8 6)) (zC t14 (zQ (oQ [O 2 (.mv (I 4))] [1,3,14]) .ret) .skip)) (zQ (zQ (.ops [O 15 (.fad 0 t1),oF 16 1 15,O 17 (.bin .lss t16 (I 1)),M 18 17,zF 19 18 (.mv t3),zF 20 18 (.bin .lss t19 (I 2)),O 21 (.pick t18 (.c (.bool true)) t20),M 22 21,zF 23 22 (.fad 2 t1),zF 24 22 (.load false 1 t23),zF 25 22 (.len t24),zF 26 22 (.mv t3),zF 27 22 (.bin .sub t26 (I 1)),zF 28 22 (.bin .neq t25 t27),O 29 (.pick t22 (.c (.bool true)) t28),M 30 29,zF 31 30 (.fad 1 t1),zF 32 30 (.load false 1 t31),zF 33 30 (.iad 1 t32 (I 0)),zF 34 30 (.load false 1 t33),zF 35 30 (.bin .neq t34 (I 0)),O 36 (.pick t30 (.c (.bool true)) t35),M 37 36,zF 38 37 (.fad 1 t1),zF 39 37 (.load false 1 t38),zF 40 37 (.mv t3),zF 41 37 (.bin .sub t40 (I 1)),zF 42 37 (.iad 1 t39 t41),zF 43 37 (.load false 1 t42),zF 44 37 (.fad 0 t1),zF 45 37 (.load false 1 t44),zF 46 37 (.bin .neq t43 t45),O 47 (.pick t37 (.c (.bool true)) t46)] [⟨1,zK,0⟩,⟨9,zK,0⟩,⟨17,zK,0⟩,⟨18,zI,0⟩,⟨19,zI,0⟩,⟨24,zK,0⟩,⟨27,zI,0⟩,⟨28,zI,0⟩,⟨30,zK,0⟩] [(8,11),(9,11),(10,11),(8,12),(9,12),(10,12),(23,25),(24,25),(23,26),(24,26),(23,29),(24,29),(25,29),(26,29),(27,29),(28,29),(23,30),(24,30),(25,30),(26,30),(27,30),(28,30)] (zR 14 33)) (zC t47 (zQ (oQ [O 2 (.mv (I 8))] [1,3,47]) .ret) .skip)) (zQ (zQ (oQ [M 48 3,O 49 (.bin .sub t48 (I 1)),O 50 (.mv (I 0))] [3,47,48]) (zB 0 (.loop 87419700 ymX))) (zQ (zQ (.ops [O 66 (.fad 2 t1),oF 67 1 66,O 68 (.call (.f yfA) [t67]),O 69 (.bin .lss t68 (I 0)),M 70 69,zF 71 70 (.fad 2 t1),zF 72 70 (.load false 1 t71),zF 73 70 (.call (.f yeo) [t72]),zF 74 70 (.bin .gtr t73 (I 12)),O 75 (.pick t70 (.c (.bool true)) t74),M 76 75,zF 77 76 (.fad 2 t1),zF 78 76 (.load false 1 t77),zF 79 76 (.call (.f yeo) [t78]),zF 80 76 (.bin .eql t79 (I 0)),O 81 (.pick t76 (.c (.bool true)) t80)] [⟨1,zK,0⟩,⟨6,zK,0⟩,⟨12,zK,0⟩] [] [1,49,50,51,66,67,68,69,70,71,72,73,74,75,76,77,78,79,80]) (zC t81 (zQ (oQ [O 2 (.mv (I 8))] [81]) .ret) .skip)) (zQ (oQ [O 2 (.mv (I 0))] [81]) .ret)))))))⟩
def ymY:TC:=(zQ (oQ [oX 26 .lss 25 24] []) (zQ (zC t26 .skip (.exit 0)) (zQ (zB 1 (zQ (.ops [O 27 (.iad 3 t23 t25),oT 28 3 27,O 4 (.aL (.agg [(.int .i64 (0)),.nils,.nils])),zS 3 t4 t28] [⟨0,zK,0⟩,⟨1,zK,0⟩] [] [26,27,28]) (zQ (oQ [oT 29 3 4,O 30 (.call (.f yby) [t29]),M 5 30] [4,29,30]) (zQ (oQ [M 31 5,O 32 (.bin .neq t31 (I 0))] [31]) (zC t32 (zQ (oQ [M 33 5,M 2 33] [1,5,23,24,25,32,33]) .ret) .skip))))) (oQ [O 34 (.bin .add t25 (I 1)),M 25 34] [5,32,34]))))
def ymZ:TC:=(zQ (oQ [oX 39 .lss 38 37] []) (zQ (zC t39 .skip (.exit 2)) (zQ (zB 3 (zQ (.ops [O 40 (.iad 3 t36 t38),oT 41 3 40,O 7 (.aL (.agg [(.int .i64 (0)),.nils,.nils])),zS 3 t7 t41] [⟨0,zK,0⟩,⟨1,zK,0⟩] [] [39,40,41]) (zQ (.ops [O 42 (.fad 0 t7),oF 43 1 42,O 44 (.fad 0 t1),oF 45 1 44,O 46 (.iad 3 t45 (I 0)),O 47 (.fad 0 t46),oF 48 1 47,oX 49 .neq 43 48] [⟨1,zK,0⟩,⟨3,zE,0⟩,⟨4,zK,0⟩,⟨6,zK,0⟩] [(0,2),(1,2),(0,3),(1,3),(0,4),(1,4),(0,5),(1,5),(0,6),(1,6)] [7,42,43,44,45,46,47,48]) (zC t49 (zQ (oQ [O 2 (.mv (I 8))] [1,36,37,38,49]) .ret) .skip)))) (oQ [O 50 (.bin .add t38 (I 1)),M 38 50] [49,50]))))
def yFw:TFn:=⟨1,[.tmp 2],(zQ (oQ [O 1 (.boxL t0),O 2 (.mv (I 0))] [0,2]) (zQ (zQ (.ops [O 8 (.fad 0 t1),oF 9 1 8,O 10 (.len t9),O 11 (.bin .gtr t10 (I 6)),M 12 11,zF 13 12 (.fad 1 t1),zF 14 12 (.load false 1 t13),zF 15 12 (.len t14),zF 16 12 (.bin .gtr t15 (I 2000)),O 17 (.pick t12 (.c (.bool true)) t16)] [⟨1,zE,0⟩,⟨6,zE,0⟩] [] (zR 8 9)) (zC t17 (zQ (oQ [O 2 (.mv (I 4))] [1,17]) .ret) .skip)) (zQ (zQ (.ops [O 18 (.fad 0 t1),oF 19 1 18,O 20 (.len t19),O 21 (.bin .eql t20 (I 0))] [⟨1,zE,0⟩] [] (zR 17 4)) (zC t21 (zQ (oQ [O 2 (.mv (I 8))] [1,21]) .ret) .skip)) (zQ (zQ (.ops [O 22 (.fad 0 t1),oF 23 1 22,O 24 (.len t23),O 25 (.mv (I 0))] [⟨1,zE,0⟩] [] [21,22]) (zB 0 (.loop 12157600 ymY))) (zQ (zQ (.ops [O 35 (.fad 0 t1),oF 36 1 35,O 37 (.len t36),O 38 (.mv (I 0))] [⟨1,zE,0⟩] [] [23,24,25,26,35]) (zB 2 (.loop 12157601 ymZ))) (zQ (oQ [O 2 (.mv (I 0))] [1,36,37,38,39]) .ret))))))⟩
def yIH:TFn:=⟨1,[.tmp 2],(zQ (oQ [O 2 (.mv (.c .nils))] [2]) (zQ (zQ (oQ [M 3 0,O 4 (.eqN false t3)] [3]) (zC t4 (zQ (oQ [O 2 (.mv (.c .nils))] [0,4]) .ret) .skip)) (zQ (oQ [O 5 (.bSl true 1 (.int .i64 (0)) 0 []),M 6 0,O 7 (.app true 1 8 t5 t6),M 2 7] [0,4,5,6,7]) .ret)))⟩
def ym0:TC:=(zQ (oQ [oX 9 .lss 8 7] []) (zQ (zC t9 .skip (.exit 0)) (zQ (zB 1 (zQ (.ops [O 10 (.iad 3 t6 t8),oT 11 3 10,O 5 (.aL (.agg [(.int .i64 (0)),.nils,.nils])),zS 3 t5 t11] [⟨0,zK,0⟩,⟨1,zK,0⟩] [] [9,10,11]) (.ops [M 12 3,O 13 (.fad 0 t5),oF 14 1 13,O 15 (.fad 1 t5),oF 16 1 15,O 17 (.call (.f ycL) [t16]),O 18 (.fad 2 t5),oF 19 1 18,O 20 (.call (.f ycL) [t19]),O 21 (.build [(.int .i64 (0)),.nils,.nils] [(0,1,t14),(1,1,t17),(2,1,t20)]),O 22 (.bD 3 (.agg [(.int .i64 (0)),(.data []),(.data [])]) 1 [(0,t21)]),O 23 (.app true 3 56 t12 t22),M 3 23] [⟨2,zK,0⟩,⟨4,zK,0⟩,⟨7,zK,0⟩] [(0,1),(0,2),(0,3),(1,3),(2,3),(0,4),(1,4),(2,4),(0,5),(1,5),(2,5),(0,6),(1,6),(2,6),(3,6),(4,6),(5,6),(0,7),(1,7),(2,7),(3,7),(4,7),(5,7),(0,8),(1,8),(2,8),(0,9),(0,10)] [5,12,13,14,15,16,17,18,19,20,21,22,23]))) (oQ [O 24 (.bin .add t8 (I 1)),M 8 24] [24]))))
def yDf:TFn:=⟨1,[.tmp 2],(zQ (oQ [O 2 (.mv (.c .nils))] [2]) (zQ (oQ [O 3 (.mv (.c .nils))] []) (zQ (zQ (oQ [M 6 0,O 7 (.len t6),O 8 (.mv (I 0))] [0]) (zB 0 (.loop 94933800 ym0))) (zQ (oQ [M 25 3,M 2 25] [3,6,7,8,9,25]) .ret))))⟩
def yHr:TFn:=⟨1,[.cell 2 true 2,.tmp 3],(zQ (oQ [O 2 (.aL (.agg [.nils,.nils])),O 3 (.mv (I 0))] [3]) (zQ (zQ (oQ [M 5 0,O 6 (.build [.nils,.nils] [(0,1,t5)]),O 7 (.call (.f ycj) [t6]),M 4 7] [5,6,7]) (zQ (oQ [M 8 4,O 9 (.bin .neq t8 (I 0))] [8]) (zC t9 (zQ (oQ [O 10 (.build [.nils,.nils] []),M 11 4,zS 2 t2 t10,M 3 11] [0,4,9,10,11]) .ret) .skip))) (zQ (oQ [M 12 0,O 13 (.call (.f yeD) [t12]),O 14 (.build [.nils,.nils] [(0,1,t13)]),zS 2 t2 t14,O 3 (.mv (I 0))] [0,4,9,12,13,14]) .ret)))⟩
def ytN:TFn:=⟨2,[],(oQ [M 3 0,zS 1 t1 t3] [0,1,3])⟩
def yDg:TFn:=⟨1,[.cell 2 true 2],(zQ (oQ [O 2 (.aL (.agg [(.int .i64 (0)),(.int .i64 (0))]))] []) (zQ (oQ [M 3 0,O 4 (.build [(.int .i64 (0)),(.int .i64 (0))] [(0,1,t3),(1,1,(I 1))]),zS 2 t2 t4] [0,3,4]) .ret))⟩
def yvt:TFn:=⟨2,[.tmp 4],(zQ (oQ [O 2 (.boxL t0),O 4 (.mv (.c (.bool false)))] [0,4]) (zQ (.ops [M 5 1,O 6 (.bin .geq t5 (I 0)),M 7 6,zT 8 7 (.mv t1),zT 9 7 (.fad 0 t2),zT 10 7 (.fad 0 t9),zT 11 7 (.load false 1 t10),zT 12 7 (.len t11),zT 13 7 (.bin .lss t8 t12),O 14 (.pick t7 t13 (.c (.bool false))),M 4 14] [⟨6,zE,0⟩] [] [1,2,5,6,7,8,9,10,11,12,13,14]) .ret))⟩
def ym1:TC:=(zQ (oQ [oX 17 .lss 16 15] []) (zQ (zC t17 .skip (.exit 0)) (zQ (zB 1 (zQ (.ops [M 18 16,O 19 (.iad 1 t14 t16),oF 20 1 19,M 6 18,M 7 20] [⟨1,zI,0⟩,⟨2,zI,0⟩] [] (zR 17 4)) (.ops [M 21 5,M 22 7,O 23 (.fad 1 t1),oF 24 1 23,M 25 6,O 26 (.bin .add t25 (I 1)),O 27 (.iad 1 t24 t26),oF 28 1 27,O 29 (.fad 1 t1),oF 30 1 29,M 31 6,O 32 (.iad 1 t30 t31),oF 33 1 32,oX 34 .sub 28 33,oX 35 .mul 22 34,oX 36 .add 21 35,M 5 36] [⟨3,zK,0⟩,⟨6,zI,0⟩,⟨7,zI,0⟩,⟨9,zK,0⟩,⟨11,zI,0⟩,⟨12,zI,0⟩] [(0,1),(0,2),(1,2),(0,3),(1,3),(0,4),(1,4),(2,4),(3,4),(0,5),(1,5),(2,5),(3,5),(0,6),(1,6),(0,7),(1,7),(0,8),(1,8),(2,8),(3,8),(4,8),(5,8),(6,8),(7,8),(0,9),(1,9),(2,9),(3,9),(4,9),(5,9),(6,9),(7,9),(0,10),(1,10),(2,10),(3,10),(4,10),(5,10),(6,10),(7,10),(8,10),(9,10),(0,11),(1,11),(2,11),(3,11),(4,11),(5,11),(6,11),(7,11),(0,12),(1,12),(2,12),(3,12),(4,12),(5,12),(6,12),(7,12),(0,13),(1,13),(0,14)] [6,7,21,22,23,24,25,26,27,28,29,30,31,32,33,34,35,36]))) (oQ [O 37 (.bin .add t16 (I 1)),M 16 37] [37]))))
def yDh:TFn:=⟨1,[.tmp 2,.tmp 3],(zQ (oQ [O 1 (.boxL t0),O 2 (.mv (I 0)),O 3 (.mv (I 0))] [0,2,3]) (zQ (zQ (oQ [oT 8 3 1,O 9 (.call (.f yby) [t8]),M 4 9] [8,9]) (zQ (oQ [M 10 4,O 11 (.bin .neq t10 (I 0))] [10]) (zC t11 (zQ (oQ [M 12 4,O 2 (.mv (I 0)),M 3 12] [1,4,11,12]) .ret) .skip))) (zQ (oQ [O 5 (.mv (I 0))] [4,11]) (zQ (zQ (.ops [O 13 (.fad 2 t1),oF 14 1 13,O 15 (.len t14),O 16 (.mv (I 0))] [⟨1,zK,0⟩] [] [13]) (zB 0 (.loop 45203600 ym1))) (zQ (oQ [M 38 5,M 2 38,O 3 (.mv (I 0))] [1,5,14,15,16,17,38]) .ret)))))⟩
def yFx:TFn:=⟨2,[.tmp 4,.tmp 5],(zQ (oQ [O 2 (.boxL t0),O 4 (.mv (I 0)),O 5 (.mv (I 0))] [0,4,5]) (zQ (zQ (oQ [oT 7 2 2,O 8 (.call (.f ycj) [t7]),M 6 8] [7,8]) (zQ (oQ [M 9 6,O 10 (.bin .neq t9 (I 0))] [9]) (zC t10 (zQ (oQ [M 11 6,O 4 (.mv (I 0)),M 5 11] [1,2,6,10,11]) .ret) .skip))) (zQ (zQ (oQ [oT 12 2 2,O 13 (.build [.nils,.nils] [(0,2,t12)]),M 14 1,O 15 (.call (.f ybK) [t13,t14]),O 16 (.un .not t15)] [6,10,12,13,14,15]) (zC t16 (zQ (oQ [O 4 (.mv (I 0)),O 5 (.mv (I 2))] [1,2,16]) .ret) .skip)) (zQ (.ops [O 17 (.fad 0 t2),oF 18 1 17,M 19 1,O 20 (.iad 3 t18 t19),oT 21 3 20,O 22 (.call (.f ycb) [t21]),O 23 (.ext t22 0),O 24 (.ext t22 1),M 4 23,M 5 24] [⟨1,zE,0⟩,⟨3,zK,0⟩,⟨4,zK,0⟩] [] [1,2,16,17,18,19,20,21,22,23,24]) .ret))))⟩
def yDi:TFn:=⟨1,[.tmp 2],(zQ (oQ [O 2 (.mv (.c (.int .u64 (0))))] [2]) (zQ (zQ (oQ [M 3 0,O 4 (.bin .lss t3 (I 0))] [3]) (zC t4 (zQ (oQ [M 5 0,O 6 (.conv .u64 t5),O 7 (.un .neg t6),M 2 7] [0,4,5,6,7]) .ret) .skip)) (zQ (oQ [M 8 0,O 9 (.conv .u64 t8),M 2 9] [0,4,8,9]) .ret)))⟩
def ym2:TC:=(zQ (zQ (oQ [M 5 1,O 6 (.bin .gtr t5 (.c (.int .u64 (0))))] [5]) (zC t6 .skip (.exit 0))) (zB 1 (.ops [M 7 1,M 8 0,M 9 1,oX 10 .rem 8 9,M 0 7,M 1 10] [] [(0,1),(0,2),(1,2),(0,3),(2,4),(3,4)] (zR 6 5))))
def yFy:TFn:=⟨2,[.tmp 4],(zQ (oQ [O 4 (.mv (.c (.int .u64 (0))))] [4]) (zQ (zB 0 (.loop 32725300 ym2)) (zQ (oQ [M 11 0,M 4 11] [0,1,6,11]) .ret)))⟩
def yy3:TFn:=⟨3,[.cell 6 true 2,.tmp 7],(zQ (oQ [O 6 (.aL (.agg [(.int .i64 (0)),(.int .i64 (0))])),O 7 (.mv (I 0))] [7]) (zQ (zQ (oQ [M 8 1,M 9 2,O 10 (.minmax true [t8,t9]),O 11 (.bin .gtr t10 (.c (.int .u64 (1000000000000000000))))] [8,9,10]) (zC t11 (zQ (oQ [O 12 (.build [(.int .i64 (0)),(.int .i64 (0))] []),zS 2 t6 t12,O 7 (.mv (I 16))] [0,1,2,11,12]) .ret) .skip)) (zQ (zQ (oQ [M 13 0] [0,11]) (zC t13 (zQ (oQ [M 14 1,O 15 (.conv .i64 t14),O 16 (.un .neg t15),M 17 2,O 18 (.conv .i64 t17),O 19 (.build [(.int .i64 (0)),(.int .i64 (0))] [(0,1,t16),(1,1,t18)]),zS 2 t6 t19,O 7 (.mv (I 0))] [1,2,13,14,15,16,17,18,19]) .ret) .skip)) (zQ (oQ [M 20 1,O 21 (.conv .i64 t20),M 22 2,O 23 (.conv .i64 t22),O 24 (.build [(.int .i64 (0)),(.int .i64 (0))] [(0,1,t21),(1,1,t23)]),zS 2 t6 t24,O 7 (.mv (I 0))] [1,2,13,20,21,22,23,24]) .ret))))⟩
def yDj:TFn:=⟨2,[.cell 4 true 2,.tmp 5],(zQ (oQ [O 4 (.aL (.agg [(.int .i64 (0)),(.int .i64 (0))])),O 5 (.mv (I 0))] [5]) (zQ (zQ (oQ [M 9 1,O 10 (.bin .eql t9 (I 0))] [9]) (zC t10 (zQ (oQ [O 11 (.build [(.int .i64 (0)),(.int .i64 (0))] []),zS 2 t4 t11,O 5 (.mv (I 18))] [0,1,10,11]) .ret) .skip)) (zQ (oQ [M 12 0,O 13 (.call (.f ybn) [t12]),M 14 1,O 15 (.call (.f ybn) [t14]),M 6 13,M 7 15] [10,12,13,14,15]) (zQ (oQ [M 16 6,M 17 7,O 18 (.call (.f ycB) [t16,t17]),M 8 18] [16,17,18]) (zQ (.ops [M 19 0,O 20 (.bin .lss t19 (I 0)),M 21 1,O 22 (.bin .lss t21 (I 0)),O 23 (.eqB true t20 t22),M 24 6,M 25 8,oX 26 .quo 24 25,M 27 7,M 28 8,oX 29 .quo 27 28,O 30 (.call (.f ycM) [t23,t26,t29]),O 31 (.ext t30 0),O 32 (.ext t30 1),zS 2 t4 t31,M 5 32] [] [(0,2),(1,2),(0,3),(1,3),(0,5),(1,5),(2,5),(3,5),(4,5),(0,6),(1,6),(2,6),(3,6),(4,6),(5,6),(0,7),(1,7),(2,7),(3,7),(4,7),(0,8),(1,8),(2,8),(3,8),(4,8),(5,8),(6,8),(7,8),(0,9),(1,9),(2,9),(3,9),(4,9),(5,9),(6,9),(7,9),(8,9),(0,10),(1,10),(2,10),(3,10),(4,10),(5,10),(6,10),(7,10),(12,13)] [0,1,6,7,8,19,20,21,22,23,24,25,26,27,28,29,30,31,32]) .ret)))))⟩
def yDk:TFn:=⟨2,[.cell 4 true 2],(zQ (oQ [O 2 (.boxL t0),O 4 (.aL (.agg [(.int .i64 (0)),(.int .i64 (0))]))] [0]) (zQ (oQ [oT 10 2 2,M 11 1,O 12 (.call (.f yiI) [t10,t11]),M 9 12,O 13 (.ext t9 0),O 14 (.ext t9 1),M 5 13,M 6 14] [1,6,9,10,11,12,13,14]) (zQ (.ops [M 16 5,O 17 (.fad 0 t2),oF 18 1 17,O 19 (.len t18),O 20 (.call (.f yeE) [t16,t19]),M 15 20,O 21 (.ext t15 0),O 22 (.ext t15 1),O 7 (.aL (.agg [(.int .i64 (0)),(.int .i64 (0))])),zS 2 t7 t21,M 8 22] [⟨2,zE,0⟩] [] [2,5,8,15,16,17,18,19,20,21,22]) (zQ (oQ [oT 23 2 7,zS 2 t4 t23] [7,23]) .ret))))⟩
def yAr:TFn:=⟨1,[.tmp 2],(zQ (oQ [O 1 (.boxL t0),O 2 (.mv (I 0))] [0,2]) (zQ (zQ (.ops [O 3 (.fad 1 t1),oF 4 1 3,O 5 (.bin .lss t4 (I 1)),M 6 5,zF 7 6 (.fad 0 t1),zF 8 6 (.load false 1 t7),zF 9 6 (.call (.f ybn) [t8]),zF 10 6 (.fad 1 t1),zF 11 6 (.load false 1 t10),zF 12 6 (.conv .u64 t11),zF 13 6 (.minmax true [t9,t12]),zF 14 6 (.bin .gtr t13 (.c (.int .u64 (1000000000000000000)))),O 15 (.pick t6 (.c (.bool true)) t14),M 16 15,zF 17 16 (.fad 0 t1),zF 18 16 (.load false 1 t17),zF 19 16 (.call (.f ybn) [t18]),zF 20 16 (.fad 1 t1),zF 21 16 (.load false 1 t20),zF 22 16 (.conv .u64 t21),zF 23 16 (.call (.f ycB) [t19,t22]),zF 24 16 (.bin .gtr t23 (.c (.int .u64 (1)))),O 25 (.pick t16 (.c (.bool true)) t24)] [⟨1,z2,0⟩,⟨5,z2,0⟩,⟨8,z2,0⟩,⟨15,z2,0⟩,⟨18,z2,0⟩] [(4,7),(5,7),(6,7),(4,8),(5,8),(6,8),(4,9),(5,9),(6,9),(14,17),(15,17),(16,17),(14,18),(15,18),(16,18),(14,19),(15,19),(16,19)] [1,3,4,5,6,7,8,9,10,11,12,13,14,15,16,17,18,19,20,21,22,23,24]) (zC t25 (zQ (oQ [O 2 (.mv (I 8))] [25]) .ret) .skip)) (zQ (oQ [O 2 (.mv (I 0))] [25]) .ret)))⟩
def yDl:TFn:=⟨1,[.cell 2 true 2],(zQ (oQ [O 2 (.aL (.agg [(.int .i64 (0)),(.int .i64 (0))]))] []) (zQ (oQ [M 3 0,O 4 (.build [(.int .i64 (0)),(.int .i64 (0))] [(0,1,t3),(1,1,(I 1))]),zS 2 t2 t4] [0,3,4]) .ret))⟩
def ym3:TC:=(zQ (oQ [oX 9 .lss 8 7] []) (zQ (zC t9 .skip (.exit 0)) (zQ (zB 1 (zQ (.ops [O 10 (.iad 1 t6 t8),oF 11 1 10,M 5 11] [⟨0,zI,0⟩,⟨1,zI,0⟩] [] [9,10,11]) (zQ (oQ [M 12 5,M 13 3,oX 14 .neq 12 13] [12,13]) (zC t14 (zQ (oQ [M 15 5,M 2 15] [3,5,6,7,8,14,15]) .ret) .skip)))) (oQ [O 16 (.bin .add t8 (I 1)),M 8 16] [5,14,16]))))
def ysv:TFn:=⟨1,[.tmp 2],(zQ (oQ [O 2 (.mv (I 0))] [2]) (zQ (oQ [O 3 (.mv (I 0))] []) (zQ (zQ (oQ [M 6 0,O 7 (.len t6),O 8 (.mv (I 0))] [0]) (zB 0 (.loop 38508400 ym3))) (zQ (oQ [M 17 3,M 2 17] [3,6,7,8,9,17]) .ret))))⟩
def yAs:TFn:=⟨2,[.tmp 4],(zQ (oQ [O 2 (.boxL t0),O 3 (.boxL t1),O 4 (.mv (I 0))] [0,1,4]) (zQ (.ops [oT 5 2 2,O 6 (.call (.f ycq) [t5]),oT 7 2 3,O 8 (.call (.f ycq) [t7]),O 9 (.bD 1 (.int .i64 (0)) 2 [(0,t6),(1,t8)]),O 10 (.call (.f yd9) [t9]),M 4 10] [] [(0,2),(1,2)] [2,3,5,6,7,8,9,10]) .ret))⟩
def ytO:TFn:=⟨1,[.tmp 2],(zQ (oQ [O 2 (.mv (.c (.bool false)))] [2]) (zQ (oQ [M 3 0,M 4 0,oX 5 .neq 3 4,M 2 5] [0,3,4,5]) .ret))⟩
def yqP:TFn:=⟨2,[.tmp 4],(zQ (oQ [O 4 (.mv (I 0))] [4]) (zQ (oQ [M 7 0,O 8 (.call (.f ydq) [t7]),M 5 8] [7,8]) (zQ (oQ [M 9 1,O 10 (.call (.f ydq) [t9]),M 6 10] [9,10]) (zQ (zQ (oQ [M 11 5] [5]) (zC t11 (zQ (zQ (oQ [M 12 6] [0,1,6,11]) (zC t12 (zQ (oQ [O 4 (.mv (I 0))] [12]) .ret) .skip)) (zQ (oQ [O 4 (.mv (I (-1)))] [12]) .ret)) .skip)) (zQ (zQ (oQ [M 13 6] [6,11]) (zC t13 (zQ (oQ [O 4 (.mv (I 1))] [0,1,13]) .ret) .skip)) (zQ (zQ (oQ [M 14 0,M 15 1,oX 16 .lss 14 15] [13,14,15]) (zC t16 (zQ (oQ [O 4 (.mv (I (-1)))] [0,1,16]) .ret) .skip)) (zQ (zQ (oQ [M 17 0,M 18 1,oX 19 .gtr 17 18] [0,1,16,17,18]) (zC t19 (zQ (oQ [O 4 (.mv (I 1))] [19]) .ret) .skip)) (zQ (oQ [O 4 (.mv (I 0))] [19]) .ret))))))))⟩
def yJT:TFn:=⟨2,[.tmp 4,.tmp 5],(zQ (oQ [O 4 (.mv (.c (.int .u64 (0)))),O 5 (.mv (.c (.int .u64 (0))))] [4,5]) (zQ (oQ [M 14 0,O 15 (.bin .and t14 (.c (.int .u64 (4294967295)))),M 6 15] [14,15]) (zQ (oQ [M 16 0,O 17 (.bin .shr t16 (.c (.int .u64 (32)))),M 7 17] [16,17]) (zQ (oQ [M 18 1,O 19 (.bin .and t18 (.c (.int .u64 (4294967295)))),M 8 19] [18,19]) (zQ (oQ [M 20 1,O 21 (.bin .shr t20 (.c (.int .u64 (32)))),M 9 21] [20,21]) (zQ (oQ [M 22 6,M 23 8,oX 24 .mul 22 23,M 10 24] [22,23,24]) (zQ (oQ [M 25 7,M 26 8,oX 27 .mul 25 26,M 28 10,O 29 (.bin .shr t28 (.c (.int .u64 (32)))),oX 30 .add 27 29,M 11 30] [8,10,25,26,27,28,29,30]) (zQ (oQ [M 31 11,O 32 (.bin .and t31 (.c (.int .u64 (4294967295)))),M 12 32] [31,32]) (zQ (oQ [M 33 11,O 34 (.bin .shr t33 (.c (.int .u64 (32)))),M 13 34] [11,33,34]) (zQ (oQ [M 35 12,M 36 6,M 37 9,oX 38 .mul 36 37,oX 39 .add 35 38,M 12 39] [6,35,36,37,38,39]) (zQ (oQ [M 40 7,M 41 9,oX 42 .mul 40 41,M 43 13,oX 44 .add 42 43,M 45 12,O 46 (.bin .shr t45 (.c (.int .u64 (32)))),oX 47 .add 44 46,M 4 47] [7,9,12,13,40,41,42,43,44,45,46,47]) (zQ (oQ [M 48 0,M 49 1,oX 50 .mul 48 49,M 5 50] [0,1,48,49,50]) .ret))))))))))))⟩
def ysw:TFn:=⟨1,[.tmp 2],(zQ (oQ [O 2 (.mv (.c (.bool false)))] [2]) (zQ (oQ [M 3 0,M 4 0,oX 5 .neq 3 4,M 2 5] [0,3,4,5]) .ret))⟩
def ypc:TFn:=⟨2,[.tmp 4],(zQ (oQ [O 4 (.mv (I 0))] [4]) (zQ (oQ [M 7 0,O 8 (.call (.f yc8) [t7]),M 5 8] [7,8]) (zQ (oQ [M 9 1,O 10 (.call (.f yc8) [t9]),M 6 10] [9,10]) (zQ (zQ (oQ [M 11 5] [5]) (zC t11 (zQ (zQ (oQ [M 12 6] [0,1,6,11]) (zC t12 (zQ (oQ [O 4 (.mv (I 0))] [12]) .ret) .skip)) (zQ (oQ [O 4 (.mv (I (-1)))] [12]) .ret)) .skip)) (zQ (zQ (oQ [M 13 6] [6,11]) (zC t13 (zQ (oQ [O 4 (.mv (I 1))] [0,1,13]) .ret) .skip)) (zQ (zQ (oQ [M 14 0,M 15 1,oX 16 .lss 14 15] [13,14,15]) (zC t16 (zQ (oQ [O 4 (.mv (I (-1)))] [0,1,16]) .ret) .skip)) (zQ (zQ (oQ [M 17 0,M 18 1,oX 19 .gtr 17 18] [0,1,16,17,18]) (zC t19 (zQ (oQ [O 4 (.mv (I 1))] [19]) .ret) .skip)) (zQ (oQ [O 4 (.mv (I 0))] [19]) .ret))))))))⟩
def ym4:TC:=(zQ (oQ [oX 9 .lss 8 7] []) (zQ (zC t9 .skip (.exit 0)) (zQ (zB 1 (zQ (.ops [O 10 (.iad 1 t6 t8),oF 11 1 10,M 5 11] [⟨0,zI,0⟩,⟨1,zI,0⟩] [] [9,10,11]) (zQ (oQ [M 12 5,M 13 3,oX 14 .neq 12 13] [12,13]) (zC t14 (zQ (oQ [M 15 5,M 2 15] [3,5,6,7,8,14,15]) .ret) .skip)))) (oQ [O 16 (.bin .add t8 (I 1)),M 8 16] [5,14,16]))))
def yDm:TFn:=⟨1,[.tmp 2],(zQ (oQ [O 2 (.mv (I 0))] [2]) (zQ (oQ [O 3 (.mv (I 0))] []) (zQ (zQ (oQ [M 6 0,O 7 (.len t6),O 8 (.mv (I 0))] [0]) (zB 0 (.loop 53260600 ym4))) (zQ (oQ [M 17 3,M 2 17] [3,6,7,8,9,17]) .ret))))⟩
def t56:Opd:=.t 56
def yFz:TFn:=⟨2,[.tmp 4,.tmp 5],(zQ (oQ [O 2 (.boxL t0),O 3 (.boxL t1),O 4 (.mv (I 0)),O 5 (.mv (I 0))] [0,1,4,5]) (zQ (zQ (oQ [oT 12 2 2,oT 13 2 3,O 14 (.call (.f ybL) [t12,t13]),M 6 14] [12,13,14]) (zQ (oQ [M 15 6,O 16 (.bin .neq t15 (I 0))] [15]) (zC t16 (zQ (oQ [M 17 6,O 4 (.mv (I 0)),M 5 17] [2,3,6,16,17]) .ret) .skip))) (zQ (zQ (.ops [O 18 (.fad 0 t2),oF 19 1 18,O 20 (.bin .lss t19 (I 0)),O 21 (.fad 0 t3),oF 22 1 21,O 23 (.bin .lss t22 (I 0)),O 24 (.eqB true t20 t23)] [⟨1,z2,0⟩,⟨4,z2,0⟩] [] [6,16,18,19,20,21,22,23]) (zC t24 (zQ (.ops [O 25 (.fad 0 t2),oF 26 1 25,O 27 (.fad 0 t3),oF 28 1 27,O 29 (.call (.f ydH) [t26,t28]),M 4 29,O 5 (.mv (I 0))] [⟨1,z2,0⟩,⟨3,z2,0⟩] [] [2,3,24,25,26,27,28,29]) .ret) .skip)) (zQ (.ops [O 31 (.fad 0 t2),oF 32 1 31,O 33 (.call (.f ybn) [t32]),O 34 (.fad 1 t3),oF 35 1 34,O 36 (.conv .u64 t35),O 37 (.call (.f ydZ) [t33,t36]),M 30 37,O 38 (.ext t30 0),O 39 (.ext t30 1),M 7 38,M 8 39] [⟨1,z2,0⟩,⟨4,z2,0⟩] [(0,3),(1,3),(2,3),(0,4),(1,4),(2,4),(0,5),(1,5),(2,5),(8,9),(9,10)] [24,30,31,32,33,34,35,36,37,38,39]) (zQ (.ops [O 41 (.fad 0 t3),oF 42 1 41,O 43 (.call (.f ybn) [t42]),O 44 (.fad 1 t2),oF 45 1 44,O 46 (.conv .u64 t45),O 47 (.call (.f ydZ) [t43,t46]),M 40 47,O 48 (.ext t40 0),O 49 (.ext t40 1),M 9 48,M 10 49] [⟨1,z2,0⟩,⟨4,z2,0⟩] [(0,3),(1,3),(2,3),(0,4),(1,4),(2,4),(0,5),(1,5),(2,5),(8,9),(9,10)] [3,40,41,42,43,44,45,46,47,48,49]) (zQ (oQ [M 50 7,M 51 9,O 52 (.call (.f ycC) [t50,t51]),M 53 8,M 54 10,O 55 (.call (.f ycC) [t53,t54]),O 56 (.bD 1 (.int .i64 (0)) 2 [(0,t52),(1,t55)]),O 57 (.call (.f yhp) [t56]),M 11 57] [7,8,9,10,50,51,52,53,54,55,56,57]) (zQ (zQ (.ops [O 58 (.fad 0 t2),oF 59 1 58,O 60 (.bin .lss t59 (I 0))] [⟨1,z2,0⟩] [] [2,58,59]) (zC t60 (oQ [M 61 11,O 62 (.un .neg t61),M 11 62] [60,61,62]) .skip)) (zQ (oQ [M 63 11,M 4 63,O 5 (.mv (I 0))] [11,60,63]) .ret))))))))⟩
def yFA:TFn:=⟨2,[.tmp 4],(zQ (oQ [O 2 (.boxL t0),O 3 (.boxL t1),O 4 (.mv (.c (.bool false)))] [0,1,4]) (zQ (oQ [oT 8 2 2,oT 9 2 3,O 10 (.call (.f ybU) [t8,t9]),M 7 10,O 11 (.ext t7 0),O 12 (.ext t7 1),M 5 11,M 6 12] [2,3,6,7,8,9,10,11,12]) (zQ (oQ [M 13 5,O 14 (.bin .lss t13 (I 0)),M 4 14] [5,13,14]) .ret)))⟩
def yDn:TFn:=⟨2,[.tmp 4],(zQ (oQ [O 2 (.boxL t0),O 3 (.boxL t1),O 4 (.mv (.c (.bool false)))] [0,1,4]) (zQ (.ops [oT 5 2 3,O 6 (.call (.f ycq) [t5]),O 7 (.bin .eql t6 (I 0)),M 8 7,zT 9 8 (.fad 0 t3),zT 10 8 (.load false 1 t9),zT 11 8 (.bin .geq t10 (I 0)),O 12 (.pick t8 t11 (.c (.bool false))),M 13 12,zT 14 13 (.fad 0 t2),zT 15 13 (.load false 1 t14),zT 16 13 (.call (.f ybz) [t15]),zT 17 13 (.load true 2 t3),zT 18 13 (.call (.f yck) [t16,t17]),zT 19 13 (.un .not t18),O 20 (.pick t13 t19 (.c (.bool false))),M 4 20] [⟨5,z2,0⟩,⟨10,zK,0⟩] [(9,12),(10,12),(11,12)] [2,3,5,6,7,8,9,10,11,12,13,14,15,16,17,18,19,20]) .ret))⟩
def yJU:TFn:=⟨1,[.tmp 2],(zQ (oQ [O 2 (.mv (I 0))] []) (zQ (zQ (oQ [M 3 0,O 4 (.bin .geq t3 (.c (.int .u64 (4294967296))))] [3]) (zC t4 (zQ (oQ [M 5 0,O 6 (.bin .shr t5 (.c (.int .u64 (32)))),M 0 6] [2,4,5,6]) (oQ [O 2 (.mv (I 32))] [])) .skip)) (zQ (zQ (oQ [M 7 0,O 8 (.bin .geq t7 (.c (.int .u64 (65536))))] [4,7]) (zC t8 (zQ (oQ [M 9 0,O 10 (.bin .shr t9 (.c (.int .u64 (16)))),M 0 10] [8,9,10]) (oQ [M 11 2,O 12 (.bin .add t11 (I 16)),M 2 12] [11,12])) .skip)) (zQ (zQ (oQ [M 13 0,O 14 (.bin .geq t13 (.c (.int .u64 (256))))] [8,13]) (zC t14 (zQ (oQ [M 15 0,O 16 (.bin .shr t15 (.c (.int .u64 (8)))),M 0 16] [14,15,16]) (oQ [M 17 2,O 18 (.bin .add t17 (I 8)),M 2 18] [17,18])) .skip)) (zQ (oQ [M 19 2,M 20 0,O 21 (.conv .u8 t20),O 22 (.idx false 256 1 (.c (.agg [(.int .u8 (0)),(.int .u8 (1)),(.int .u8 (2)),(.int .u8 (2)),(.int .u8 (3)),(.int .u8 (3)),(.int .u8 (3)),(.int .u8 (3)),(.int .u8 (4)),(.int .u8 (4)),(.int .u8 (4)),(.int .u8 (4)),(.int .u8 (4)),(.int .u8 (4)),(.int .u8 (4)),(.int .u8 (4)),(.int .u8 (5)),(.int .u8 (5)),(.int .u8 (5)),(.int .u8 (5)),(.int .u8 (5)),(.int .u8 (5)),(.int .u8 (5)),(.int .u8 (5)),(.int .u8 (5)),(.int .u8 (5)),(.int .u8 (5)),(.int .u8 (5)),(.int .u8 (5)),(.int .u8 (5)),(.int .u8 (5)),(.int .u8 (5)),(.int .u8 (6)),(.int .u8 (6)),(.int .u8 (6)),(.int .u8 (6)),(.int .u8 (6)),(.int .u8 (6)),(.int .u8 (6)),(.int .u8 (6)),(.int .u8 (6)),(.int .u8 (6)),(.int .u8 (6)),(.int .u8 (6)),(.int .u8 (6)),(.int .u8 (6)),(.int .u8 (6)),(.int .u8 (6)),(.int .u8 (6)),(.int .u8 (6)),(.int .u8 (6)),(.int .u8 (6)),(.int .u8 (6)),(.int .u8 (6)),(.int .u8 (6)),(.int .u8 (6)),(.int .u8 (6)),(.int .u8 (6)),(.int .u8 (6)),(.int .u8 (6)),(.int .u8 (6)),(.int .u8 (6)),(.int .u8 (6)),(.int .u8 (6)),(.int .u8 (7)),(.int .u8 (7)),(.int .u8 (7)),(.int .u8 (7)),(.int .u8 (7)),(.int .u8 (7)),(.int .u8 (7)),(.int .u8 (7)),(.int .u8 (7)),(.int .u8 (7)),(.int .u8 (7)),(.int .u8 (7)),(.int .u8 (7)),(.int .u8 (7)),(.int .u8 (7)),(.int .u8 (7)),(.int .u8 (7)),(.int .u8 (7)),(.int .u8 (7)),(.int .u8 (7)),(.int .u8 (7)),(.int .u8 (7)),(.int .u8 (7)),(.int .u8 (7)),(.int .u8 (7)),(.int .u8 (7)),(.int .u8 (7)),(.int .u8 (7)),(.int .u8 (7)),(.int .u8 (7)),(.int .u8 (7)),(.int .u8 (7)),(.int .u8 (7)),(.int .u8 (7)),(.int .u8 (7)),(.int .u8 (7)),(.int .u8 (7)),(.int .u8 (7)),(.int .u8 (7)),(.int .u8 (7)),(.int .u8 (7)),(.int .u8 (7)),(.int .u8 (7)),(.int .u8 (7)),(.int .u8 (7)),(.int .u8 (7)),(.int .u8 (7)),(.int .u8 (7)),(.int .u8 (7)),(.int .u8 (7)),(.int .u8 (7)),(.int .u8 (7)),(.int .u8 (7)),(.int .u8 (7)),(.int .u8 (7)),(.int .u8 (7)),(.int .u8 (7)),(.int .u8 (7)),(.int .u8 (7)),(.int .u8 (7)),(.int .u8 (7)),(.int .u8 (7)),(.int .u8 (7)),(.int .u8 (7)),(.int .u8 (8)),(.int .u8 (8)),(.int .u8 (8)),(.int .u8 (8)),(.int .u8 (8)),(.int .u8 (8)),(.int .u8 (8)),(.int .u8 (8)),(.int .u8 (8)),(.int .u8 (8)),(.int .u8 (8)),(.int .u8 (8)),(.int .u8 (8)),(.int .u8 (8)),(.int .u8 (8)),(.int .u8 (8)),(.int .u8 (8)),(.int .u8 (8)),(.int .u8 (8)),(.int .u8 (8)),(.int .u8 (8)),(.int .u8 (8)),(.int .u8 (8)),(.int .u8 (8)),(.int .u8 (8)),(.int .u8 (8)),(.int .u8 (8)),(.int .u8 (8)),(.int .u8 (8)),(.int .u8 (8)),(.int .u8 (8)),(.int .u8 (8)),(.int .u8 (8)),(.int .u8 (8)),(.int .u8 (8)),(.int .u8 (8)),(.int .u8 (8)),(.int .u8 (8)),(.int .u8 (8)),(.int .u8 (8)),(.int .u8 (8)),(.int .u8 (8)),(.int .u8 (8)),(.int .u8 (8)),(.int .u8 (8)),(.int .u8 (8)),(.int .u8 (8)),(.int .u8 (8)),(.int .u8 (8)),(.int .u8 (8)),(.int .u8 (8)),(.int .u8 (8)),(.int .u8 (8)),(.int .u8 (8)),(.int .u8 (8)),(.int .u8 (8)),(.int .u8 (8)),(.int .u8 (8)),(.int .u8 (8)),(.int .u8 (8)),(.int .u8 (8)),(.int .u8 (8)),(.int .u8 (8)),(.int .u8 (8)),(.int .u8 (8)),(.int .u8 (8)),(.int .u8 (8)),(.int .u8 (8)),(.int .u8 (8)),(.int .u8 (8)),(.int .u8 (8)),(.int .u8 (8)),(.int .u8 (8)),(.int .u8 (8)),(.int .u8 (8)),(.int .u8 (8)),(.int .u8 (8)),(.int .u8 (8)),(.int .u8 (8)),(.int .u8 (8)),(.int .u8 (8)),(.int .u8 (8)),(.int .u8 (8)),(.int .u8 (8)),(.int .u8 (8)),(.int .u8 (8)),(.int .u8 (8)),(.int .u8 (8)),(.int .u8 (8)),(.int .u8 (8)),(.int .u8 (8)),(.int .u8 (8)),(.int .u8 (8)),(.int .u8 (8)),(.int .u8 (8)),(.int .u8 (8)),(.int .u8 (8)),(.int .u8 (8)),(.int .u8 (8)),(.int .u8 (8)),(.int .u8 (8)),(.int .u8 (8)),(.int .u8 (8)),(.int .u8 (8)),(.int .u8 (8)),(.int .u8 (8)),(.int .u8 (8)),(.int .u8 (8)),(.int .u8 (8)),(.int .u8 (8)),(.int .u8 (8)),(.int .u8 (8)),(.int .u8 (8)),(.int .u8 (8)),(.int .u8 (8)),(.int .u8 (8)),(.int .u8 (8)),(.int .u8 (8)),(.int .u8 (8)),(.int .u8 (8)),(.int .u8 (8)),(.int .u8 (8)),(.int .u8 (8)),(.int .u8 (8)),(.int .u8 (8)),(.int .u8 (8)),(.int .u8 (8)),(.int .u8 (8))])) t21),O 23 (.conv .i64 t22),oX 24 .add 19 23,M 2 24] [0,14,19,20,21,22,23,24]) .ret)))))⟩
def ysx:TFn:=⟨1,[.tmp 2],(zQ (oQ [O 2 (.mv (I 0))] [2]) (zQ (oQ [M 3 0,O 4 (.call (.f yjH) [t3]),O 5 (.bin .sub (I 64) t4),M 2 5] [0,3,4,5]) .ret))⟩
def t69:Opd:=.t 69
def ym5:TC:=(zQ (zQ (oQ [M 67 15,O 68 (.bin .geq t67 (.c (.int .u64 (4294967296)))),M 69 68,zF 70 69 (.mv t15),zF 71 69 (.mv t10),zF 72 69 (.bin .mul t70 t71),zF 73 69 (.mv t16),zF 74 69 (.bin .mul (.c (.int .u64 (4294967296))) t73),zF 75 69 (.mv t13),zF 76 69 (.bin .add t74 t75),zF 77 69 (.bin .gtr t72 t76),O 78 (.pick t69 (.c (.bool true)) t77)] [67,68,69,70,71,72,73,74,75,76,77,85]) (zC t78 .skip (.exit 0))) (zB 1 (zQ (oQ [M 79 15,O 80 (.bin .sub t79 (.c (.int .u64 (1)))),M 15 80] [78,79,80]) (zQ (oQ [M 81 16,M 82 9,oX 83 .add 81 82,M 16 83] [81,82,83]) (zQ (oQ [M 84 16,O 85 (.bin .geq t84 (.c (.int .u64 (4294967296))))] [84]) (zC t85 (.exit 0) .skip))))))
def t102:Opd:=.t 102
def t104:Opd:=.t 104
def t105:Opd:=.t 105
def t106:Opd:=.t 106
def t107:Opd:=.t 107
def t108:Opd:=.t 108
def t109:Opd:=.t 109
def t110:Opd:=.t 110
def t111:Opd:=.t 111
def t112:Opd:=.t 112
def t113:Opd:=.t 113
def t114:Opd:=.t 114
def t119:Opd:=.t 119
def t120:Opd:=.t 120
def ym6:TC:=(zQ (zQ (oQ [M 102 18,O 103 (.bin .geq t102 (.c (.int .u64 (4294967296)))),M 104 103,zF 105 104 (.mv t18),zF 106 104 (.mv t10),zF 107 104 (.bin .mul t105 t106),zF 108 104 (.mv t16),zF 109 104 (.bin .mul (.c (.int .u64 (4294967296))) t108),zF 110 104 (.mv t14),zF 111 104 (.bin .add t109 t110),zF 112 104 (.bin .gtr t107 t111),O 113 (.pick t104 (.c (.bool true)) t112)] [102,103,104,105,106,107,108,109,110,111,112,120]) (zC t113 .skip (.exit 2))) (zB 3 (zQ (oQ [M 114 18,O 115 (.bin .sub t114 (.c (.int .u64 (1)))),M 18 115] [113,114,115]) (zQ (oQ [M 116 16,M 117 9,oX 118 .add 116 117,M 16 118] [116,117,118]) (zQ (oQ [M 119 16,O 120 (.bin .geq t119 (.c (.int .u64 (4294967296))))] [119]) (zC t120 (.exit 2) .skip))))))
def t121:Opd:=.t 121
def t125:Opd:=.t 125
def yJV:TFn:=⟨3,[.tmp 6,.tmp 7],(zQ (oQ [O 6 (.mv (.c (.int .u64 (0)))),O 7 (.mv (.c (.int .u64 (0))))] [6,7]) (zQ (zQ (oQ [M 19 2,O 20 (.bin .eql t19 (.c (.int .u64 (0))))] [19]) (zC t20 (oQ [O 21 (.load false 1 (.g 0)),⟨none,.bad,none⟩] [20,21]) .skip)) (zQ (zQ (oQ [M 22 2,M 23 0,oX 24 .leq 22 23] [20,22,23]) (zC t24 (oQ [O 25 (.load false 1 (.g 1)),⟨none,.bad,none⟩] [24,25]) .skip)) (zQ (zQ (oQ [M 26 0,O 27 (.bin .eql t26 (.c (.int .u64 (0))))] [24,26]) (zC t27 (zQ (.ops [M 28 1,M 29 2,oX 30 .quo 28 29,M 31 1,M 32 2,oX 33 .rem 31 32,M 6 30,M 7 33] [] [(0,1),(0,3),(1,3),(2,3),(0,4),(1,4),(2,4),(3,4),(0,5),(1,5),(2,5),(3,6),(4,6),(5,6)] [0,1,2,27,28,29,30,31,32,33]) .ret) .skip)) (zQ (oQ [M 34 2,O 35 (.call (.f yea) [t34]),O 36 (.conv .u64 t35),M 8 36] [27,34,35,36]) (zQ (oQ [M 37 2,M 38 8,oX 39 .shl 37 38,M 2 39] [37,38,39]) (zQ (oQ [M 40 2,O 41 (.bin .shr t40 (.c (.int .u64 (32)))),M 9 41] [40,41]) (zQ (oQ [M 42 2,O 43 (.bin .and t42 (.c (.int .u64 (4294967295)))),M 10 43] [42,43]) (zQ (oQ [M 44 0,M 45 8,oX 46 .shl 44 45,M 47 1,M 48 8,O 49 (.bin .sub (.c (.int .u64 (64))) t48),oX 50 .shr 47 49,oX 51 .or 46 50,M 11 51] [0,44,45,46,47,48,49,50,51]) (zQ (oQ [M 52 1,M 53 8,oX 54 .shl 52 53,M 12 54] [1,52,53,54]) (zQ (oQ [M 55 12,O 56 (.bin .shr t55 (.c (.int .u64 (32)))),M 13 56] [55,56]) (zQ (oQ [M 57 12,O 58 (.bin .and t57 (.c (.int .u64 (4294967295)))),M 14 58] [12,57,58]) (zQ (oQ [M 59 11,M 60 9,oX 61 .quo 59 60,M 15 61] [59,60,61]) (zQ (oQ [M 62 11,M 63 15,M 64 9,oX 65 .mul 63 64,oX 66 .sub 62 65,M 16 66] (zR 62 5)) (zQ (zB 0 (.loop 60530100 ym5)) (zQ (oQ [M 86 11,O 87 (.bin .mul t86 (.c (.int .u64 (4294967296)))),M 88 13,oX 89 .add 87 88,M 90 15,M 91 2,oX 92 .mul 90 91,oX 93 .sub 89 92,M 17 93] [11,13,16,78,85,86,87,88,89,90,91,92,93]) (zQ (oQ [M 94 17,M 95 9,oX 96 .quo 94 95,M 18 96] [94,95,96]) (zQ (oQ [M 97 17,M 98 18,M 99 9,oX 100 .mul 98 99,oX 101 .sub 97 100,M 16 101] (zR 97 5)) (zQ (zB 2 (.loop 60530101 ym6)) (zQ (oQ [M 121 15,O 122 (.bin .mul t121 (.c (.int .u64 (4294967296)))),M 123 18,oX 124 .add 122 123,M 125 17,O 126 (.bin .mul t125 (.c (.int .u64 (4294967296)))),M 127 14,oX 128 .add 126 127,M 129 18,M 130 2,oX 131 .mul 129 130,oX 132 .sub 128 131,M 133 8,oX 134 .shr 132 133,M 6 124,M 7 134] [2,8,9,10,14,15,16,17,18,113,120,121,122,123,124,125,126,127,128,129,130,131,132,133,134]) .ret))))))))))))))))))))⟩
def yJW:TFn:=⟨3,[.tmp 6],(zQ (oQ [O 6 (.mv (.c (.int .u64 (0))))] [6]) (zQ (oQ [M 10 0,M 11 2,oX 12 .rem 10 11,M 13 1,M 14 2,O 15 (.call (.f yhY) [t12,t13,t14]),M 9 15,O 16 (.ext t9 0),O 17 (.ext t9 1),M 7 16,M 8 17] [0,1,2,7,9,10,11,12,13,14,15,16,17]) (zQ (oQ [M 18 8,M 6 18] [8,18]) .ret)))⟩
def t66:Opd:=.t 66
def t88:Opd:=.t 88
def t99:Opd:=.t 99
def t101:Opd:=.t 101
def t103:Opd:=.t 103
def t116:Opd:=.t 116
def t117:Opd:=.t 117
def t118:Opd:=.t 118
def t122:Opd:=.t 122
def t123:Opd:=.t 123
def t124:Opd:=.t 124
def t129:Opd:=.t 129
def t130:Opd:=.t 130
def t131:Opd:=.t 131
def t132:Opd:=.t 132
def t133:Opd:=.t 133
def t134:Opd:=.t 134
def t138:Opd:=.t 138
def t140:Opd:=.t 140
def t143:Opd:=.t 143
def t145:Opd:=.t 145
def t148:Opd:=.t 148
def t152:Opd:=.t 152
def t153:Opd:=.t 153
def t154:Opd:=.t 154
def t155:Opd:=.t 155
def t156:Opd:=.t 156
def t157:Opd:=.t 157
def t158:Opd:=.t 158
def t159:Opd:=.t 159
def yFB:TFn:=⟨2,[.cell 4 true 2,.tmp 5],(zQ (oQ [O 2 (.boxL t0),O 3 (.boxL t1),O 4 (.aL (.agg [(.int .i64 (0)),(.int .i64 (0))])),O 5 (.mv (I 0))] [0,1,5]) (zQ (zQ (oQ [oT 21 2 2,oT 22 2 3,O 23 (.call (.f ybL) [t21,t22]),M 6 23] [21,22,23]) (zQ (oQ [M 24 6,O 25 (.bin .neq t24 (I 0))] [24]) (zC t25 (zQ (oQ [O 26 (.build [(.int .i64 (0)),(.int .i64 (0))] []),M 27 6,zS 2 t4 t26,M 5 27] [2,3,6,25,26,27]) .ret) .skip))) (zQ (.ops [O 28 (.fad 1 t2),oF 29 1 28,O 30 (.conv .u64 t29),O 31 (.fad 1 t3),oF 32 1 31,O 33 (.conv .u64 t32),O 34 (.call (.f ycB) [t30,t33]),M 7 34] [⟨1,z2,0⟩,⟨4,z2,0⟩] [] [6,25,28,29,30,31,32,33,34]) (zQ (.ops [O 36 (.fad 0 t2),oF 37 1 36,O 38 (.call (.f ybn) [t37]),O 39 (.fad 1 t3),oF 40 1 39,O 41 (.conv .u64 t40),M 42 7,oX 43 .quo 41 42,O 44 (.call (.f ydZ) [t38,t43]),M 35 44,O 45 (.ext t35 0),O 46 (.ext t35 1),M 8 45,M 9 46] [⟨1,z2,0⟩,⟨4,z2,0⟩] [(0,3),(1,3),(2,3),(0,4),(1,4),(2,4),(0,5),(1,5),(2,5),(0,6),(1,6),(2,6),(3,6),(4,6),(5,6),(0,7),(1,7),(2,7),(10,11),(11,12)] (zR 35 12)) (zQ (.ops [O 48 (.fad 0 t3),oF 49 1 48,O 50 (.call (.f ybn) [t49]),O 51 (.fad 1 t2),oF 52 1 51,O 53 (.conv .u64 t52),M 54 7,oX 55 .quo 53 54,O 56 (.call (.f ydZ) [t50,t55]),M 47 56,O 57 (.ext t47 0),O 58 (.ext t47 1),M 10 57,M 11 58] [⟨1,z2,0⟩,⟨4,z2,0⟩] [(0,3),(1,3),(2,3),(0,4),(1,4),(2,4),(0,5),(1,5),(2,5),(0,6),(1,6),(2,6),(3,6),(4,6),(5,6),(0,7),(1,7),(2,7),(10,11),(11,12)] (zR 47 12)) (zQ (.ops [O 59 (.fad 0 t2),oF 60 1 59,O 61 (.bin .lss t60 (I 0)),M 12 61] [⟨1,z2,0⟩] [] [59,60,61]) (zQ (oQ [O 13 (.mv (.c (.int .u64 (0)))),O 14 (.mv (.c (.int .u64 (0)))),O 15 (.mv (.c (.int .u64 (0))))] [13,14,15]) (zQ (zQ (.ops [O 62 (.fad 0 t2),oF 63 1 62,O 64 (.bin .lss t63 (I 0)),O 65 (.fad 0 t3),oF 66 1 65,O 67 (.bin .lss t66 (I 0)),O 68 (.eqB false t64 t67)] [⟨1,z2,0⟩,⟨4,z2,0⟩] [] (zR 62 6)) (zC t68 (zQ (oQ [M 70 9,M 71 11,O 72 (.call (.f ygi) [t70,t71,(.c (.int .u64 (0)))]),M 69 72,O 73 (.ext t69 0),O 74 (.ext t69 1),M 14 73,M 15 74] [9,11,68,69,70,71,72,73,74]) (oQ [M 76 8,M 77 10,M 78 15,O 79 (.call (.f ygi) [t76,t77,t78]),M 75 79,O 80 (.ext t75 0),O 81 (.ext t75 1),M 13 80] [8,10,15,75,76,77,78,79,80,81])) (zQ (zQ (oQ [M 82 8,M 83 10,oX 84 .lss 82 83,M 85 84,zF 86 85 (.mv t8),zF 87 85 (.mv t10),zF 88 85 (.bin .eql t86 t87),zF 89 85 (.mv t88),zT 90 89 (.mv t9),zT 91 89 (.mv t11),zT 92 89 (.bin .lss t90 t91),zF 93 85 (.pick t89 t92 (.c (.bool false))),O 94 (.pick t85 (.c (.bool true)) t93)] [68,82,83,84,85,86,87,88,89,90,91,92,93]) (zC t94 (zQ (oQ [M 95 10,M 96 11,M 97 8,M 98 9,M 8 95,M 9 96,M 10 97,M 11 98] (zR 94 5)) (oQ [M 99 12,O 100 (.un .not t99),M 12 100] [99,100])) .skip)) (zQ (oQ [M 102 9,M 103 11,O 104 (.call (.f ygj) [t102,t103,(.c (.int .u64 (0)))]),M 101 104,O 105 (.ext t101 0),O 106 (.ext t101 1),M 14 105,M 15 106] [9,11,94,101,102,103,104,105,106]) (oQ [M 108 8,M 109 10,M 110 15,O 111 (.call (.f ygj) [t108,t109,t110]),M 107 111,O 112 (.ext t107 0),O 113 (.ext t107 1),M 13 112] [8,10,15,107,108,109,110,111,112,113]))))) (zQ (zQ (oQ [M 114 13,O 115 (.bin .eql t114 (.c (.int .u64 (0)))),M 116 115,zT 117 116 (.mv t14),zT 118 116 (.bin .eql t117 (.c (.int .u64 (0)))),O 119 (.pick t116 t118 (.c (.bool false)))] (zR 114 5)) (zC t119 (zQ (oQ [O 120 (.build [(.int .i64 (0)),(.int .i64 (0))] [(1,1,(I 1))]),zS 2 t4 t120,O 5 (.mv (I 0))] [2,3,7,12,13,14,119,120]) .ret) .skip)) (zQ (oQ [M 121 13,M 122 14,M 123 7,O 124 (.call (.f ymg) [t121,t122,t123]),M 125 7,O 126 (.call (.f ycB) [t124,t125]),M 16 126] [119,121,122,123,124,125,126]) (zQ (zQ (oQ [M 127 13,M 128 16,oX 129 .geq 127 128] [127,128]) (zC t129 (zQ (oQ [O 130 (.build [(.int .i64 (0)),(.int .i64 (0))] []),zS 2 t4 t130,O 5 (.mv (I 16))] [2,3,7,12,13,14,16,129,130]) .ret) .skip)) (zQ (oQ [M 132 13,M 133 14,M 134 16,O 135 (.call (.f yhY) [t132,t133,t134]),M 131 135,O 136 (.ext t131 0),O 137 (.ext t131 1),M 17 136,M 18 137] [13,14,18,129,131,132,133,134,135,136,137]) (zQ (.ops [O 139 (.fad 1 t2),oF 140 1 139,O 141 (.conv .u64 t140),M 142 7,oX 143 .quo 141 142,O 144 (.fad 1 t3),oF 145 1 144,O 146 (.conv .u64 t145),M 147 16,oX 148 .quo 146 147,O 149 (.call (.f ydZ) [t143,t148]),M 138 149,O 150 (.ext t138 0),O 151 (.ext t138 1),M 19 150,M 20 151] [⟨1,z2,0⟩,⟨6,z2,0⟩] [(0,3),(1,3),(2,3),(0,5),(1,5),(2,5),(3,5),(4,5),(0,6),(1,6),(2,6),(3,6),(4,6),(0,7),(1,7),(2,7),(3,7),(4,7),(0,8),(1,8),(2,8),(3,8),(4,8),(5,8),(6,8),(7,8),(0,9),(1,9),(2,9),(3,9),(4,9),(12,13),(13,14)] [2,3,7,16,138,139,140,141,142,143,144,145,146,147,148,149,150,151]) (zQ (zQ (oQ [M 152 19,O 153 (.bin .gtr t152 (.c (.int .u64 (0))))] [19,152]) (zC t153 (zQ (oQ [O 154 (.build [(.int .i64 (0)),(.int .i64 (0))] []),zS 2 t4 t154,O 5 (.mv (I 16))] [12,17,20,153,154]) .ret) .skip)) (zQ (oQ [M 155 12,M 156 17,M 157 20,O 158 (.call (.f ycM) [t155,t156,t157]),O 159 (.ext t158 0),O 160 (.ext t158 1),zS 2 t4 t159,M 5 160] [12,17,20,153,155,156,157,158,159,160]) .ret)))))))))))))))⟩
def yFC:TFn:=⟨2,[.cell 4 true 2,.tmp 5],(zQ (oQ [O 2 (.boxL t0),O 3 (.boxL t1),O 4 (.aL (.agg [(.int .i64 (0)),(.int .i64 (0))])),O 5 (.mv (I 0))] [0,1,5]) (zQ (zQ (oQ [oT 7 2 2,oT 8 2 3,O 9 (.call (.f ybL) [t7,t8]),M 6 9] [7,8,9]) (zQ (oQ [M 10 6,O 11 (.bin .neq t10 (I 0))] [10]) (zC t11 (zQ (oQ [O 12 (.build [(.int .i64 (0)),(.int .i64 (0))] []),M 13 6,zS 2 t4 t12,M 5 13] [2,3,6,11,12,13]) .ret) .skip))) (zQ (.ops [O 14 (.fad 0 t3),oF 15 1 14,O 16 (.un .neg t15),O 17 (.fad 0 t3),zS 1 t17 t16] [⟨1,z2,0⟩,⟨4,z2,0⟩] [] [6,11,14,15,16,17]) (zQ (oQ [oT 18 2 2,oT 19 2 3,O 20 (.call (.f ycD) [t18,t19]),O 21 (.ext t20 0),O 22 (.ext t20 1),zS 2 t4 t21,M 5 22] [2,3,18,19,20,21,22]) .ret))))⟩
def t65:Opd:=.t 65
def yFD:TFn:=⟨2,[.cell 4 true 2,.tmp 5],(zQ (oQ [O 2 (.boxL t0),O 3 (.boxL t1),O 4 (.aL (.agg [(.int .i64 (0)),(.int .i64 (0))])),O 5 (.mv (I 0))] [0,1,5]) (zQ (zQ (oQ [oT 17 2 2,oT 18 2 3,O 19 (.call (.f ybL) [t17,t18]),M 6 19] [17,18,19]) (zQ (oQ [M 20 6,O 21 (.bin .neq t20 (I 0))] [20]) (zC t21 (zQ (oQ [O 22 (.build [(.int .i64 (0)),(.int .i64 (0))] []),M 23 6,zS 2 t4 t22,M 5 23] [2,3,6,21,22,23]) .ret) .skip))) (zQ (.ops [O 24 (.fad 0 t2),oF 25 1 24,O 26 (.call (.f ybn) [t25]),O 27 (.fad 1 t2),oF 28 1 27,O 29 (.conv .u64 t28),O 30 (.fad 0 t3),oF 31 1 30,O 32 (.call (.f ybn) [t31]),O 33 (.fad 1 t3),oF 34 1 33,O 35 (.conv .u64 t34),M 7 26,M 8 29,M 9 32,M 10 35] [⟨1,z2,0⟩,⟨4,z2,0⟩,⟨7,z2,0⟩,⟨10,z2,0⟩] [(0,3),(1,3),(2,3),(0,4),(1,4),(2,4),(0,5),(1,5),(2,5),(0,6),(1,6),(2,6),(3,6),(4,6),(5,6),(0,7),(1,7),(2,7),(3,7),(4,7),(5,7),(3,8),(4,8),(5,8),(0,9),(1,9),(2,9),(3,9),(4,9),(5,9),(6,9),(7,9),(8,9),(0,10),(1,10),(2,10),(3,10),(4,10),(5,10),(6,10),(7,10),(8,10),(0,11),(1,11),(2,11),(3,11),(4,11),(5,11),(6,11),(7,11),(8,11),(3,12),(4,12),(5,12),(9,12),(10,12),(11,12),(9,13),(10,13),(11,13),(9,14),(10,14),(11,14)] [6,21,24,25,26,27,28,29,30,31,32,33,34,35]) (zQ (oQ [M 36 7,M 37 10,O 38 (.call (.f ycB) [t36,t37]),M 39 9,M 40 8,O 41 (.call (.f ycB) [t39,t40]),M 11 38,M 12 41] (zR 36 6)) (zQ (.ops [M 43 7,M 44 11,oX 45 .quo 43 44,M 46 9,M 47 12,oX 48 .quo 46 47,O 49 (.call (.f ydZ) [t45,t48]),M 42 49,O 50 (.ext t42 0),O 51 (.ext t42 1),M 13 50,M 14 51] [] [(0,1),(0,3),(1,3),(2,3),(0,4),(1,4),(2,4),(3,4),(0,5),(1,5),(2,5),(8,9),(9,10)] [7,9,42,43,44,45,46,47,48,49,50,51]) (zQ (.ops [M 53 8,M 54 12,oX 55 .quo 53 54,M 56 10,M 57 11,oX 58 .quo 56 57,O 59 (.call (.f ydZ) [t55,t58]),M 52 59,O 60 (.ext t52 0),O 61 (.ext t52 1),M 15 60,M 16 61] [] [(0,1),(0,3),(1,3),(2,3),(0,4),(1,4),(2,4),(3,4),(0,5),(1,5),(2,5),(8,9),(9,10)] [8,10,11,12,52,53,54,55,56,57,58,59,60,61]) (zQ (zQ (oQ [M 62 13,M 63 15,oX 64 .add 62 63,O 65 (.bin .gtr t64 (.c (.int .u64 (0))))] [13,15,62,63,64]) (zC t65 (zQ (oQ [O 66 (.build [(.int .i64 (0)),(.int .i64 (0))] []),zS 2 t4 t66,O 5 (.mv (I 16))] [2,3,14,16,65,66]) .ret) .skip)) (zQ (.ops [M 67 14,O 68 (.bin .gtr t67 (.c (.int .u64 (0)))),M 69 68,zT 70 69 (.fad 0 t2),zT 71 69 (.load false 1 t70),zT 72 69 (.bin .lss t71 (I 0)),zT 73 69 (.fad 0 t3),zT 74 69 (.load false 1 t73),zT 75 69 (.bin .lss t74 (I 0)),zT 76 69 (.eqB true t72 t75),O 77 (.pick t69 t76 (.c (.bool false))),M 78 14,M 79 16,O 80 (.call (.f ycM) [t77,t78,t79]),O 81 (.ext t80 0),O 82 (.ext t80 1),zS 2 t4 t81,M 5 82] [⟨4,z2,0⟩,⟨7,z2,0⟩] [] [2,3,14,16,65,67,68,69,70,71,72,73,74,75,76,77,78,79,80,81,82]) .ret))))))))⟩
def yFE:TFn:=⟨2,[.cell 4 true 2,.tmp 5],(zQ (oQ [O 2 (.boxL t0),O 3 (.boxL t1),O 4 (.aL (.agg [(.int .i64 (0)),(.int .i64 (0))])),O 5 (.mv (I 0))] [0,1,5]) (zQ (zQ (oQ [oT 7 2 2,oT 8 2 3,O 9 (.call (.f ybL) [t7,t8]),M 6 9] [7,8,9]) (zQ (oQ [M 10 6,O 11 (.bin .neq t10 (I 0))] [10]) (zC t11 (zQ (oQ [O 12 (.build [(.int .i64 (0)),(.int .i64 (0))] []),M 13 6,zS 2 t4 t12,M 5 13] [2,3,6,11,12,13]) .ret) .skip))) (zQ (zB 0 (zQ (.ops [O 15 (.fad 0 t3),oF 16 1 15,O 17 (.bin .eql t16 (I 0)),M 14 17] [⟨1,z2,0⟩] [] [6,11,15,16,17]) (zC t14 (zQ (oQ [O 18 (.build [(.int .i64 (0)),(.int .i64 (0))] []),zS 2 t4 t18,O 5 (.mv (I 18))] [2,3,14,18]) .ret) (zQ (.ops [O 20 (.fad 0 t3),oF 21 1 20,O 22 (.bin .lss t21 (I 0)),M 19 22] [⟨1,z2,0⟩] [] [14,20,21,22]) (zC t19 (zQ (.ops [oT 23 2 2,O 24 (.fad 1 t3),oF 25 1 24,O 26 (.un .neg t25),O 27 (.fad 0 t3),oF 28 1 27,O 29 (.un .neg t28),O 30 (.build [(.int .i64 (0)),(.int .i64 (0))] [(0,1,t26),(1,1,t29)]),O 31 (.call (.f ydk) [t23,t30]),O 32 (.ext t31 0),O 33 (.ext t31 1),zS 2 t4 t32,M 5 33] [⟨2,z2,0⟩,⟨5,z2,0⟩] [] [2,3,19,23,24,25,26,27,28,29,30,31,32,33]) .ret) .skip))))) (zQ (.ops [oT 34 2 2,O 35 (.fad 1 t3),oF 36 1 35,O 37 (.fad 0 t3),oF 38 1 37,O 39 (.build [(.int .i64 (0)),(.int .i64 (0))] [(0,1,t36),(1,1,t38)]),O 40 (.call (.f ydk) [t34,t39]),O 41 (.ext t40 0),O 42 (.ext t40 1),zS 2 t4 t41,M 5 42] [⟨2,z2,0⟩,⟨4,z2,0⟩] [] [2,3,19,34,35,36,37,38,39,40,41,42]) .ret))))⟩
def yrA:TFn:=⟨7,[.tmp 11],(zQ (oQ [O 7 (.boxL t0),O 8 (.boxL t1),O 9 (.boxL t2),O 11 (.mv (.c (.bool false)))] [0,1,2,8,11]) (zQ (zQ (oQ [M 16 3,O 17 (.bin .eql t16 (I 0))] [16]) (zC t17 (zQ (oQ [O 11 (.mv (.c (.bool false)))] [3,4,5,6,7,9,17]) .ret) .skip)) (zQ (zQ (oQ [oT 18 2 9,oT 19 2 4,O 20 (.call (.f yck) [t18,t19])] [17,18,19]) (zC t20 (zQ (oQ [oT 22 2 4,oT 23 2 9,O 24 (.call (.f yeF) [t22,t23]),M 21 24,O 25 (.ext t21 0),O 26 (.ext t21 1),O 12 (.aL (.agg [(.int .i64 (0)),(.int .i64 (0))])),zS 2 t12 t25,M 13 26] [3,6,7,9,20,21,22,23,24,25,26]) (zQ (oQ [oT 27 2 12,zS 2 t4 t27,zS 1 t5 (I 6)] [4,12,27]) (zQ (zQ (oQ [M 28 13,O 29 (.bin .neq t28 (I 0))] [28]) (zC t29 (oQ [M 30 13,zS 1 t5 t30] [5,29,30]) .skip)) (zQ (oQ [M 31 13,O 32 (.bin .neq t31 (I 0)),M 11 32] [5,13,29,31,32]) .ret)))) .skip)) (zQ (.ops [oT 34 2 4,M 35 3,O 36 (.call (.f ybz) [t35]),O 37 (.call (.f ydl) [t34,t36]),M 33 37,O 38 (.ext t33 0),O 39 (.ext t33 1),O 14 (.aL (.agg [(.int .i64 (0)),(.int .i64 (0))])),zS 2 t14 t38,M 15 39] [] [(0,1),(0,2),(5,6),(0,7),(1,7),(2,7),(3,7),(4,7),(5,7),(6,7),(6,8)] [3,4,9,20,33,34,35,36,37,38,39]) (zQ (zQ (oQ [M 40 15,O 41 (.bin .eql t40 (I 0))] [40]) (zC t41 (oQ [oT 43 2 7,oT 44 2 14,O 45 (.call (.f ycD) [t43,t44]),M 42 45,O 46 (.ext t42 0),O 47 (.ext t42 1),zS 2 t6 t46,M 15 47] [6,7,14,41,42,43,44,45,46,47]) .skip)) (zQ (oQ [M 48 15,zS 1 t5 t48] [5,6,7,14,15,41,48]) (zQ (oQ [O 11 (.mv (.c (.bool true)))] []) .ret)))))))⟩
def ym7:TC:=(zQ (oQ [oX 17 .lss 16 15] []) (zQ (zC t17 .skip (.exit 0)) (zQ (zB 1 (zQ (.ops [M 18 16,O 19 (.iad 1 t14 t16),oF 20 1 19,M 7 18,M 8 20] [⟨1,zI,0⟩,⟨2,zI,0⟩] [] (zR 17 4)) (zQ (.ops [O 21 (.fad 1 t3),oF 22 1 21,M 23 7,O 24 (.bin .add t23 (I 1)),O 25 (.iad 1 t22 t24),oF 26 1 25,O 27 (.call (.f ybz) [t26]),O 9 (.aL (.agg [(.int .i64 (0)),(.int .i64 (0))])),zS 2 t9 t27] [⟨1,zK,0⟩,⟨4,zI,0⟩,⟨5,zI,0⟩] [] [7,21,22,23,24,25,26,27]) (zQ (zQ (oQ [oT 28 2 4,oT 29 2 9,O 30 (.call (.f yck) [t28,t29]),O 31 (.un .not t30)] [28,29,30]) (zC t31 (.exit 1) .skip)) (zQ (oQ [O 32 (.call (.f ybz) [(I 0)]),O 10 (.aL (.agg [(.int .i64 (0)),(.int .i64 (0))])),zS 2 t10 t32] [31,32]) (zQ (zQ (oQ [M 33 8,O 34 (.bin .gtr t33 (I 0))] [33]) (zC t34 (zQ (oQ [oT 36 2 9,oT 37 2 4,O 38 (.call (.f yeF) [t36,t37]),M 35 38,O 39 (.ext t35 0),O 40 (.ext t35 1),O 11 (.aL (.agg [(.int .i64 (0)),(.int .i64 (0))])),zS 2 t11 t39,M 12 40] (zR 34 7)) (zQ (zQ (oQ [M 41 12,O 42 (.bin .neq t41 (I 0))] [41]) (zC t42 (zQ (oQ [M 43 12,M 6 43] [2,3,4,8,9,10,11,12,14,15,16,42,43]) .ret) .skip)) (zQ (.ops [oT 45 2 11,M 46 8,O 47 (.call (.f ybz) [t46]),O 48 (.call (.f ydk) [t45,t47]),M 44 48,O 49 (.ext t44 0),O 50 (.ext t44 1),zS 2 t10 t49,M 12 50] [] [(0,1),(0,2),(5,6),(6,7)] [11,42,44,45,46,47,48,49,50]) (zQ (oQ [M 51 12,O 52 (.bin .neq t51 (I 0))] [51]) (zC t52 (zQ (oQ [M 53 12,M 6 53] [2,3,4,8,9,10,12,14,15,16,52,53]) .ret) .skip))))) .skip)) (zQ (zQ (oQ [M 54 2,oT 55 2 4,oT 56 2 9,oT 57 2 10,M 58 8,O 59 (.call t54 [t55,t56,t57,t58])] [8,10,12,34,52,54,55,56,57,58]) (zC t59 (zQ (oQ [O 6 (.mv (I 0))] [2,3,4,9,14,15,16,59]) .ret) .skip)) (oQ [oT 60 2 9,zS 2 t4 t60] [9,59,60])))))))) (oQ [O 61 (.bin .add t16 (I 1)),M 16 61] [8,9,31,61]))))
def yFF:TFn:=⟨3,[.tmp 6],(zQ (oQ [O 3 (.boxL t0),O 4 (.boxL t1),O 6 (.mv (I 0))] [0,1,6]) (zQ (zQ (.ops [O 13 (.fad 2 t3),oF 14 1 13,O 15 (.len t14),O 16 (.mv (I 0))] [⟨1,zK,0⟩] [] [13]) (zB 0 (.loop 41613500 ym7))) (zQ (oQ [O 6 (.mv (I 0))] [2,3,4,14,15,16,17]) .ret)))⟩
end Go.Pf.Vc
