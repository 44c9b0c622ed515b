/- Part 5. -/
import Derived.Test.YtobbapakhillmaaGreatThW4
noncomputable section
namespace Go.Pf.Vc
open Go Go.Pf
instance:Inhabited Ck:=⟨⟨0,[],[]⟩⟩
def encC (c:Ck):PV:=.agg [.int .i64 c.len,.data (ints c.cuts),.data (ints c.dens)]
def cks (l:List Ck):List PV:=l.map encC
def Ck.fin (c:Ck):Prop:=c.cuts.length<4611686018427387904∧c.dens.length<4611686018427387904
def Ck.err (c:Ck):Int:=ckC c.len c.cuts c.dens
def Ck.ok (c:Ck):Prop:=VC c.len c.cuts c.dens
instance (c:Ck):Decidable c.ok:=by unfold Ck.ok;infer_instance
theorem ybD (l:List Ck):(cks l).length=l.length:=qBc ..
theorem ycS {l:List Ck} {i:Nat} (h:i<l.length):List.getD (cks l) i .nils=encC (l.getD i default):=by
 unfold cks
 rw [qAb,qAb,qBj,qAd h]
 rfl
theorem yfD {α:Type} {l:List α} {i:Nat} (d:α) (h:i<l.length):l.drop i=l.getD i d::l.drop (i+1):=by
 rw [List.drop_eq_getElem_cons h,qAb,qAd h];rfl
theorem asCk {c:Ck} {P:Prop}:asr (conf zK (encC c)) P=P:=rfl
theorem ck0 (c:Ck):yaa (yab (encC c) 0)=c.len:=rfl
theorem ck1 (c:Ck):yaM (yab (encC c) 1)=ints c.cuts:=rfl
theorem ck2 (c:Ck):yaM (yab (encC c) 2)=ints c.dens:=rfl
def yfU:List Ck→Int
 | []=>0
 | c::t=>if c.err=0 then yfU t else c.err
def yjV (n:Int):List Ck→Bool
 | []=>true
 | c::t=>decide (c.len=n)&&yjV n t
def yik (l:List Ck) (m:Nat):Int :=
 if l.length>6 then 4 else if m>2000 then 4 else if l.length=0 then 8 else if yfU l=0 then (if yjV (l.getD 0 default).len l then 0 else 8) else yfU l
section
variable {l:List Ck}
def finC (l:List Ck):Prop:=∀ i,i<l.length→(l.getD i default).fin
theorem yGq (hf:finC l) (hl:l.length<4611686018427387904) (x0:Int→Prop) (x1:List PV→List PV→List PV→Int→Int→Bool→Prop) (lg:List PV) :
  ∀ (r i n:Nat),i+r=l.length→r<n→ydo yaZ x0 x1 n (cks l) lg (cks l) l.length i =
   if yfU (l.drop i)=0 then x1 (cks l) lg (cks l) l.length l.length false else x0 (yfU (l.drop i))
 | 0,i,n+1,hi,hn=>by
  unfold ydo
  rw [cbF (by omega),qBg (by omega),show (i:Int)=l.length by omega];rfl
 | r+1,i,n+1,hi,hn=>by
  unfold ydo
  have e1:=wib (n:=(i:Int)+1) (by omega) (by omega)
  obtain ⟨f1,f2⟩:=hf i (by omega)
  rw [cbT (by omega),ybD,qAe,ycS (by omega),asT (by omega),asT (by omega),asCk,ck0,ck1,ck2,ylW (by omega) (by omega),yfD default (by omega),yfU,e1,yhn]
  show cbr ((l.getD i default).err != 0) _ _=_
  by_cases h:(l.getD i default).err=0
  ·rw [cnF h,if_pos h];exact yGq hf hl x0 x1 lg r (i+1) n (by omega) (by omega)
  ·rw [cnT h,if_neg h,if_neg h];rfl
theorem yGr (hl:l.length<4611686018427387904) (x0:Int→Prop) (x1:List PV→List PV→List PV→Int→Int→Bool→Prop) (lg:List PV) (W) :
  ∀ (r i n:Nat),i+r=l.length→r<n→ycP W x0 x1 n (cks l) lg (cks l) l.length i =
   if yjV (l.getD 0 default).len (l.drop i) then x1 (cks l) lg (cks l) l.length l.length false else x0 8
 | 0,i,n+1,hi,hn=>by
  unfold ycP
  rw [cbF (by omega),qBg (by omega),show (i:Int)=l.length by omega];rfl
 | r+1,i,n+1,hi,hn=>by
  unfold ycP
  have e1:=wib (n:=(i:Int)+1) (by omega) (by omega)
  rw [cbT (by omega),ybD,qAe,ycS (by omega),ycS (by omega),asT (by omega),asT (by omega),asCk,asT (by omega),asCk,ck0,ck0,yfD default (by omega),yjV,e1,yhn]
  by_cases h:(l.getD i default).len=(l.getD 0 default).len
  ·rw [cnF h,decide_eq_true h,qBq];exact yGr hl x0 x1 lg W r (i+1) n (by omega) (by omega)
  ·rw [cnT h,decide_eq_false h,qB4,if_neg (by simp)]
theorem ypY (hf:finC l) (hl:l.length<4611686018427387904) (lg:List PV) (K:Int→Prop):yc4 (cks l) lg K=K (yik l lg.length):=by
 refine yzo _ _ _ (fun K k=>?_) K
 unfold yc4 ymG
 unfold yik at k
 rw [ybD]
 by_cases a1:l.length>6
 ·rw [cbT (by omega)];rw [if_pos a1] at k;exact k
 rw [cbF (by omega)];rw [if_neg a1] at k
 by_cases a2:lg.length>2000
 ·rw [cbT (by omega)];rw [if_pos a2] at k;exact k
 rw [cbF (by omega)];rw [if_neg a2] at k
 by_cases a3:l.length=0
 ·rw [ceT (by omega)];rw [if_pos a3] at k;exact k
 rw [ceF (by omega)];rw [if_neg a3] at k
 refine ⟨l.length+1,?_⟩
 have h0:=yGq hf hl (fun c=>K c) (fun a d o p q r=>(∃ e:Nat,ycP yaZ (fun b=>(K b)) (fun f g i j m n=>(K (0:Int))) e a d a (((List.length a):Nat):Int) (0:Int))) lg l.length 0 (l.length+1) (by omega) (by omega)
 rw [show ((0:Nat):Int)=0 from rfl,qB2] at h0
 rw [h0]
 by_cases a4:yfU l=0
 ·rw [if_pos a4] at k ⊢
  refine ⟨l.length+1,?_⟩
  have h1:=yGr hl (fun b=>(K b)) (fun f g i j m n=>(K (0:Int))) lg yaZ l.length 0 (l.length+1) (by omega) (by omega)
  rw [show ((0:Nat):Int)=0 from rfl,qB2] at h1
  rw [ybD,h1]
  split at k <;> rename_i h <;> simp only [h] <;> exact k
 ·rw [if_neg a4] at k ⊢;exact k
theorem yGs (hf:finC l) (hl:l.length<4611686018427387904) (x0:Int→Prop) (x1:List PV→List PV→Int→Bool→Prop) (lg:List PV) :
  ∀ (r i n:Nat),i+r=l.length→r<n→yds ybz x0 x1 n (cks l) lg i =
   if yfU (l.drop i)=0 then x1 (cks l) lg l.length false else x0 (yfU (l.drop i))
 | 0,i,n+1,hi,hn=>by
  unfold yds
  rw [ybD,cbF (by omega),qBg (by omega),show (i:Int)=l.length by omega];rfl
 | r+1,i,n+1,hi,hn=>by
  unfold yds
  have e1:=wib (n:=(i:Int)+1) (by omega) (by omega)
  obtain ⟨f1,f2⟩:=hf i (by omega)
  rw [ybD,cbT (by omega),qAe,ycS (by omega),asT (by omega),asT (by omega),asCk,ck0,ck1,ck2,ypX (by omega) (by omega),yfD default (by omega),yfU,e1,yhn]
  show cbr ((l.getD i default).err != 0) _ _=_
  by_cases h:(l.getD i default).err=0
  ·rw [cnF h,if_pos h];exact yGs hf hl x0 x1 lg r (i+1) n (by omega) (by omega)
  ·rw [cnT h,if_neg h,if_neg h,asT (by omega),asT (by omega),asCk,ypX (by omega) (by omega)];rfl
theorem yGt (hl:l.length<4611686018427387904) (x0:Int→Prop) (x1:List PV→List PV→Int→Bool→Prop) (lg:List PV) (W) :
  ∀ (r i n:Nat),i+r=l.length→r<n→ycR W x0 x1 n (cks l) lg i =
   if yjV (l.getD 0 default).len (l.drop i) then x1 (cks l) lg l.length false else x0 8
 | 0,i,n+1,hi,hn=>by
  unfold ycR
  rw [ybD,cbF (by omega),qBg (by omega),show (i:Int)=l.length by omega];rfl
 | r+1,i,n+1,hi,hn=>by
  unfold ycR
  have e1:=wib (n:=(i:Int)+1) (by omega) (by omega)
  rw [ybD,cbT (by omega),qAe,ycS (by omega),ycS (by omega),asT (by omega),asT (by omega),asCk,asT (by omega),asCk,ck0,ck0,yfD default (by omega),yjV,e1,yhn]
  by_cases h:(l.getD i default).len=(l.getD 0 default).len
  ·rw [cnF h,decide_eq_true h,qBq];exact yGt hl x0 x1 lg W r (i+1) n (by omega) (by omega)
  ·rw [cnT h,decide_eq_false h,qB4,if_neg (by simp)]
theorem yHO (hf:finC l) (hl:l.length<4611686018427387904) (lg:List PV) (K:Int→Prop):yfg (cks l) lg K=K (yik l lg.length):=by
 refine yzy _ _ _ (fun K k=>?_) K
 unfold yfg ym2
 unfold yik at k
 rw [ybD]
 by_cases a1:l.length>6
 ·rw [cbT (by omega)];rw [if_pos a1] at k;exact k
 rw [cbF (by omega)];rw [if_neg a1] at k
 by_cases a2:lg.length>2000
 ·rw [cbT (by omega)];rw [if_pos a2] at k;exact k
 rw [cbF (by omega)];rw [if_neg a2] at k
 by_cases a3:l.length=0
 ·rw [ceT (by omega)];rw [if_pos a3] at k;exact k
 rw [ceF (by omega)];rw [if_neg a3] at k
 refine ⟨l.length+1,?_⟩
 have h0:=yGs hf hl (fun b=>K b) (fun c d m n=>(∃ e:Nat,ycR ybz (fun a=>(K a)) (fun f g i j=>(K (0:Int))) e c d (0:Int))) lg l.length 0 (l.length+1) (by omega) (by omega)
 rw [show ((0:Nat):Int)=0 from rfl,qB2] at h0
 rw [h0]
 by_cases a4:yfU l=0
 ·rw [if_pos a4] at k ⊢
  refine ⟨l.length+1,?_⟩
  have h1:=yGt hl (fun a=>(K a)) (fun f g i j=>(K (0:Int))) lg ybz l.length 0 (l.length+1) (by omega) (by omega)
  rw [show ((0:Nat):Int)=0 from rfl,qB2] at h1
  rw [h1]
  split at k <;> rename_i h <;> simp only [h] <;> exact k
 ·rw [if_neg a4] at k ⊢;exact k
def Ck.low (c:Ck):Prop:=c.cuts.length≤1000∧c.dens.length≤1000
def lowC (l:List Ck):Prop:=∀ i,i<l.length→(l.getD i default).low
theorem yEb (l:List Int):ydC 1 (ints l)=true:=by cases l <;> rfl
theorem ytW {l:List Int} (h:l.length≤1000) (K:List PV→Prop):ydy (ints l) K=K (ints l):=by
 show asr (yea 1 8 (ints l)) (K (ints l))=_
 have:yea 1 8 (ints l)=true:=by
  unfold yea
  rw [yEb,ybe,qBq,decide_eq_true_iff]
  unfold room;omega
 rw [this,yaU]
theorem asTT {c:Bool} {P:Prop} (h:c=true):asr c P=P:=by rw [h,yaU]
theorem yGu (hf:lowC l) (hl:l.length≤1000) (x0:List PV→List PV→Int→Int→Bool→Prop) (x1:List PV→Int→Int→Bool→Prop) :
  ∀ (r i n:Nat) (acc:List PV),i+r=l.length→r<n→acc.length≤i→ydc ydy x0 x1 n acc (cks l) l.length i=x0 (acc++cks (l.drop i)) (cks l) l.length l.length false
 | 0,i,n+1,acc,hi,hn,ha=>by
  unfold ydc
  rw [cbF (by omega),qBg (by omega),show (i:Int)=l.length by omega]
  show _=x0 (acc++[]) _ _ _ _
  rw [List.append_nil]
 | r+1,i,n+1,acc,hi,hn,ha=>by
  unfold ydc
  have e1:=wib (n:=(i:Int)+1) (by omega) (by omega)
  obtain ⟨f1,f2⟩:=hf i (by omega)
  rw [cbT (by omega),ybD,qAe,ycS (by omega),asT (by omega),asT (by omega),asCk,ck0,ck1,ck2,ytW f1,ytW f2,asT rfl,asT (by omega),asTT (by rw [decide_eq_false (by omega)];rfl),asT rfl,asT (by unfold room;omega),asTT (by simp),e1,yhn]
  rw [yGu hf hl x0 x1 r (i+1) n _ (by omega) (by omega) (by simp;omega),yfD (i:=i) default (by omega),qBe];rfl
theorem yAl (hf:lowC l) (hl:l.length≤1000) (K:List PV→Prop):yel (cks l) K=K (cks l):=by
 refine yyb _ _ (fun K k=>?_) K
 unfold yel yk3
 cases hc:l with
 | nil =>
  refine ⟨0+1,?_⟩
  rw [hc] at k
  rw [yfy,ybD,cbF (by simp)]
  exact k
 | cons c t =>
  rw [← hc]
  have h0:0<l.length:=by rw [hc];exact Nat.zero_lt_succ _
  refine ⟨(l.length+1)+1,?_⟩
  rw [yfy]
  obtain ⟨f1,f2⟩:=hf 0 (by omega)
  have e1:=wib (n:=(0:Int)+1) (by omega) (by omega)
  rw [ybD,cbT (by omega),show (0:Int).toNat=0 from rfl,ycS (by omega),asT (by omega),asT (by omega),asCk,ck0,ck1,ck2,ytW f1,ytW f2,asTT (by simp),e1,show (0:Int)+1=((0+1:Nat):Int) from rfl]
  rw [yGu hf hl _ _ (l.length-1) (0+1) (l.length+1) _ (by omega) (by omega) (by simp)]
  have e:[PV.agg [PV.int IntKind.i64 (l.getD 0 default).len,PV.data (ints (l.getD 0 default).cuts),PV.data (ints (l.getD 0 default).dens)]]++cks (l.drop (0+1))=cks l:=by
   conv=>rhs;rw [← qB2 (l:=l),yfD default h0]
   rfl
  rw [e,asT rfl,asT (by omega),qAu]
  exact k
theorem yvV:∀ (l:List Ck),yfU l=0→∀ i,i<l.length→(l.getD i default).ok
 | c::t,h,0,_=>by
  unfold yfU at h
  split at h
  ·rename_i h1;exact yps h1
  ·rename_i h1;exact absurd h h1
 | c::t,h,i+1,hi=>by
  unfold yfU at h
  split at h
  ·exact yvV t h i (by simpa using hi)
  ·rename_i h1;exact absurd h h1
theorem yyD {n:Int}:∀ (l:List Ck),yjV n l=true→∀ i,i<l.length→(l.getD i default).len=n
 | c::t,h,0,_=>by
  unfold yjV at h
  simp only [qAc,decide_eq_true_eq] at h
  exact h.1
 | c::t,h,i+1,hi=>by
  unfold yjV at h
  simp only [qAc,decide_eq_true_eq] at h
  exact yyD t h.2 i (by simpa using hi)
structure DK (l:List Ck):Prop where
 n6:l.length≤6
 n0:1≤l.length
 ok:∀ i,i<l.length→(l.getD i default).ok
 len:∀ i,i<l.length→(l.getD i default).len=(l.getD 0 default).len
theorem yne {m:Nat} (h:yik l m=0):DK l∧m≤2000:=by
 unfold yik at h
 split at h
 ·omega
 split at h
 ·omega
 split at h
 ·omega
 split at h
 ·rename_i h0 h1 h2 h3
  split at h
  ·rename_i h4
   exact ⟨⟨by omega,by omega,yvV l h3,yyD l h4⟩,by omega⟩
  ·omega
 ·rename_i h3;exact absurd h h3
theorem DK.err {l:List Ck} (h:DK l) {m:Nat} (hm:m≤2000):yik l m=0:=by
 have f:∀ l:List Ck,(∀ i,i<l.length→(l.getD i default).ok)→yfU l=0:=by
  intro l
  induction l with
  | nil=>intro _;rfl
  | cons c t ih =>
   intro h
   unfold yfU
   rw [if_pos (show c.err=0 from (h 0 (Nat.zero_lt_succ _)).ck)]
   exact ih fun i hi=>h (i+1) (by simpa using hi)
 have g:∀ (n:Int) (l:List Ck),(∀ i,i<l.length→(l.getD i default).len=n)→yjV n l=true:=by
  intro n l
  induction l with
  | nil=>intro _;rfl
  | cons c t ih =>
   intro h
   unfold yjV
   rw [qAc,decide_eq_true_eq]
   exact ⟨h 0 (Nat.zero_lt_succ _),ih fun i hi=>h (i+1) (by simpa using hi)⟩
 have:=h.n6;have:=h.n0
 unfold yik
 rw [if_neg (by omega),if_neg (by omega),if_neg (by omega),if_pos (f l h.ok),if_pos (g _ l h.len)]
theorem DK.low {l:List Ck} (h:DK l):lowC l:=fun i hi=>by
 have h1:=(h.ok i hi).l1;have h2:=(h.ok i hi).l2
 exact ⟨by omega,by omega⟩
theorem DK.fin {l:List Ck} (h:DK l):finC l:=fun i hi=>by
 have h1:=(h.ok i hi).l1;have h2:=(h.ok i hi).l2
 exact ⟨by omega,by omega⟩
def qrow (agent kind an ad bn bd cn cd:Int):PV:=.agg [.int .i64 agent,.int .u8 kind,.int .i64 an,.int .i64 ad,.int .i64 bn,.int .i64 bd,.int .i64 cn,.int .i64 cd]
def qryR (l:List Ck) (m:Nat) (agent:Int) (ans:Ck→Except Int Rat):Except Int Rat :=
 if yik l m=0 then (if 0≤agent∧agent<l.length then (match ans (l.getD agent.toNat default) with
  | .ok p=>if m≥2000 then .error 4 else .ok p
  | .error e=>.error e) else .error 2) else .error (yik l m)
def qryK (l:List Ck) (lg:List PV) (row:Rat→PV) (e:Except Int Rat) (K:List PV→List PV→Int→Int→Int→Prop):Prop :=
 match e with
 | .ok p=>K (cks l) (lg++[row p]) p.num p.den 0
 | .error c=>K [] [] 0 0 c
theorem yKE {w:(List PV→List PV→Int→Int→Int→Prop)→Prop} {l:List Ck} {lg:List PV} {row:Rat→PV} {e:Except Int Rat} (det:∀ r0 r1 r2 r3 r4,(∀ K:List PV→List PV→Int→Int→Int→Prop,K r0 r1 r2 r3 r4→w K)→∀ K,w K=K r0 r1 r2 r3 r4)
  (h:∀ K,qryK l lg row e K→w K) (K):w K=qryK l lg row e K:=by
 cases e with
 | ok q=>exact det _ _ _ _ _ h K
 | error c=>exact det _ _ _ _ _ h K
theorem mk1 {z q:PV} {lg:List PV} {m:Nat} (hm:m=lg.length) :
  List.take ((0+m)+1) ((List.take (0+(0+m)) (lg++(List.drop (0+m) (List.replicate (m+1) z))))++(([q]:List PV)++(List.drop ((0+(0+m))+1) (lg++(List.drop (0+m) (List.replicate (m+1) z))))))=lg++[q]:=by
 subst hm
 simp
 rw [qBo (by simp)]
theorem yFC (lg:List PV) (agent:Int) (K:Bool→Prop):ydb (cks l) lg agent K=K (decide (0≤agent∧agent<l.length)):=by
 unfold ydb yg7
 rw [ybD]
 by_cases h:agent≥0
 ·rw [cbT h]
  congr 1
  rw [decide_eq_decide];omega
 ·rw [cbF h,decide_eq_false (by omega)]
def Ck.mark (an ad vn vd:Int) (c:Ck):Except Int Rat:=mrkR c.len c.cuts c.dens an ad vn vd
def Ck.value (an ad bn bd:Int) (c:Ck):Except Int Rat:=valR c.len c.cuts c.dens an ad bn bd
theorem yJa (hf:finC l) (hl:l.length<4611686018427387904) {lg:List PV} (hlg:ydC 8 lg=true) {agent an ad vn vd:Int} (ha:I64 an) (ha':I64 ad) (hv:I64 vn) (hv':I64 vd) (K) :
  yfb (cks l) lg agent an ad vn vd K=qryK l lg (fun p=>qrow agent 2 an ad vn vd p.num p.den) (qryR l lg.length agent (Ck.mark an ad vn vd)) K:=by
 refine yKE (fun r0 r1 r2 r3 r4 h K=>yBy _ _ _ _ _ _ _ r0 r1 r2 r3 r4 h K) (fun K k=>?_) K
 unfold yfb yoN
 unfold qryR at k
 rw [ypY hf hl]
 by_cases h:yik l lg.length=0
 case neg=>rw [cnT h];rw [if_neg h] at k;exact k
 obtain ⟨hd,hm⟩:=yne h
 rw [if_pos h] at k
 rw [cnF h,yFC]
 by_cases h2:0≤agent∧agent<l.length
 case neg=>rw [decide_eq_false h2,qBn,yam];rw [if_neg h2] at k;exact k
 rw [if_pos h2] at k
 obtain ⟨a,rfl⟩:∃ a:Nat,agent=a:=⟨agent.toNat,by omega⟩
 have ha2:a<l.length:=by omega
 rw [qAe] at k
 obtain ⟨f1,f2⟩:=hf a ha2
 rw [decide_eq_true h2,qA2,yae,yg9,ygk,ybD,qAe,ycS ha2,asT (by omega),asT (by omega),asCk,ck0,ck1,ck2,yI7 (by omega) (by omega) ha ha' hv hv']
 have em:Ck.mark an ad vn vd (l.getD a default)=mrkR (l.getD a default).len (l.getD a default).cuts (l.getD a default).dens an ad vn vd:=rfl
 rw [em] at k
 cases hr:mrkR (l.getD a default).len (l.getD a default).cuts (l.getD a default).dens an ad vn vd with
 | error c =>
  rw [hr] at k
  have k:K [] [] 0 0 c:=k
  rw [yCq]
  have hc:c≠0:=by
   intro hc
   subst hc
   unfold mrkR at hr
   split at hr
   ·split at hr
    ·unfold mrkC at hr
     split at hr
     ·cases hr
     ·have no:∀ (r i:Nat) (p v:Rat),mrkS (l.getD a default).cuts (l.getD a default).dens r i p v≠.error 0:=by
       intro r
       induction r with
       | zero=>intro i p v e;unfold mrkS at e;cases e
       | succ r ih =>
        intro i p v e
        unfold mrkS fit at e
        repeat' (first | split at e | dsimp only at e)
        all_goals first | exact ih _ _ _ e | cases e
      exact no _ _ _ _ hr
    ·cases hr
   ·rename_i h5;exact h5 (Except.error.inj hr)
  rw [cnT hc];exact k
 | ok p =>
  rw [hr] at k
  rw [yyC,cnF rfl]
  by_cases h3:lg.length≥2000
  ·rw [cbT (by omega)]
   have k:qryK l lg _ (if lg.length≥2000 then .error 4 else .ok p) K:=k
   rw [if_pos h3] at k;exact k
  ·have k:qryK l lg _ (if lg.length≥2000 then .error 4 else .ok p) K:=k
   rw [if_neg h3] at k
   have k:K (cks l) (lg++[qrow a 2 an ad vn vd p.num p.den]) p.num p.den 0:=k
   have e1:=wib (n:=(lg.length:Int)+1) (by omega) (by omega)
   have e2:((lg.length:Int)+1).toNat=lg.length+1:=by omega
   rw [cbF (by omega),e1,e2,asT (by omega),asT (by unfold room;omega),yAl hd.low (by have:=hd.n6;omega),hlg,yaU]
   rw [asT (by simp),asT (by omega)]
   cases hlg2:lg with
   | nil =>
    rw [List.isEmpty_nil,yam,asT (by simp),asT (by simp),asT (by simp),asT (by simp),asT (by simp)]
    rw [hlg2] at k
    exact k
   | cons x t =>
    rw [← hlg2,show List.isEmpty lg=false by rw [hlg2];rfl,yae,asT (by omega),asT (by simp),asT (by omega),asT (by omega),asT (by simp),asT (by omega)]
    rw [mk1 rfl]
    exact k
theorem yJb (cuts dens:List Int) (b:Rat):∀ (r i:Nat) (p v:Rat),valS cuts dens b r i p v≠.error 0:=by
 intro r
 induction r with
 | zero=>intro i p v e;unfold valS at e;cases e
 | succ r ih =>
  intro i p v e
  unfold valS fit at e
  repeat' (first | split at e | dsimp only at e)
  all_goals first | exact ih _ _ _ e | cases e
theorem yJc {len:Int} {cuts dens:List Int} {an ad vn vd:Int}:valR len cuts dens an ad vn vd≠.error 0:=by
 intro hr
 unfold valR at hr
 split at hr
 ·split at hr
  ·exact yJb _ _ _ _ _ _ _ hr
  ·cases hr
 ·rename_i h5;exact h5 (Except.error.inj hr)
theorem yHP (hf:finC l) (hl:l.length<4611686018427387904) {lg:List PV} (hlg:ydC 8 lg=true) {agent an ad vn vd:Int} (ha:I64 an) (ha':I64 ad) (hv:I64 vn) (hv':I64 vd) (K) :
  yan (cks l) lg agent an ad vn vd K=qryK l lg (fun p=>qrow agent 1 an ad vn vd p.num p.den) (qryR l lg.length agent (Ck.value an ad vn vd)) K:=by
 refine yKE (fun r0 r1 r2 r3 r4 h K=>yzp _ _ _ _ _ _ _ r0 r1 r2 r3 r4 h K) (fun K k=>?_) K
 unfold yan ymK
 unfold qryR at k
 rw [ypY hf hl]
 by_cases h:yik l lg.length=0
 case neg=>rw [cnT h];rw [if_neg h] at k;exact k
 obtain ⟨hd,hm⟩:=yne h
 rw [if_pos h] at k
 rw [cnF h,yFC]
 by_cases h2:0≤agent∧agent<l.length
 case neg=>rw [decide_eq_false h2,qBn,yam];rw [if_neg h2] at k;exact k
 rw [if_pos h2] at k
 obtain ⟨a,rfl⟩:∃ a:Nat,agent=a:=⟨agent.toNat,by omega⟩
 have ha2:a<l.length:=by omega
 rw [qAe] at k
 obtain ⟨f1,f2⟩:=hf a ha2
 rw [decide_eq_true h2,qA2,yae,ygl,yfQ,ybD,qAe,ycS ha2,asT (by omega),asT (by omega),asCk,ck0,ck1,ck2,yHJ (by omega) (by omega) ha ha' hv hv']
 have em:Ck.value an ad vn vd (l.getD a default)=valR (l.getD a default).len (l.getD a default).cuts (l.getD a default).dens an ad vn vd:=rfl
 rw [em] at k
 cases hr:valR (l.getD a default).len (l.getD a default).cuts (l.getD a default).dens an ad vn vd with
 | error c =>
  rw [hr] at k
  have k:K [] [] 0 0 c:=k
  rw [yCq]
  have hc:c≠0:=fun hc=>yJc (hc ▸ hr)
  rw [cnT hc];exact k
 | ok p =>
  rw [hr] at k
  rw [yyC,cnF rfl]
  by_cases h3:lg.length≥2000
  ·rw [cbT (by omega)]
   have k:qryK l lg _ (if lg.length≥2000 then .error 4 else .ok p) K:=k
   rw [if_pos h3] at k;exact k
  ·have k:qryK l lg _ (if lg.length≥2000 then .error 4 else .ok p) K:=k
   rw [if_neg h3] at k
   have k:K (cks l) (lg++[qrow a 1 an ad vn vd p.num p.den]) p.num p.den 0:=k
   have e1:=wib (n:=(lg.length:Int)+1) (by omega) (by omega)
   have e2:((lg.length:Int)+1).toNat=lg.length+1:=by omega
   rw [cbF (by omega),e1,e2,asT (by omega),asT (by unfold room;omega),yAl hd.low (by have:=hd.n6;omega),hlg,yaU]
   rw [asT (by simp),asT (by omega)]
   cases hlg2:lg with
   | nil =>
    rw [List.isEmpty_nil,yam,asT (by simp),asT (by simp),asT (by simp),asT (by simp),asT (by simp)]
    rw [hlg2] at k
    exact k
   | cons x t =>
    rw [← hlg2,show List.isEmpty lg=false by rw [hlg2];rfl,yae,asT (by omega),asT (by simp),asT (by omega),asT (by omega),asT (by simp),asT (by omega)]
    rw [mk1 rfl]
    exact k
def ysp (l:List Ck):Bool:=l.any (fun c=>decide (c.cuts.length>60)||decide (c.dens.length>60))||decide (l.length>10)
theorem yHQ {len:Int} {cuts dens:List Int} (K:Bool→Prop):yfd len (ints cuts) (ints dens) K=K (decide (cuts.length>60)||decide (dens.length>60)):=by
 unfold yfd ymR
 rw [ybe,ybe]
 by_cases h:cuts.length>60
 ·rw [cbT (by omega),decide_eq_true h];rfl
 ·rw [cbF (by omega),decide_eq_false h,Bool.false_or]
  congr 1;rw [decide_eq_decide];omega
theorem ynJ (hl:l.length≤9223372036854775807) (K:Bool→Prop) :
  ∀ (r i n:Nat),i+r=l.length→r<n→ybY yfd (fun a=>(K a)) (fun b _ _=>(K (decide ((((List.length b):Nat):Int)>(10:Int))))) n (cks l) i =
   K ((l.drop i).any (fun c=>decide (c.cuts.length>60)||decide (c.dens.length>60))||decide (l.length>10))
 | 0,i,n+1,hi,hn=>by
  unfold ybY
  rw [ybD,cbF (by omega),qBg (by omega)]
  show K _=K (false||_)
  rw [Bool.false_or]
  congr 1;rw [decide_eq_decide];omega
 | r+1,i,n+1,hi,hn=>by
  unfold ybY
  have e1:=wib (n:=(i:Int)+1) (by omega) (by omega)
  rw [ybD,cbT (by omega),qAe,ycS (by omega),asT (by omega),asT (by omega),asCk,ck0,ck1,ck2,yHQ,yfD default (by omega),List.any_cons,e1,yhn]
  cases hb:(decide ((l.getD i default).cuts.length>60)||decide ((l.getD i default).dens.length>60)) with
  | true=>rw [yam];rfl
  | false=>rw [yae,Bool.false_or];exact ynJ hl K r (i+1) n (by omega) (by omega)
theorem yzC (hl:l.length≤9223372036854775807) (K:Bool→Prop):ydd (cks l) K=K (ysp l):=by
 refine ysh _ _ (fun K k=>?_) K
 unfold ydd yhb
 refine ⟨l.length+1,?_⟩
 have:=ynJ hl K l.length 0 (l.length+1) (by omega) (by omega)
 rw [show ((0:Nat):Int)=0 from rfl,qB2] at this
 rw [this];exact k
theorem yFD (h:ysp l=false):l.length≤10∧lowC l∧finC l:=by
 unfold ysp at h
 simp only [qB0,decide_eq_false_iff_not,List.any_eq_false,Bool.not_eq_true,Nat.not_lt] at h
 have hh:∀ i,i<l.length→(l.getD i default).cuts.length≤60∧(l.getD i default).dens.length≤60:=by
  intro i hi
  have hm:l.getD i default∈l:=by rw [qAb,qAd hi];exact List.getElem_mem hi
  have:=h.1 _ hm
  omega
 exact ⟨by omega,fun i hi=>⟨by have:=hh i hi;omega,by have:=hh i hi;omega⟩,fun i hi=>⟨by have:=hh i hi;omega,by have:=hh i hi;omega⟩⟩
theorem yHR {n d:Int} (hn:-1000000000000000000≤n∧n≤1000000000000000000) (hd:1≤d∧d≤1000000000000000000):small ((n:Rat) / (d:Rat)):=by
 have e:(n:Rat) / (d:Rat)=mkRat n d.toNat:=by
  rw [Rat.mkRat_eq_div]
  have h1:((d.toNat:Nat):Int)=d:=by omega
  have h2:((d.toNat:Nat):Rat)=(d:Rat):=by rw [← Rat.intCast_natCast,h1]
  rw [h2]
 rw [e]
 unfold small
 rw [Rat.num_mkRat,Rat.den_mkRat,if_neg (by omega),if_neg (by omega)]
 have g0:0<d.toNat.gcd n.natAbs:=Nat.gcd_pos_of_pos_left _ (by omega)
 have h1:(n / (d.toNat.gcd n.natAbs:Nat)).natAbs≤n.natAbs:=by
  rw [Int.natAbs_ediv_of_dvd,Int.natAbs_natCast]
  ·exact qA8 _ _
  ·rw [← Int.dvd_natAbs,Int.ofNat_dvd];exact Nat.gcd_dvd_right _ _
 have h2:d.toNat / d.toNat.gcd n.natAbs≤d.toNat:=qA8 _ _
 generalize n / (d.toNat.gcd n.natAbs:Nat)=x at *
 generalize d.toNat / d.toNat.gcd n.natAbs=y at *
 omega
end
theorem rne {D:Int} (h:1≤D):(D:Rat)≠0:=fun e=>by have:=Rat.intCast_eq_zero_iff.1 e;omega
section
variable {len:Int} {cuts dens:List Int}
def rem (cuts dens:List Int):Nat→Nat→Int
 | 0,_=>0
 | r+1,i=>dens.getD i 0*(cuts.getD (i+1) 0-cuts.getD i 0)+rem cuts dens r (i+1)
theorem yyE (cuts dens:List Int):∀ (r i:Nat) (s:Int),totS cuts dens r i s=s+rem cuts dens r i
 | 0,i,s=>by unfold totS rem;omega
 | r+1,i,s=>by unfold totS rem;rw [yyE cuts dens r (i+1)];omega
theorem yAm (h:VC len cuts dens):∀ (r i:Nat),i+r=dens.length→0≤rem cuts dens r i∧rem cuts dens r i≤12*(len-cuts.getD i 0)
 | 0,i,hi=>by
  have:=h.l1
  have:=h.hi (i:=i) (by omega)
  unfold rem;omega
 | r+1,i,hi=>by
  unfold rem
  have l1:=h.l1
  have h2:=h.step (i:=i) (by omega)
  have h3:=yD9 (h.den (i:=i) (by omega)) (x:=cuts.getD (i+1) 0-cuts.getD i 0) (by omega)
  have:=yAm h r (i+1) (by omega)
  omega
theorem yGv (h:VC len cuts dens):∀ (r i:Nat),i+r=dens.length→(∃ j,i≤j∧j<dens.length∧0<dens.getD j 0)→0<rem cuts dens r i
 | 0,i,hi,⟨j,h1,h2,_⟩=>by omega
 | r+1,i,hi,⟨j,h1,h2,h3⟩=>by
  unfold rem
  have l1:=h.l1
  have s:=h.step (i:=i) (by omega)
  have m:=yD9 (h.den (i:=i) (by omega)) (x:=cuts.getD (i+1) 0-cuts.getD i 0) (by omega)
  have b:=yAm h r (i+1) (by omega)
  by_cases e:j=i
  ·subst e
   have:=Int.mul_pos h3 (show 0<cuts.getD (j+1) 0-cuts.getD j 0 by omega)
   omega
  ·have:=yGv h r (i+1) (by omega) ⟨j,by omega,h2,h3⟩
   omega
theorem yEc (h:VC len cuts dens):0<totC cuts dens:=by
 unfold totC
 rw [yyE]
 obtain ⟨d,hd,h0⟩:=h.2.2.2.2.2.2.2.2.2
 obtain ⟨j,hj,e⟩:=List.mem_iff_getElem.1 hd
 have:=yGv h dens.length 0 (by omega) ⟨j,by omega,hj,by rw [qAb,qAd hj];simpa [e] using h0⟩
 omega
end
structure Qy where
 agent:Int
 kind:Int
 an:Int
 ad:Int
 bn:Int
 bd:Int
 cn:Int
 cd:Int
 deriving DecidableEq
instance:Inhabited Qy:=⟨⟨0,0,0,0,0,0,0,0⟩⟩
def encQ (q:Qy):PV:=qrow q.agent q.kind q.an q.ad q.bn q.bd q.cn q.cd
def logs (l:List Qy):List PV:=l.map encQ
theorem ylX (l:List Qy):(logs l).length=l.length:=qBc ..
theorem yAn (l:List Qy):ydC 8 (logs l)=true:=by cases l <;> rfl
theorem yEd (l m:List Qy):logs (l++m)=logs l++logs m:=List.map_append ..
structure Sp where
 a:Int
 b:Int
 c:Int
 d:Int
 deriving DecidableEq
instance:Inhabited Sp:=⟨⟨0,0,0,0⟩⟩
def encS (s:Sp):PV:=.agg [.int .i64 s.a,.int .i64 s.b,.int .i64 s.c,.int .i64 s.d]
def yeR (l:List Sp):List PV:=l.map encS
def ypu (l:List (List Sp)):List PV:=l.map fun s=>.data (yeR s)
theorem ylY (l:List Sp):(yeR l).length=l.length:=qBc ..
theorem yyF {l:List Sp} {i:Nat} (h:i<l.length):List.getD (yeR l) i .nils=encS (l.getD i default):=by
 unfold yeR
 rw [qAb,qAb,qBj,qAd h]
 rfl
theorem yyG (l:List (List Sp)):(ypu l).length=l.length:=qBc ..
theorem yHS {l:List (List Sp)} {i:Nat} (h:i<l.length):List.getD (ypu l) i .nils=.data (yeR (l.getD i [])):=by
 unfold ypu
 rw [qAb,qAb,qBj,qAd h]
 rfl
theorem asS {s:Sp} {P:Prop}:asr (conf z4 (encS s)) P=P:=rfl
theorem asD {r:List PV} {P:Prop}:asr (conf zD (.data r)) P=P:=rfl
theorem yyH {s:List Sp} (hl:s.length<4611686018427387904) (K:Bool→Prop) :
  ∀ (r i n:Nat),i+r=s.length→r<n→ydV (fun a=>(K a)) (fun _ _ _ _=>(K true)) n (yeR s) (yeR s) i=K true
 | 0,i,n+1,hi,hn=>by
  unfold ydV
  rw [ylY,cbF (by omega)]
 | r+1,i,n+1,hi,hn=>by
  unfold ydV
  have e1:=wib (n:=(i:Int)+1) (by omega) (by omega)
  rw [ylY,cbT (by omega),qAe,yyF (by omega),asT (by omega),asT (by omega),asS,asT (by omega),asT (by omega),asS,e1,yhn]
  simp only [beq_self_eq_true,Bool.and_self,qA2,yae]
  exact yyH hl K r (i+1) n (by omega) (by omega)
theorem yFE {s:List Sp} (hl:s.length<4611686018427387904) (K:Bool→Prop):ydI (yeR s) (yeR s) K=K true:=by
 refine yB5 _ _ _ (fun K k=>?_) K
 unfold ydI yo5
 rw [cnF rfl]
 refine ⟨s.length+1,?_⟩
 exact (yyH hl K s.length 0 (s.length+1) (by omega) (by omega)).mpr k
theorem yyI {l:List (List Sp)} (hf:∀ i,i<l.length→(l.getD i []).length<4611686018427387904) (hl:l.length<4611686018427387904) (K:Bool→Prop) :
  ∀ (r i n:Nat),i+r=l.length→r<n→ydW ydI (fun a=>(K a)) (fun _ _ _ _=>(K true)) n (ypu l) (ypu l) i=K true
 | 0,i,n+1,hi,hn=>by
  unfold ydW
  rw [yyG,cbF (by omega)]
 | r+1,i,n+1,hi,hn=>by
  unfold ydW
  have e1:=wib (n:=(i:Int)+1) (by omega) (by omega)
  rw [yyG,cbT (by omega),qAe,yHS (by omega),asT (by omega),asT (by omega),asD,asT (by omega),asT (by omega),asD]
  show ydI (yeR (l.getD i [])) (yeR (l.getD i [])) _=_
  rw [yFE (hf i (by omega)),qA2,yae,e1,yhn]
  exact yyI hf hl K r (i+1) n (by omega) (by omega)
theorem yFF {l:List (List Sp)} (hf:∀ i,i<l.length→(l.getD i []).length<4611686018427387904) (hl:l.length<4611686018427387904) (K:Bool→Prop):ygp (ypu l) (ypu l) K=K true:=by
 refine yB6 _ _ _ (fun K k=>?_) K
 unfold ygp yo7
 rw [cnF rfl]
 refine ⟨l.length+1,?_⟩
 exact (yyI hf hl K l.length 0 (l.length+1) (by omega) (by omega)).mpr k
def getR (e:Except Int Rat):Rat:=match e with | .ok q=>q | .error _=>0
theorem yGw {e:Except Int Rat} {q:Rat} (h:e=.ok q):e=.ok (getR e)∧getR e=q:=by subst h;exact ⟨rfl,rfl⟩
def dsC:DS:=.a [.i .i64,.s (.i .i64),.s (.i .i64)]
theorem yGx {n:Int} (h:inK .i64 n):I64 n:=by
 have e1:IntKind.i64.min=-9223372036854775808:=by decide
 have e2:IntKind.i64.max=9223372036854775807:=by decide
 unfold inK at h
 rw [e1,e2] at h
 exact h
theorem F_i {c:List PV} (h:HasF (.i .i64) c):∃ n,c=[.int .i64 n]∧I64 n:=by
 simp only [HasF] at h
 obtain ⟨n,e,k⟩:=h
 exact ⟨n,e,yGx k⟩
theorem yCr:∀ (rows:List PV),(∀ x∈rows,x.isAgg=(DS.i .i64).isA∧HasF (.i .i64) x.cells)→∃ l:List Int,rows=ints l∧∀ n∈l,I64 n
 | [],_=>⟨[],rfl,by simp⟩
 | x::r,h=>by
  obtain ⟨l,e,hl⟩:=yCr r (fun y hy=>h y (qAj _ hy))
  obtain ⟨h1,h2⟩:=h x (qAm ..)
  obtain ⟨n,e2,hn⟩:=F_i h2
  have ex:x=.int .i64 n:=by
   cases x <;> first | (simp only [PV.cells,qAs,and_true] at e2;exact e2) | (cases h1)
  refine ⟨n::l,by rw [ex,e];rfl,?_⟩
  intro m hm
  rcases qAq.1 hm with rfl | hm
  ·exact hn
  ·exact hl m hm
def Ck.i64 (c:Ck):Prop:=I64 c.len∧(∀ n∈c.cuts,I64 n)∧∀ n∈c.dens,I64 n
theorem F_c {c:List PV} (h:HasF dsC c):∃ k:Ck,c=[.int .i64 k.len,.data (ints k.cuts),.data (ints k.dens)]∧k.i64∧k.cuts.length≤9223372036854775807∧k.dens.length≤9223372036854775807:=by
 simp only [dsC,HasF,HasL] at h
 obtain ⟨c1,c2,rfl,⟨n,rfl,hn⟩,c3,c4,rfl,⟨r1,rfl,l1,h1⟩,c5,c6,rfl,⟨r2,rfl,l2,h2⟩,rfl⟩:=h
 obtain ⟨a,rfl,ha⟩:=yCr r1 (fun x hx=>⟨(h1 x hx).1,by simp only [HasF];exact (h1 x hx).2⟩)
 obtain ⟨b,rfl,hb⟩:=yCr r2 (fun x hx=>⟨(h2 x hx).1,by simp only [HasF];exact (h2 x hx).2⟩)
 rw [ybe] at l1 l2
 exact ⟨⟨n,a,b⟩,rfl,⟨yGx hn,ha,hb⟩,l1,l2⟩
theorem yLp {x:PV} {l:List DS} (h:x.isAgg=(DS.a l).isA):x=.agg x.cells:=by
 cases x <;> first | rfl | cases h
theorem yJd:∀ (rows:List PV),(∀ x∈rows,x.isAgg=dsC.isA∧HasF dsC x.cells)→∃ l:List Ck,rows=cks l∧∀ c∈l,c.i64
 | [],_=>⟨[],rfl,by simp⟩
 | x::r,h=>by
  obtain ⟨l,e,hl⟩:=yJd r (fun y hy=>h y (qAj _ hy))
  obtain ⟨h1,h2⟩:=h x (qAm ..)
  obtain ⟨k,e2,hk,_⟩:=F_c h2
  have ex:x=encC k:=by rw [yLp h1,e2];rfl
  refine ⟨k::l,by rw [ex,e];rfl,?_⟩
  intro m hm
  rcases qAq.1 hm with rfl | hm
  ·exact hk
  ·exact hl m hm
theorem yLR {c:List PV} (h:HasF (.s dsC) c):∃ l:List Ck,c=[.data (cks l)]∧l.length≤9223372036854775807∧∀ k∈l,k.i64:=by
 simp only [HasF] at h
 obtain ⟨rows,rfl,hl,hr⟩:=h
 obtain ⟨l,rfl,hi⟩:=yJd rows hr
 rw [ybD] at hl
 exact ⟨l,rfl,hl,hi⟩
theorem yHT {x y:PV} (h:x.isAgg=false) (e:x.cells=[y]):x=y:=by
 cases x <;> first | (simp only [PV.cells,qAs,and_true] at e;exact e) | cases h
theorem yLS {az:List PV} (h:ysT [.s dsC] az):∃ (l:List Ck),az=[.data (cks l)]∧l.length≤9223372036854775807∧∀ k∈l,k.i64:=by
 simp only [ysT] at h
 obtain ⟨x,r,rfl,x1,x2,rfl⟩:=h
 obtain ⟨l,e1,hl,hi⟩:=yLR x2
 rw [yHT x1 e1]
 exact ⟨l,rfl,hl,hi⟩
section
variable {l:List Ck}
def nts (r:List Nat):List PV:=ints (r.map fun n:Nat=>(n:Int))
theorem yGy (r:List Nat):(nts r).length=r.length:=by unfold nts;rw [ybe,qBc]
theorem yLq {r:List Nat} {i:Nat} (h:i<r.length):List.getD (nts r) i .nils=.int .i64 (r.getD i 0):=by
 unfold nts
 rw [yCg (by rw [qBc];exact h)]
 rw [qAb,qBj,qAd h,qAb,qAd h]
 rfl
end
end Go.Pf.Vc
namespace Go.Pf.Vc
abbrev RS:Type:=Rat×Rat
def inS (s:RS) (p:Rat):Prop:=s.1≤p∧p<s.2
def memP (l:List RS) (p:Rat):Prop:=∃ s∈l,inS s p
def ynK:List RS→Prop
 | []=>True
 | s::r=>s.1<s.2∧(∀ t∈r,s.2<t.1)∧ynK r
theorem yEe {p:Rat}:¬memP [] p:=fun ⟨s,h,_⟩=>by cases h
theorem ycs {s:RS} {r:List RS} {p:Rat}:memP (s::r) p↔inS s p∨memP r p:=by
 constructor
 ·rintro ⟨t,h,hp⟩
  rcases qAq.1 h with rfl | h
  ·exact .inl hp
  ·exact .inr ⟨t,h,hp⟩
 ·rintro (h | ⟨t,h,hp⟩)
  ·exact ⟨s,qAm,h⟩
  ·exact ⟨t,qAj _ h,hp⟩
theorem yAo {s:RS} {r:List RS} (h:ynK (s::r)) {p:Rat} (hp:memP (s::r) p):s.1≤p:=by
 obtain ⟨h1,h2,_⟩:=h
 rcases ycs.1 hp with h | ⟨t,h,hp,_⟩
 ·exact h.1
 ·have:=h2 t h
  grind
theorem ysq {s:RS} {r:List RS} (h:ynK (s::r)) {p:Rat} (hp:memP r p):s.2<p:=by
 obtain ⟨t,ht,h1,_⟩:=hp
 have:=h.2.1 t ht
 grind
theorem ynf {s:RS} {r:List RS} (h:ynK (s::r)):memP (s::r) s.1:=ycs.2 (.inl ⟨qBb,h.1⟩)
theorem yiZ:∀ (a b:List RS),ynK a→ynK b→(∀ p,memP a p↔memP b p)→a=b
 | [],[],_,_,_=>rfl
 | [],t::b,_,hb,h=>(yEe ((h t.1).2 (ynf hb))).elim
 | s::a,[],ha,_,h=>(yEe ((h s.1).1 (ynf ha))).elim
 | s::a,t::b,ha,hb,h=>by
  have e1:s.1=t.1:=by
   have h1:=yAo hb ((h s.1).1 (ynf ha))
   have h2:=yAo ha ((h t.1).2 (ynf hb))
   grind
  have key:∀ (s t:RS) (a b:List RS),ynK (s::a)→ynK (t::b)→s.1=t.1→(∀ p,memP (s::a) p↔memP (t::b) p)→¬s.2<t.2:=by
   intro s t a b ha hb e h hlt
   have h1:=(h s.2).2 (ycs.2 (.inl ⟨by have:=ha.1;grind,hlt⟩))
   rcases ycs.1 h1 with h2 | h2
   ·have:=h2.2;grind
   ·have:=ysq ha h2;grind
  have e2:s.2=t.2:=by
   have h1:=key s t a b ha hb e1 h
   have h2:=key t s b a hb ha e1.symm fun p=>(h p).symm
   grind
  have e:s=t:=Prod.ext e1 e2
  subst e
  have hab:a=b:=by
   refine yiZ a b ha.2.2 hb.2.2 fun p=>⟨fun hp=>?_,fun hp=>?_⟩
   ·have h1:=ysq ha hp
    rcases ycs.1 ((h p).1 (ycs.2 (.inr hp))) with h2 | h2
    ·have:=h2.2;grind
    ·exact h2
   ·have h1:=ysq hb hp
    rcases ycs.1 ((h p).2 (ycs.2 (.inr hp))) with h2 | h2
    ·have:=h2.2;grind
    ·exact h2
  rw [hab]
def maxR (a b:Rat):Rat:=if a<b then b else a
def mrg:List RS→RS→List RS
 | [],c=>[c]
 | s::r,c=>if c.2<s.1 then c::mrg r s else mrg r (c.1,maxR c.2 s.2)
def ysr:List RS→List RS
 | []=>[]
 | s::r=>mrg r s
def yss:List RS→Prop
 | []=>True
 | s::r=>(∀ t∈r,s.1≤t.1)∧yss r
theorem yFG:∀ (r:List RS) (c:RS),c.1<c.2→(∀ s∈r,s.1<s.2)→(∀ s∈r,c.1≤s.1)→yss r→ynK (mrg r c)∧(∀ t∈mrg r c,c.1≤t.1)∧∀ p,memP (mrg r c) p↔memP (c::r) p
 | [],c,hc,_,_,_=>by
  unfold mrg
  refine ⟨⟨hc,by simp,trivial⟩,fun t h=>?_,fun p=>Iff.rfl⟩
  rw [qB1] at h
  rw [h];exact qBb
 | s::r,c,hc,hv,hl,hs=>by
  unfold mrg
  have hsv:=hv s qAm
  have hsl:=hl s qAm
  by_cases h:c.2<s.1
  ·rw [if_pos h]
   obtain ⟨i1,i2,i3⟩:=yFG r s hsv (fun t ht=>hv t (qAj _ ht)) hs.1 hs.2
   refine ⟨⟨hc,fun t ht=>by have:=i2 t ht;grind,i1⟩,fun t ht=>?_,fun p=>?_⟩
   ·rcases qAq.1 ht with rfl | ht
    ·exact qBb
    ·have:=i2 t ht;grind
   ·rw [ycs,i3 p,ycs,ycs,ycs]
  ·rw [if_neg h]
   have hm:c.2≤maxR c.2 s.2∧s.2≤maxR c.2 s.2∧(maxR c.2 s.2=c.2∨maxR c.2 s.2=s.2):=by unfold maxR;split <;> grind
   obtain ⟨i1,i2,i3⟩:=yFG r (c.1,maxR c.2 s.2) (by show c.1<maxR c.2 s.2;grind) (fun t ht=>hv t (qAj _ ht)) (fun t ht=>hl t (qAj _ ht)) hs.2
   refine ⟨i1,i2,fun p=>?_⟩
   rw [i3 p,ycs,ycs,ycs]
   have hin:inS (c.1,maxR c.2 s.2) p↔inS c p∨inS s p:=by
    unfold inS
    constructor
    ·rintro ⟨h1,h2⟩
     have h2:p<maxR c.2 s.2:=h2
     have h1:c.1≤p:=h1
     by_cases h3:p<c.2
     ·exact .inl ⟨h1,h3⟩
     ·exact .inr ⟨by grind,by grind⟩
    ·rintro (⟨h1,h2⟩ | ⟨h1,h2⟩)
     ·exact ⟨h1,by show p<maxR c.2 s.2;grind⟩
     ·exact ⟨by show c.1≤p;grind,by show p<maxR c.2 s.2;grind⟩
   rw [hin,or_assoc]
theorem yAp {l:List RS} (hv:∀ s∈l,s.1<s.2) (hs:yss l):ynK (ysr l)∧∀ p,memP (ysr l) p↔memP l p:=by
 cases l with
 | nil=>exact ⟨trivial,fun p=>Iff.rfl⟩
 | cons s r =>
  obtain ⟨i1,_,i3⟩:=yFG r s (hv s qAm) (fun t ht=>hv t (qAj _ ht)) hs.1 hs.2
  exact ⟨i1,i3⟩
def minR (a b:Rat):Rat:=if a<b then a else b
theorem yeS (a b:Rat):a≤maxR a b∧b≤maxR a b∧(maxR a b=a∨maxR a b=b):=by unfold maxR;split <;> grind
theorem ygb (a b:Rat):minR a b≤a∧minR a b≤b∧(minR a b=a∨minR a b=b):=by unfold minR;split <;> grind
end Go.Pf.Vc
namespace Go.Pf.Vc
open Go Go.Pf
def Sp.rs (s:Sp):RS:=(rt s.a s.b,rt s.c s.d)
def Sp.ok (s:Sp):Prop:=RV s.a s.b∧RV s.c s.d∧rt s.a s.b<rt s.c s.d
instance (s:Sp):Decidable s.ok:=by unfold Sp.ok;infer_instance
def Sp.i64 (s:Sp):Prop:=I64 s.a∧I64 s.b∧I64 s.c∧I64 s.d
theorem yyJ {q r:Rat} (hq:small q) (hr:small r) (K:Int→Prop):ycu q.num q.den r.num r.den K=K (cmpQ q r):=by
 unfold ycu yjF
 rw [yCl hq hr]
theorem yJe {a b c d:Int} (h:RV a b) (k:RV c d) (K:Int→Prop):ycu a b c d K=K (cmpQ (rt a b) (rt c d)):=by
 obtain ⟨h1,h2,h3⟩:=yjU h
 obtain ⟨k1,k2,k3⟩:=yjU k
 have:=yyJ h1 k1 K
 rw [h2,h3,k2,k3] at this
 exact this
theorem yJf (q r:Rat):decide (cmpQ q r<0)=decide (q<r):=by
 unfold cmpQ
 by_cases h:q<r
 ·rw [if_pos h];simp [h]
 ·rw [if_neg h]
  split <;> simp [h]
theorem yGz (q r:Rat):decide (cmpQ q r≤0)=!decide (r<q):=by
 unfold cmpQ
 by_cases h:q<r
 ·have:¬r<q:=by grind
  rw [if_pos h];simp [this]
 ·rw [if_neg h]
  by_cases h2:r<q
  ·rw [if_pos h2];simp [h2]
  ·rw [if_neg h2];simp [h2]
theorem yJg {s:Sp} (h:s.i64) (K:Bool→Prop):ycb s.a s.b s.c s.d K=K (decide s.ok):=by
 refine ywc _ _ _ _ _ (fun K k=>?_) K
 unfold ycb yjE
 refine yIO h.1 h.2.1 h.2.2.1 h.2.2.2 ?_
 by_cases h1:RV s.a s.b
 ·by_cases h2:RV s.c s.d
  ·have e:chk2 s.a s.b s.c s.d=0:=ycM.2 ⟨h1,h2⟩
   obtain ⟨_,n1,n2⟩:=yjU h1
   obtain ⟨_,n3,n4⟩:=yjU h2
   have e2:=yGo (rt s.a s.b) (rt s.c s.d)
   rw [n1,n2,n3,n4] at e2
   rw [e,if_pos rfl,ceT rfl,e2,yJf]
   have e3:decide s.ok=decide (rt s.a s.b<rt s.c s.d):=by rw [decide_eq_decide];exact ⟨fun k=>k.2.2,fun k=>⟨h1,h2,k⟩⟩
   rw [← e3];exact k
  ·have e:chk2 s.a s.b s.c s.d≠0:=fun e=>h2 (ycM.1 e).2
   rw [ceF e]
   have e3:decide s.ok=false:=decide_eq_false fun k=>h2 k.2.1
   rw [← e3];exact k
 ·have e:chk2 s.a s.b s.c s.d≠0:=fun e=>h1 (ycM.1 e).1
  rw [ceF e]
  have e3:decide s.ok=false:=decide_eq_false fun k=>h1 k.1
  rw [← e3];exact k
theorem asSp {s:Sp} {P:Prop}:asr (conf z4 (encS s)) P=P:=rfl
def yyK (l:List Sp):Bool:=l.all fun s=>decide s.ok
theorem yJh {l:List Sp} (h64:∀ s∈l,s.i64) (hl:l.length<4611686018427387904) :
  ∀ x0 x1,∀ (r i n:Nat),i+r=l.length→r<n→ydn ycb x0 x1 n (yeR l) l.length i=if yyK (l.drop i) then x1 (yeR l) l.length l.length false else x0 8:=by
 intro x0 x1 r
 induction r with
 | zero =>
  intro i n hi hn
  obtain ⟨n,rfl⟩:∃ m,n=m+1:=⟨n-1,by omega⟩
  obtain rfl:i=l.length:=by omega
  rw [ydn,cbF (by omega),List.drop_length]
  rfl
 | succ r ih =>
  intro i n hi hn
  obtain ⟨n,rfl⟩:∃ m,n=m+1:=⟨n-1,by omega⟩
  have hil:i<l.length:=by omega
  have e1:=wib (n:=(i:Int)+1) (by omega) (by omega)
  have hm:l.getD i default∈l:=by
   rw [qAb,qAd hil]
   exact List.getElem_mem hil
  have hd:yyK (l.drop i)=(decide (l.getD i default).ok&&yyK (l.drop (i+1))):=by
   rw [yfD default hil];rfl
  rw [ydn,cbT (by omega),asT (by omega),ylY,asT (by omega),qAe,yyF hil,asSp,e1,yhn]
  change ycb (l.getD i default).a (l.getD i default).b (l.getD i default).c (l.getD i default).d _=_
  rw [yJg (h64 _ hm),hd]
  cases hv:decide (l.getD i default).ok with
  | true =>
   rw [show (!true)=false from rfl,yae,qBq]
   exact ih (i+1) n (by omega) (by omega)
  | false =>
   rw [show (!false)=true from rfl,yam,qB4]
   rfl
def allE (l:List Sp):Int:=if l.length>60 then 4 else if yyK l then 0 else 8
theorem yLr {l:List Sp} (h64:∀ s∈l,s.i64) (hl:l.length<4611686018427387904) (K:Int→Prop):ygC (yeR l) K=K (allE l):=by
 refine yzm _ _ (fun K k=>?_) K
 unfold ygC ymE
 unfold allE at k
 rw [ylY]
 by_cases h:l.length>60
 ·rw [cbT (by omega)];rw [if_pos h] at k;exact k
 ·rw [cbF (by omega)]
  rw [if_neg h] at k
  refine ⟨l.length+1,?_⟩
  refine (yJh h64 hl _ _ l.length 0 (l.length+1) (by omega) (by omega)).mpr ?_
  rw [qB2]
  split
  ·rename_i h2;rw [if_pos h2] at k;exact k
  ·rename_i h2;rw [if_neg h2] at k;exact k
def rsL (l:List Sp):List RS:=l.map Sp.rs
theorem yHU {l:List Sp} (h:allE l=0):l.length≤60∧∀ s∈l,s.ok:=by
 unfold allE at h
 split at h
 ·cases h
 ·split at h
  ·rename_i h1 h2
   exact ⟨by omega,fun s hs=>by simpa using List.all_eq_true.1 h2 s hs⟩
  ·cases h
theorem yHV {q r:Rat} (hq:small q) (hr:small r):small (maxR q r):=by unfold maxR;split <;> assumption
end Go.Pf.Vc
namespace Go.Pf.Vc
open Go Go.Pf Go.Sort
theorem ywL {n d:Int}:rvB n d=true↔RV n d:=by
 unfold rvB RV
 simp only [qAc,decide_eq_true_eq]
theorem yKl {a b c d:Int} (h:RV a b) (k:RV c d):cmpI a b c d<0↔rt a b<rt c d:=by
 obtain ⟨_,h2,h3⟩:=yjU h
 obtain ⟨_,k2,k3⟩:=yjU k
 rw [Rat.lt_iff,h2,h3,k2,k3]
 unfold cmpI
 by_cases h:a*d<c*b
 ·rw [if_pos h];simp [h]
 ·rw [if_neg h]
  split <;> simp [h]
def yJi:PV→Rat
 | .agg (.int _ a::.int _ b::_)=>rt a b
 | _=>0
theorem ytX {x y:PV} (hx:yri x=true) (hy:yri y=true):ynt x y<0↔yJi x<yJi y:=by
 unfold yri at hx hy
 split at hx
 ·split at hy
  ·simp only [ynt,yJi]
   exact yKl (ywL.1 hx) (ywL.1 hy)
  ·cases hy
 ·cases hx
theorem ykI {n g:Nat} (x:(ykf n g).s.El):yri x.1=true:=by
 have:=x.2
 simp only [Srt.gd,qAc] at this
 exact this.2
theorem yFH (n g:Nat):SWO (fun x y:(ykf n g).s.El=>decide ((ykf n g).cf x y<0)) where
 irrefl x:=by
  have:=ytX (ykI x) (ykI x)
  show decide (ynt x.1 x.1<0)=false
  rw [decide_eq_false_iff_not,this]
  exact Rat.lt_irrefl
 trans x y z h1 h2:=by
  have h1:decide (ynt x.1 y.1<0)=true:=h1
  have h2:decide (ynt y.1 z.1<0)=true:=h2
  show decide (ynt x.1 z.1<0)=true
  rw [decide_eq_true_eq,ytX (ykI _) (ykI _)] at *
  grind
 ntrans x y z h1 h2:=by
  have h1:decide (ynt x.1 y.1<0)=false:=h1
  have h2:decide (ynt y.1 z.1<0)=false:=h2
  show decide (ynt x.1 z.1<0)=false
  rw [decide_eq_false_iff_not,ytX (ykI _) (ykI _)] at *
  grind
theorem yve {s:Srt}:∀ {l:List PV},(∀ x∈l,s.gd x=true)→∃ d,s.rows? l=some d
 | [],_=>⟨[],rfl⟩
 | x::r,h=>by
  obtain ⟨d,hd⟩:=yve (s:=s) (l:=r) fun y hy=>h y (qAj _ hy)
  refine ⟨⟨x,h x qAm⟩::d,?_⟩
  simp only [Srt.rows?]
  rw [dif_pos (h x qAm),hd]
theorem RV.i1 {n d:Int} (h:RV n d):I64 n:=by obtain ⟨h1,h2,h3,h4,_⟩:=h;exact ⟨by omega,by omega⟩
theorem RV.i2 {n d:Int} (h:RV n d):I64 d:=by obtain ⟨h1,h2,h3,h4,_⟩:=h;exact ⟨by omega,by omega⟩
theorem Sp.ok.i64 {s:Sp} (h:s.ok):s.i64:=⟨h.1.i1,h.1.i2,h.2.1.i1,h.2.1.i2⟩
theorem yJj (n g:Nat) {s:Sp} (h:s.ok):(ykf n g).s.gd (encS s)=true:=by
 obtain ⟨h1,h2,h3,h4⟩:=h.i64
 have e1:IntKind.i64.min=-9223372036854775808:=by decide
 have e2:IntKind.i64.max=9223372036854775807:=by decide
 simp only [Srt.gd,ykf,okI,encS,okL,yri,qAc,decide_eq_true_eq,e1,e2]
 unfold I64 at h1 h2 h3 h4
 exact ⟨⟨trivial,h1.1,h1.2,trivial,h2.1,h2.2,trivial,h3.1,h3.2,trivial,h4.1,h4.2,trivial⟩,ywL.2 h.1⟩
def decS:PV→Sp
 | .agg [.int _ a,.int _ b,.int _ c,.int _ d]=>⟨a,b,c,d⟩
 | _=>default
theorem yEf (s:Sp):decS (encS s)=s:=rfl
theorem yHW (n g:Nat) {l:List Sp} (h:∀ s∈l,s.ok):∃ l':List Sp,l'.Perm l∧l'.Pairwise (fun s t=>¬t.rs.1<s.rs.1)∧Srt.sorted (ykf n g).s (ykf n g).srt (yeR l)=yeR l':=by
 obtain ⟨d,hd⟩:=yve (s:=(ykf n g).s) (l:=yeR l) fun x hx=>by
  obtain ⟨s,hs,rfl⟩:=List.mem_map.1 hx
  exact yJj n g (h s hs)
 obtain ⟨d',h1,h2,h3⟩:=(ykf n g).sorted_is (yFH n g) hd
 have hv:=Srt.rows?_val hd
 have hp:(d'.map (·.1)).Perm (yeR l):=by rw [← hv];exact h1.map _
 have hm:∀ x∈d'.map (·.1),∃ s∈l,encS s=x:=fun x hx=>List.mem_map.1 (hp.mem_iff.1 hx)
 refine ⟨(d'.map (·.1)).map decS,?_,?_,?_⟩
 ·have this:(List.map decS (d'.map (·.1))).Perm (List.map decS (l.map encS)):=hp.map decS
  have e:List.map decS (l.map encS)=l:=by rw [List.map_map,show decS ∘ encS=id from funext yEf,List.map_id]
  rw [e] at this
  exact this
 ·rw [List.map_map,List.pairwise_map]
  refine h2.imp_of_mem fun {x y} hx hy hxy=>?_
  have hxy:¬ynt y.1 x.1<0:=hxy
  rw [ytX (ykI _) (ykI _)] at hxy
  obtain ⟨s,_,es⟩:=hm x.1 (List.mem_map_of_mem hx)
  obtain ⟨t,_,et⟩:=hm y.1 (List.mem_map_of_mem hy)
  show ¬(decS y.1).rs.1<(decS x.1).rs.1
  rw [← es,← et] at hxy ⊢
  exact hxy
 ·rw [h3]
  have key:∀ (xs:List PV),(∀ x∈xs,∃ s∈l,encS s=x)→(xs.map decS).map encS=xs:=by
   intro xs
   induction xs with
   | nil=>intro _;rfl
   | cons x r ih =>
    intro h
    obtain ⟨s,_,es⟩:=h x qAm
    rw [qBy,qBy,ih fun y hy=>h y (qAj _ hy),← es,yEf]
  exact (key _ hm).symm
end Go.Pf.Vc
namespace Go.Pf.Vc
open Go Go.Pf
def spOf (r:RS):Sp:=⟨r.1.num,r.1.den,r.2.num,r.2.den⟩
def rsp (l:List RS):List PV:=yeR (l.map spOf)
def ycT (r:RS):Prop:=small r.1∧small r.2
theorem yng (l:List RS):(rsp l).length=l.length:=by unfold rsp;rw [ylY,qBc]
def encR (r:RS):PV:=encS (spOf r)
theorem yLs {l:List RS} {i:Nat} (h:i<l.length):List.getD (rsp l) i .nils=encR (l.getD i default):=by
 unfold rsp
 rw [yyF (by rw [qBc];exact h)]
 unfold encR
 congr 1
 rw [qAb,qAb,qBj,qAd h]
 rfl
theorem yKF (r:RS):yaa (yab (encR r) 0)=r.1.num:=rfl
theorem yKG (r:RS):yaa (yab (encR r) 1)=r.1.den:=rfl
theorem yKH (r:RS):yaa (yab (encR r) 2)=r.2.num:=rfl
theorem yKI (r:RS):yaa (yab (encR r) 3)=r.2.den:=rfl
theorem asR (r:RS) (P:Prop):asr (conf z4 (encR r)) P=P:=rfl
theorem yGA (r:RS):([.agg [.int .i64 r.1.num,.int .i64 r.1.den,.int .i64 r.2.num,.int .i64 r.2.den]]:List PV)=rsp [r]:=rfl
theorem yKm (a b:List RS):rsp a++rsp b=rsp (a++b):=by unfold rsp yeR;rw [List.map_append,List.map_append]
theorem yKn (l:List RS) (i:Nat) (r:RS):List.set (rsp l) i (.agg [.int .i64 r.1.num,.int .i64 r.1.den,.int .i64 r.2.num,.int .i64 r.2.den])=rsp (l.set i r):=by
 unfold rsp yeR
 rw [List.map_set,List.map_set]
 rfl
theorem asE {α:Type} [DecidableEq α] (a:α) (P:Prop):asr (decide (a=a)) P=P:=by rw [decide_eq_true rfl,yaU]
theorem asNo {c:Prop} [Decidable c] {P:Prop} (h:¬c):asr (!decide c) P=P:=by rw [decide_eq_false h];rfl
theorem yKo {α:Type} {acc:List α} {c d:α} {i:Nat} (h:i=acc.length):(acc++[c]).getD i d=c:=by
 subst h
 rw [qAb,List.getElem?_append_right (qAi _),Nat.sub_self]
 rfl
theorem yJk {α:Type} {acc:List α} {c d:α} {i:Nat} (h:i=acc.length):(acc++[c]).set i d=acc++[d]:=by
 subst h
 rw [List.set_append_right _ _ (qAi _),Nat.sub_self]
 rfl
theorem yFI {l:List RS} (h:∀ s∈l,ycT s) {i:Nat} (hi:i<l.length):ycT (l.getD i default):=by
 rw [qAb,qAd hi]
 exact h _ (List.getElem_mem hi)
theorem yEg {l:List RS} (hs:∀ s∈l,ycT s) (hl:l.length<1000000) {x0:Int→Int→Bool→Prop} {x1:List PV→Int→Int→Bool→Prop} {x2:List PV→List PV→Int→Int→Bool→Prop} :
  ∀ (r i n:Nat) (acc:List RS) (c:RS),i+r=l.length→r<n→acc.length<i→ycT c →
   ybT ycu x0 x1 x2 n (rsp l) (rsp (acc++[c])) (l.length:Int) (i:Int)=x2 (rsp l) (rsp (acc++mrg (l.drop i) c)) (l.length:Int) (l.length:Int) false:=by
 intro r
 induction r with
 | zero =>
  intro i n acc c hi hn ha hc
  obtain ⟨n,rfl⟩:∃ m,n=m+1:=⟨n-1,by omega⟩
  obtain rfl:i=l.length:=by omega
  rw [ybT,cbF (by omega),List.drop_length]
  rfl
 | succ r ih =>
  intro i n acc c hi hn ha hc
  obtain ⟨n,rfl⟩:∃ m,n=m+1:=⟨n-1,by omega⟩
  have hil:i<l.length:=by omega
  have e1:=wib (n:=(i:Int)+1) (by omega) (by omega)
  have hal:(acc++[c]).length=acc.length+1:=by simp
  have e2:=wib (n:=((acc.length+1:Nat):Int)-1) (by omega) (by omega)
  have e3:((acc.length+1:Nat):Int)-1=(acc.length:Int):=by omega
  rw [e3] at e2
  have hsi:=yFI hs hil
  have hd:l.drop i=l.getD i default::l.drop (i+1):=yfD default hil
  generalize hx:l.getD i default=x at hd hsi
  rw [ybT,cbT (by omega)]
  dsimp only [lt,Go.Pf.jn]
  simp (discharger:=omega) only [yng,hal,qAe,qBh,asT,yLs,hx,asR,yKF,yKG,yKH,yKI,cbT,e3,e2,e1,yKo,asNo,decide_true,qBq,yaU]
  rw [yyJ hsi.1 hc.2,yGz,hd]
  unfold mrg
  by_cases h:c.2<x.1
  ·rw [decide_eq_true h,if_pos h,qA2,yae,asT (by show _≤35184372088832;omega),yGA x,yKm,yhn]
   have:=ih (i+1) n (acc++[c]) x (by omega) (by omega) (by simp;omega) hsi
   rw [this,qBe]
   rfl
  ·rw [decide_eq_false h,if_neg h,qBn,yam,yyJ hsi.2 hc.2]
   have e4:decide (cmpQ x.2 c.2>0)=decide (c.2<x.2):=by
    have:=yGz x.2 c.2
    rw [show decide (cmpQ x.2 c.2>0)=!decide (cmpQ x.2 c.2≤0) by rw [← decide_not];simp,this,Bool.not_not]
   rw [e4]
   unfold maxR
   by_cases h2:c.2<x.2
   ·have e5:List.set (rsp (acc++[c])) acc.length (.agg [.int .i64 c.1.num,.int .i64 c.1.den,.int .i64 x.2.num,.int .i64 x.2.den])=rsp (acc++[(c.1,x.2)]):=by
     rw [yKn _ _ (c.1,x.2),yJk rfl]
    rw [decide_eq_true h2,if_pos h2,yam,e5,yng,show (acc++[(c.1,x.2)]).length=acc.length+1 by simp]
    simp only [decide_true,qBq,yaU,yhn]
    exact ih (i+1) n acc (c.1,x.2) (by omega) (by omega) (by omega) ⟨hc.1,hsi.2⟩
   ·rw [decide_eq_false h2,if_neg h2,yae,yhn]
    exact ih (i+1) n acc c (by omega) (by omega) (by omega) hc
theorem yKp {s:Sp} (h:s.ok):spOf s.rs=s:=by
 obtain ⟨_,h2,h3⟩:=yjU h.1
 obtain ⟨_,k2,k3⟩:=yjU h.2.1
 unfold spOf Sp.rs
 cases s
 simp only at h2 h3 k2 k3 ⊢
 rw [h2,h3,k2,k3]
theorem yGB {r:RS} (_:ycT r):(spOf r).rs=r:=by
 show (rt r.1.num r.1.den,rt r.2.num r.2.den)=r
 rw [yeQ,yeQ]
theorem ywM {r:RS} (h:ycT r) (hv:r.1<r.2):(spOf r).ok:=⟨h.1.rv,h.2.rv,by
 show rt r.1.num r.1.den<rt r.2.num r.2.den
 rw [yeQ,yeQ];exact hv⟩
theorem yJl {s:Sp} (h:s.ok):ycT s.rs:=⟨(yjU h.1).1,(yjU h.2.1).1⟩
theorem yAq {l:List Sp} (h:∀ s∈l,s.ok):yeR l=rsp (rsL l):=by
 unfold rsp rsL
 rw [List.map_map]
 congr 1
 conv=>lhs;rw [← List.map_id l]
 exact List.map_congr_left fun s hs=>(yKp (h s hs)).symm
theorem yAr:∀ {l:List RS},l.Pairwise (fun s t=>¬t.1<s.1)→yss l
 | [],_=>trivial
 | s::r,h=>by
  rw [List.pairwise_cons] at h
  exact ⟨fun t ht=>by have:=h.1 t ht;grind,yAr h.2⟩
theorem yHX {l:List RS} (hs:∀ s∈l,ycT s) (hv:∀ s∈l,s.1<s.2) (hl:l.length<100000):∃ l':List RS,l'.Perm l∧yss l'∧∀ K,ydU (rsp l) K=K (rsp (ysr l')):=by
 obtain ⟨m,h1,h2,h3⟩:=yHW ybp yc7 (l:=l.map spOf) (fun s h=>by
  obtain ⟨r,hr,rfl⟩:=List.mem_map.1 h
  exact ywM (hs r hr) (hv r hr))
 have hm:∀ s∈m,s.ok:=fun s h=>by
  obtain ⟨r,hr,rfl⟩:=List.mem_map.1 (h1.mem_iff.1 h)
  exact ywM (hs r hr) (hv r hr)
 have hp:(rsL m).Perm l:=by
  have:=h1.map Sp.rs
  rw [List.map_map] at this
  have e:l.map (Sp.rs ∘ spOf)=l:=by
   conv=>rhs;rw [← List.map_id l]
   exact List.map_congr_left fun r hr=>yGB (hs r hr)
  rw [e] at this
  exact this
 have hb:yss (rsL m):=yAr (List.pairwise_map.2 h2)
 refine ⟨rsL m,hp,hb,fun K=>?_⟩
 refine yuO _ _ (fun K k=>?_) K
 unfold ydU yis
 have hlen:(rsL m).length=l.length:=hp.length_eq
 have hc:yea 4 32 (rsp l)=true:=by
  unfold yea
  rw [qAc,decide_eq_true_eq,yng]
  refine ⟨?_,by show _≤35184372088832;omega⟩
  cases l <;> rfl
 rw [hc,yaU]
 cases l with
 | nil =>
  have e:rsL m=[]:=qBk (by rw [hlen];rfl)
  rw [e] at k
  exact ⟨1,k⟩
 | cons x r =>
  rw [show List.isEmpty (rsp (x::r))=false from rfl,yae]
  have hsm:ycT x:=hs x qAm
  have hd:∃ d,(yrQ).s.rows? (rsp (x::r))=some d:=yve fun y hy=>by
   obtain ⟨s,h4,rfl⟩:=List.mem_map.1 hy
   obtain ⟨q,hq,rfl⟩:=List.mem_map.1 h4
   exact yJj _ _ (ywM (hs q hq) (hv q hq))
  obtain ⟨d,hd⟩:=hd
  have hcond:Srt.cond yrQ.s (rsp (x::r)) 0 (rsp (x::r)).length (rsp (x::r)).length 4 false=true:=by
   unfold Srt.cond
   rw [qB2,qAu,hd,yng]
   simp only [decide_true,qBq,qBn,Option.isSome_some,Bool.and_true,qAc,decide_eq_true_eq,qBh,qAi]
   exact ⟨by simp,rfl,by omega⟩
  rw [hcond,yaU]
  have hsrt:Srt.sorted yrQ.s yrQ.srt (rsp (x::r))=rsp (rsL m):=by
   rw [show rsp (x::r)=yeR ((x::r).map spOf) from rfl,← yAq hm]
   exact h3
  rw [List.take_zero,qB2,qAu,hsrt,List.nil_append,qBh,List.drop_length,List.append_nil,yng,yng,hlen]
  simp only [decide_true,qBq,yaU]
  have hms:∀ s∈rsL m,ycT s:=fun s h=>hs s (hp.mem_iff.1 h)
  cases hq:rsL m with
  | nil=>rw [hq] at hlen;cases hlen
  | cons y t =>
   rw [hq] at k hms hlen
   refine ⟨(y::t).length+2,?_⟩
   have hy:ycT y:=hms y qAm
   rw [ygg,cbT (by simp only [qAn];omega)]
   dsimp only [lt,Go.Pf.jn]
   have e1:IntKind.i64.wrap ((0:Int)+1)=((1:Nat):Int):=by decide
   have e2:(rsp (y::t)).length=(x::r).length:=by rw [yng,hlen]
   have e3:List.getD (rsp (y::t)) (0+(0:Int).toNat) .nils=encR y:=rfl
   rw [asT (by omega),asT (by rw [e2];simp only [qAn];omega),asE,asT (by rw [e2];simp),e3,asR,yKF,yKG,yKH,yKI,e1,yGA,← hlen]
   rw [show (rsp [y]).length=1 from rfl]
   simp only [decide_true,qBq,yaU]
   have:=yEg hms (by rw [hlen];omega) (x0:=fun b c f=>K ([]:List PV)) (x1:=fun g i j n=>K ([]:List PV))
    (x2:=fun o a p u v=>asr (decide ((0+(List.length a))≤(List.length a))) (K (List.take (List.length a) a)))
    t.length 1 ((y::t).length+1) [] y (by simp only [qAn];omega) (by simp only [qAn];omega) (by simp) hy
   rw [List.nil_append] at this
   refine this.mpr ?_
   rw [asT (by omega),qAu]
   exact k
theorem yJm {a b c d:Int} (h:RV a b) (k:RV c d) (K:Bool→Prop):yaG a b c d K=K (decide (rt a b<rt c d)):=by
 obtain ⟨h1,h2,h3⟩:=yjU h
 obtain ⟨k1,k2,k3⟩:=yjU k
 have:=yd0 h1 k1 K
 rw [h2,h3,k2,k3] at this
 exact this
theorem yHY {s:Sp} (h:s.i64) (K:Bool→Prop):yaS s.a s.b s.c s.d K=K (decide s.ok):=by
 unfold yaS ym4
 dsimp only [Go.Pf.jn]
 rw [ytT h.1 h.2.1 h.2.2.1 h.2.2.2]
 by_cases h1:RV s.a s.b∧RV s.c s.d
 ·rw [ceT (ycM.2 h1),yJm h1.1 h1.2]
  have e3:decide s.ok=decide (rt s.a s.b<rt s.c s.d):=by rw [decide_eq_decide];exact ⟨fun k=>k.2.2,fun k=>⟨h1.1,h1.2,k⟩⟩
  rw [e3]
 ·rw [ceF fun e=>h1 (ycM.1 e)]
  have e3:decide s.ok=false:=decide_eq_false fun k=>h1 ⟨k.1,k.2.1⟩
  rw [e3]
def encW (q:Rat):PV:=.agg [.int .i64 q.num,.int .i64 q.den]
def rts (l:List Rat):List PV:=l.map encW
theorem yCs (l:List Rat):(rts l).length=l.length:=qBc ..
theorem yCt {l:List Rat} {i:Nat} (h:i<l.length):List.getD (rts l) i .nils=encW (l.getD i 0):=by
 unfold rts
 rw [qAb,qAb,qBj,qAd h]
 rfl
theorem yKJ (q:Rat):yaa (yab (encW q) 0)=q.num:=rfl
theorem yKK (q:Rat):yaa (yab (encW q) 1)=q.den:=rfl
theorem asW (q:Rat) (P:Prop):asr (conf z2 (encW q)) P=P:=rfl
theorem yLt {a b c d:Int} (h:RV a b) (k:RV c d):cmpI a b c d=cmpQ (rt a b) (rt c d):=by
 obtain ⟨_,h2,h3⟩:=yjU h
 obtain ⟨_,k2,k3⟩:=yjU k
 unfold cmpI cmpQ
 simp only [Rat.lt_iff,h2,h3,k2,k3]
theorem yJn:∀ {cs:List PV},okL [.i64,.i64,.i64,.i64] cs=true→∃ a b c d,cs=[.int .i64 a,.int .i64 b,.int .i64 c,.int .i64 d]
 | [],h=>by cases h
 | [x],h=>by cases x <;> simp [okL] at h
 | [x,y],h=>by cases x <;> cases y <;> simp [okL] at h
 | [x,y,z],h=>by cases x <;> cases y <;> cases z <;> simp [okL] at h
 | x::y::z::u::w,h=>by
  cases x <;> first | (simp [okL] at h;done) | skip
  cases y <;> first | (simp [okL] at h;done) | skip
  cases z <;> first | (simp [okL] at h;done) | skip
  cases u <;> first | (simp [okL] at h;done) | skip
  simp only [okL,qAc,decide_eq_true_eq] at h
  obtain ⟨rfl,_,_,rfl,_,_,rfl,_,_,rfl,_,_,h⟩:=h
  cases w with
  | nil=>exact ⟨_,_,_,_,rfl⟩
  | cons p q=>simp [okL] at h
theorem yKL {n g:Nat} {x:PV} (h:(ykf n g).s.gd x=true):∃ a b c d,x=.agg [.int .i64 a,.int .i64 b,.int .i64 c,.int .i64 d]∧RV a b:=by
 simp only [Srt.gd,qAc] at h
 have h1:okI [.i64,.i64,.i64,.i64] x=true:=h.1
 have h2:yri x=true:=h.2
 clear h
 cases x <;> first | (simp [okI] at h1;done) | skip
 obtain ⟨a,b,c,d,rfl⟩:=yJn (h1:okL _ _=true)
 exact ⟨a,b,c,d,rfl,ywL.1 h2⟩
theorem yEh {n g:Nat} (e:Es) (he:EG e) {x y:PV} (hx:(ykf n g).s.gd x=true) (hy:(ykf n g).s.gd y=true):Ans (E e) yc7 [x,y] (.int .i64 (ynt x y)):=by
 obtain ⟨a,b,c,d,rfl,h1⟩:=yKL hx
 obtain ⟨a',b',c',d',rfl,h2⟩:=yKL hy
 obtain ⟨r,hr,ha⟩:=yto e he [.agg [.int .i64 a,.int .i64 b,.int .i64 c,.int .i64 d],.agg [.int .i64 a',.int .i64 b',.int .i64 c',.int .i64 d']] (fun r=>r=.int .i64 (cmpI a b a' b')) (by
  show yhR a b c d a' b' c' d' (fun r=>PV.int .i64 r=.int .i64 (cmpI a b a' b'))
  unfold yhR yg5
  rw [yJe h1 h2,yLt h1 h2])
 rw [hr] at ha
 exact ha
structure Pc (l:List RS):Prop where
 c:ynK l
 s:∀ s∈l,ycT s
 n:l.length≤60
theorem yJo {l:List RS} (h:∀ s∈l,ycT s):rsL (l.map spOf)=l:=by
 induction l with
 | nil=>rfl
 | cons s r ih =>
  show (spOf s).rs::rsL (r.map spOf)=_
  rw [yGB (h s qAm),ih fun t ht=>h t (qAj _ ht)]
theorem yCu:∀ (r:List RS) (c:RS),(mrg r c).length≤r.length+1
 | [],c=>by simp [mrg]
 | s::r,c=>by
  unfold mrg
  split
  ·have:=yCu r s
   simp only [qAn];omega
  ·have:=yCu r (c.1,maxR c.2 s.2)
   simp only [qAn];omega
theorem yvf:∀ (r:List RS) (c:RS),ycT c→(∀ s∈r,ycT s)→∀ s∈mrg r c,ycT s
 | [],c,hc,_=>by simpa [mrg] using hc
 | t::r,c,hc,h=>by
  have ht:=h t qAm
  have hr:∀ s∈r,ycT s:=fun s hs=>h s (qAj _ hs)
  intro s hs
  unfold mrg at hs
  split at hs
  ·rcases qAq.1 hs with rfl | hs
   ·exact hc
   ·exact yvf r t ht hr s hs
  ·exact yvf r (c.1,maxR c.2 t.2) ⟨hc.1,yHV hc.2 ht.2⟩ hr s hs
theorem yHZ {l:List RS} (hs:∀ s∈l,ycT s) (hv:∀ s∈l,s.1<s.2) (hb:yss l) (hl:l.length≤60):Pc (ysr l):=by
 refine ⟨(yAp hv hb).1,?_,?_⟩
 ·cases l with
  | nil=>simp [ysr]
  | cons s r=>exact yvf r s (hs s qAm) fun t ht=>hs t (qAj _ ht)
 ·cases l with
  | nil=>simp [ysr]
  | cons s r =>
   have:=yCu r s
   show (mrg r s).length≤60
   simp only [qAn] at hl;omega
theorem yFJ {a b:List RS} (h:∀ s,s∈a↔s∈b) (p:Rat):memP a p↔memP b p :=
 ⟨fun ⟨s,hs,hp⟩=>⟨s,(h s).1 hs,hp⟩,fun ⟨s,hs,hp⟩=>⟨s,(h s).2 hs,hp⟩⟩
theorem yH0 {l:List Sp} (h64:∀ s∈l,s.i64) (h0:allE l=0):∃ m,Pc m∧(∀ p,memP m p↔memP (rsL l) p)∧∀ K,yaj (yeR l) K=K (rsp m) 0:=by
 obtain ⟨h1,h2⟩:=yHU h0
 have hs:∀ s∈rsL l,ycT s:=fun s hs=>by obtain ⟨t,ht,rfl⟩:=List.mem_map.1 hs;exact yJl (h2 t ht)
 have hv:∀ s∈rsL l,s.1<s.2:=fun s hs=>by obtain ⟨t,ht,rfl⟩:=List.mem_map.1 hs;exact (h2 t ht).2.2
 have hn:(rsL l).length=l.length:=qBc ..
 obtain ⟨l',hp,hb,hm⟩:=yHX hs hv (by omega)
 have hs':∀ s∈l',ycT s:=fun s h=>hs s (hp.mem_iff.1 h)
 have hv':∀ s∈l',s.1<s.2:=fun s h=>hv s (hp.mem_iff.1 h)
 refine ⟨ysr l',yHZ hs' hv' hb (by rw [hp.length_eq];omega),fun p=>?_,fun K=>?_⟩
 ·rw [(yAp hv' hb).2 p]
  exact yFJ (fun s=>hp.mem_iff) p
 ·unfold yaj yk1
  rw [yLr h64 (by omega),h0,yAq h2]
  show cbr false _ _=_
  rw [yae,hm]
theorem ez (P Q:Prop):cbr ((0:Int) == 0) P Q=P:=rfl
theorem yKq {L:List RS} (hs:∀ s∈L,ycT s) (hv:∀ s∈L,s.1<s.2) (hl:L.length≤60):allE (L.map spOf)=0:=by
 have h1:yyK (L.map spOf)=true:=List.all_eq_true.2 fun s h=>by
  obtain ⟨t,ht,rfl⟩:=List.mem_map.1 h
  exact decide_eq_true (ywM (hs t ht) (hv t ht))
 unfold allE
 rw [if_neg (by rw [qBc];omega),h1,if_pos rfl]
theorem yKr {L:List RS} (hs:∀ s∈L,ycT s) (hv:∀ s∈L,s.1<s.2) (hl:L.length≤60):∃ m,Pc m∧(∀ p,memP m p↔memP L p)∧∀ K,yaj (rsp L) K=K (rsp m) 0:=by
 obtain ⟨m,h1,h2,h3⟩:=yH0 (l:=L.map spOf) (fun s h=>by
  obtain ⟨t,ht,rfl⟩:=List.mem_map.1 h
  have:=hs t ht
  exact ⟨this.1.i1,this.1.i2,this.2.i1,this.2.i2⟩) (yKq hs hv hl)
 rw [yJo hs] at h2
 exact ⟨m,h1,h2,h3⟩
section
variable (V:Rat→Rat)
def dV (s:RS):Rat:=V s.2-V s.1
end
section
variable {len:Int} {cuts dens:List Int}
def uC (cuts:List Int) (i:Nat) (x:Rat):Rat:=minR (maxR x (cuts.getD i 0:Int)) (cuts.getD (i+1) 0:Int)
def vu (cuts dens:List Int) (x:Rat):Nat→Nat→Rat
 | 0,_=>0
 | r+1,i=>(dens.getD i 0:Int)*uC cuts i x+vu cuts dens x r (i+1)
theorem yyL (h:VC len cuts dens):∀ (r i:Nat) {x y:Rat},i+r=dens.length→x≤(cuts.getD i 0:Int)→y≤(cuts.getD i 0:Int)→vu cuts dens x r i=vu cuts dens y r i
 | 0,_,_,_,_,_,_=>rfl
 | r+1,i,x,y,hi,hx,hy=>by
  have l1:=h.l1
  have hst:((cuts.getD i 0:Int):Rat)<((cuts.getD (i+1) 0:Int):Rat):=Rat.intCast_lt_intCast.2 (h.step (i:=i) (by omega))
  have ih:=yyL h r (i+1) (x:=x) (y:=y) (by omega) (by grind) (by grind)
  unfold vu
  rw [ih]
  have e:uC cuts i x=uC cuts i y:=by
   unfold uC
   have a1:=yeS x (cuts.getD i 0:Int)
   have a2:=yeS y (cuts.getD i 0:Int)
   have e1:maxR x (cuts.getD i 0:Int)=(cuts.getD i 0:Int):=by grind
   have e2:maxR y (cuts.getD i 0:Int)=(cuts.getD i 0:Int):=by grind
   rw [e1,e2]
  rw [e]
theorem ykJ {α:Type} {q:Rat} {k:Rat→Except Int α} {v:α} (h:fit q k=.ok v):k q=.ok v:=by
 unfold fit at h
 split at h
 ·exact h
 ·cases h
theorem ywN (h:VC len cuts dens) {b:Rat}:∀ (r i:Nat) (p sum v:Rat),i+r=dens.length→p≤b→(p=b∨((cuts.getD i 0:Int):Rat)≤p)→valS cuts dens b r i p sum=.ok v→v=sum+(vu cuts dens b r i-vu cuts dens p r i)
 | 0,i,p,sum,v,hi,hp,hc,hv=>by
  unfold valS at hv
  cases hv
  unfold vu
  grind
 | r+1,i,p,sum,v,hi,hp,hc,hv=>by
  have l1:=h.l1
  have hst:((cuts.getD i 0:Int):Rat)<((cuts.getD (i+1) 0:Int):Rat):=Rat.intCast_lt_intCast.2 (h.step (i:=i) (by omega))
  unfold valS at hv
  dsimp only at hv
  have hen:∃ en:Rat,(if b<((cuts.getD (i+1) 0:Int):Rat) then b else ((cuts.getD (i+1) 0:Int):Rat))=en∧en≤b∧en≤((cuts.getD (i+1) 0:Int):Rat)∧(en=b∨en=((cuts.getD (i+1) 0:Int):Rat)):=by
   refine ⟨_,rfl,?_⟩
   split <;> grind
  obtain ⟨en,e0,he1,he2,he3⟩:=hen
  rw [e0] at hv
  have low:=yyL h r (i+1) (x:=en) (y:=p) (by omega)
  have m1:=yeS b (cuts.getD i 0:Int)
  have m2:=yeS p (cuts.getD i 0:Int)
  have n1:=ygb (maxR b (cuts.getD i 0:Int)) (cuts.getD (i+1) 0:Int)
  have n2:=ygb (maxR p (cuts.getD i 0:Int)) (cuts.getD (i+1) 0:Int)
  unfold vu uC
  generalize ((cuts.getD i 0:Int):Rat)=c0 at *
  generalize hc1:((cuts.getD (i+1) 0:Int):Rat)=c1 at *
  by_cases hlt:p<en
  ·have hb:minR (maxR b c0) c1=en:=by grind
   have hq:minR (maxR p c0) c1=p:=by grind
   by_cases hd:dens.getD i 0=0
   ·rw [if_pos (.inl hd),if_pos hlt] at hv
    have ih:=ywN h r (i+1) en sum v (by omega) he1 (by rw [hc1];grind) hv
    rw [ih,hd,low (by grind) (by grind)]
    grind
   ·rw [if_neg (by intro k;rcases k with k | k;exact hd k;exact k hlt)] at hv
    have hv:=ykJ (ykJ (ykJ hv))
    have ih:=ywN h r (i+1) en _ v (by omega) he1 (by rw [hc1];grind) hv
    rw [ih,low (by grind) (by grind),hb,hq]
    grind
  ·rw [if_pos (.inr hlt),if_neg hlt] at hv
   have ih:=ywN h r (i+1) p sum v (by omega) hp (by rw [hc1];grind) hv
   have:minR (maxR b c0) c1=minR (maxR p c0) c1:=by grind
   rw [ih,this]
   grind
def vX (cuts dens:List Int) (x:Rat):Rat:=vu cuts dens x dens.length 0
theorem yKs (h:VC len cuts dens) {a b v:Rat} (h0:0≤a) (hab:a≤b) (hv:valC cuts dens a b=.ok v):v=vX cuts dens b-vX cuts dens a:=by
 have c0:cuts.getD 0 0=0:=h.2.2.2.2.2.1
 have:=ywN h dens.length 0 a 0 v (by omega) hab (.inr (by rw [c0];exact h0)) hv
 unfold vX
 rw [this];grind
theorem yGC (h:VC len cuts dens) {i:Nat} (hi:i+1<cuts.length) {x y:Rat} (hxy:x≤y):uC cuts i x≤uC cuts i y:=by
 have hst:((cuts.getD i 0:Int):Rat)<((cuts.getD (i+1) 0:Int):Rat):=Rat.intCast_lt_intCast.2 (h.step (i:=i) hi)
 have m1:=yeS x (cuts.getD i 0:Int)
 have m2:=yeS y (cuts.getD i 0:Int)
 have n1:=ygb (maxR x (cuts.getD i 0:Int)) (cuts.getD (i+1) 0:Int)
 have n2:=ygb (maxR y (cuts.getD i 0:Int)) (cuts.getD (i+1) 0:Int)
 unfold uC
 grind
theorem yJp (h:VC len cuts dens) {i:Nat} (hi:i<dens.length):(0:Rat)≤((dens.getD i 0:Int):Rat):=Rat.intCast_nonneg.2 (h.den hi).1
theorem yCv (h:VC len cuts dens) {x y:Rat} (hxy:x≤y):∀ (r i:Nat),i+r=dens.length→vu cuts dens x r i≤vu cuts dens y r i
 | 0,_,_=>qBb
 | r+1,i,hi=>by
  have l1:=h.l1
  have h1:=yGC h (i:=i) (by omega) hxy
  have h2:=yCv h hxy r (i+1) (by omega)
  have h3:=qB6 h1 (yJp h (i:=i) (by omega))
  unfold vu
  grind
theorem ytY (h:VC len cuts dens) {x y:Rat} (hxy:x≤y):vX cuts dens x≤vX cuts dens y:=yCv h hxy dens.length 0 (by omega)
theorem ywO (h:VC len cuts dens):∀ (r i:Nat) (p v q:Rat),i+r=dens.length→0<v→((cuts.getD i 0:Int):Rat)≤p→mrkS cuts dens r i p v=.ok q →
  vu cuts dens q r i-vu cuts dens p r i=v∧p<q∧q≤((cuts.getD dens.length 0:Int):Rat)∧∀ x,x<q→vu cuts dens x r i<vu cuts dens q r i
 | 0,_,_,_,_,_,_,_,e=>by cases e
 | r+1,i,p,v,q,hi,hv,hp,e=>by
  have l1:=h.l1
  have hst:((cuts.getD i 0:Int):Rat)<((cuts.getD (i+1) 0:Int):Rat):=Rat.intCast_lt_intCast.2 (h.step (i:=i) (by omega))
  have hd:=h.den (i:=i) (by omega)
  have hd0:=yJp h (i:=i) (by omega)
  have low:=fun {x y:Rat}=>yyL h r (i+1) (x:=x) (y:=y) (by omega)
  have hmon:=fun {x:Rat} (hx:x<q)=>yGC h (i:=i) (by omega) (qBp hx)
  have hmon2:=fun {x:Rat} (hx:x<q)=>yCv h (qBp hx) r (i+1) (by omega)
  have m1:=yeS p (cuts.getD i 0:Int)
  have m2:=yeS q (cuts.getD i 0:Int)
  have n1:=ygb (maxR p (cuts.getD i 0:Int)) (cuts.getD (i+1) 0:Int)
  have n2:=ygb (maxR q (cuts.getD i 0:Int)) (cuts.getD (i+1) 0:Int)
  unfold mrkS at e
  by_cases c1:p<((cuts.getD (i+1) 0:Int):Rat)
  case neg =>
   rw [if_pos c1] at e
   obtain ⟨a1,a2,a3,a4⟩:=ywO h r (i+1) p v q (by omega) hv (Rat.not_lt.1 c1) e
   have eq:uC cuts i q=uC cuts i p:=by unfold uC;grind
   refine ⟨by unfold vu;rw [eq];grind,a2,a3,fun x hx=>?_⟩
   have b1:=a4 x hx
   have b2:=qB6 (hmon hx) hd0
   unfold vu
   grind
  rw [if_neg (fun k=>k c1)] at e
  by_cases c2:dens.getD i 0=0
  ·rw [if_pos c2] at e
   obtain ⟨a1,a2,a3,a4⟩:=ywO h r (i+1) _ v q (by omega) hv qBb e
   have e2:=low (x:=p) (y:=((cuts.getD (i+1) 0:Int):Rat)) (qBp c1) qBb
   refine ⟨by unfold vu;rw [e2,c2];grind,by grind,a3,fun x hx=>?_⟩
   have b1:=a4 x hx
   have b2:=qB6 (hmon hx) hd0
   unfold vu
   grind
  rw [if_neg c2] at e
  have e:=ykJ (ykJ e)
  have dpos:(0:Rat)<((dens.getD i 0:Int):Rat):=Rat.intCast_pos.2 (by omega)
  have up:uC cuts i p=p:=by unfold uC;grind
  by_cases c3:(((cuts.getD (i+1) 0:Int):Rat)-p)*((dens.getD i 0:Int):Rat)<v
  ·rw [if_pos c3] at e
   have e:=ykJ e
   obtain ⟨a1,a2,a3,a4⟩:=ywO h r (i+1) _ _ q (by omega) (by grind) qBb e
   have e2:=low (x:=p) (y:=((cuts.getD (i+1) 0:Int):Rat)) (qBp c1) qBb
   have uq:uC cuts i q=((cuts.getD (i+1) 0:Int):Rat):=by unfold uC;grind
   refine ⟨by unfold vu;rw [e2,up,uq];grind,by grind,a3,fun x hx=>?_⟩
   have b1:=a4 x hx
   have b2:=qB6 (hmon hx) hd0
   unfold vu
   grind
  ·rw [if_neg c3] at e
   have e:=ykJ (ykJ e)
   cases e
   generalize hs:v / ((dens.getD i 0:Int):Rat)=s at *
   have es:s*((dens.getD i 0:Int):Rat)=v:=by rw [← hs];exact Rat.div_mul_cancel (by grind)
   have s0:0<s:=by
    refine Rat.not_le.1 fun k=>?_
    have:=Rat.mul_le_mul_of_nonneg_right k hd0
    grind
   have s1:p+s≤((cuts.getD (i+1) 0:Int):Rat):=by
    refine Rat.not_lt.1 fun k=>?_
    have:(((cuts.getD (i+1) 0:Int):Rat)-p)<s:=by grind
    have:=Rat.mul_lt_mul_of_pos_right this dpos
    grind
   have uq:uC cuts i (p+s)=p+s:=by unfold uC;grind
   have e2:=low (x:=p+s) (y:=p) s1 (qBp c1)
   have hlast:cuts.getD (i+1) 0≤cuts.getD dens.length 0:=h.mono (by omega) (by omega)
   have hlast:((cuts.getD (i+1) 0:Int):Rat)≤((cuts.getD dens.length 0:Int):Rat):=qAw.2 hlast
   refine ⟨by unfold vu;rw [e2,up,uq];grind,by grind,by grind,fun x hx=>?_⟩
   have b1:=hmon2 hx
   have ux:uC cuts i x<p+s:=by
    have k1:=yeS x (cuts.getD i 0:Int)
    have k2:=ygb (maxR x (cuts.getD i 0:Int)) (cuts.getD (i+1) 0:Int)
    unfold uC
    grind
   have b2:=Rat.mul_lt_mul_of_pos_left ux dpos
   unfold vu
   rw [uq]
   grind
theorem VC.last (h:VC len cuts dens):cuts.getD dens.length 0=len:=by
 have l1:=h.l1
 have:=h.2.2.2.2.2.2.1
 rw [show dens.length=cuts.length-1 by omega]
 exact this
theorem yKt (h:VC len cuts dens) {a v q:Rat} (h0:0≤a) (h1:a≤(len:Rat)) (hv:0≤v) (e:mrkC cuts dens a v=.ok q) :
  vX cuts dens q=vX cuts dens a+v∧a≤q∧q≤(len:Rat)∧(v=0→a=q)∧(v≠0→∀ x,x<q→vX cuts dens x<vX cuts dens q):=by
 unfold mrkC at e
 by_cases c:v=0
 ·rw [if_pos c] at e
  cases e
  rw [c]
  exact ⟨by grind,qBb,h1,fun _=>rfl,fun k=>absurd rfl k⟩
 ·rw [if_neg c] at e
  have c0:cuts.getD 0 0=0:=h.2.2.2.2.2.1
  obtain ⟨a1,a2,a3,a4⟩:=ywO h dens.length 0 a v q (by omega) (by grind) (by rw [c0];exact h0) e
  rw [h.last] at a3
  exact ⟨by unfold vX;grind,qBp a2,a3,fun k=>absurd k c,fun _=>a4⟩
end
def In (D:Int) (q:Rat):Prop:=∃ n:Int,q=(n:Rat) / (D:Rat)
theorem In.int {D:Int} (h:1≤D) (c:Int):In D (c:Rat):=⟨c*D,by rw [Rat.intCast_mul,Rat.mul_div_cancel (rne h)]⟩
theorem In.add {D:Int} {q r:Rat} (h:In D q) (k:In D r):In D (q+r):=by
 obtain ⟨n,rfl⟩:=h
 obtain ⟨m,rfl⟩:=k
 exact ⟨n+m,by rw [Rat.intCast_add];grind⟩
theorem In.sub {D:Int} {q r:Rat} (h:In D q) (k:In D r):In D (q-r):=by
 obtain ⟨n,rfl⟩:=h
 obtain ⟨m,rfl⟩:=k
 exact ⟨n-m,by rw [Rat.intCast_sub];grind⟩
theorem In.mulI {D:Int} {q:Rat} (h:In D q) (d:Int):In D (q*(d:Rat)):=by
 obtain ⟨n,rfl⟩:=h
 exact ⟨n*d,by rw [Rat.intCast_mul];grind⟩
theorem In.up {D d:Int} {q:Rat} (hD:1≤D) (hd:1≤d) (h:In D q):In (d*D) q:=by
 obtain ⟨n,rfl⟩:=h
 have h1:=rne hD
 have h2:=rne hd
 refine ⟨d*n,?_⟩
 rw [Rat.intCast_mul,Rat.intCast_mul]
 grind
theorem In.div {D d:Int} {q:Rat} (hD:1≤D) (hd:1≤d) (h:In D q):In (d*D) (q / (d:Rat)):=by
 obtain ⟨n,rfl⟩:=h
 have h1:=rne hD
 have h2:=rne hd
 refine ⟨n,?_⟩
 rw [Rat.intCast_mul]
 grind
theorem In.small {D M:Int} {q:Rat} (h:In D q) (hD:1≤D∧D≤1000000000000000000) (hM:M*D≤1000000000000000000) (h0:-(M:Rat)≤q) (h1:q≤(M:Rat)):small q:=by
 obtain ⟨n,rfl⟩:=h
 have hp:(0:Rat)<(D:Rat):=Rat.intCast_pos.2 (by omega)
 have e:(n:Rat) / (D:Rat)*(D:Rat)=(n:Rat):=Rat.div_mul_cancel (rne hD.1)
 have a:=Rat.mul_le_mul_of_nonneg_right h0 (qBp hp)
 have b:=Rat.mul_le_mul_of_nonneg_right h1 (qBp hp)
 rw [e] at a b
 have a':((-(M*D):Int):Rat)≤(n:Rat):=by rw [Rat.intCast_neg,Rat.intCast_mul];grind
 have b':(n:Rat)≤((M*D:Int):Rat):=by rw [Rat.intCast_mul];exact b
 have a2:=qAw.1 a'
 have b2:=qAw.1 b'
 exact yHR (d:=D) ⟨by omega,by omega⟩ ⟨by omega,by omega⟩
section
variable {len:Int} {cuts dens:List Int}
theorem ywP (h:VC len cuts dens) {i j:Nat} (hij:i≤j) (hj:j≤dens.length):((cuts.getD i 0:Int):Rat)≤((cuts.getD j 0:Int):Rat):=qAw.2 (h.mono hij (by have:=h.l1;omega))
theorem yLT {D:Int} (hD:1≤D) {x:Rat} (hx:In D x) (i:Nat):In D (uC cuts i x):=by
 have n1:=ygb (maxR x (cuts.getD i 0:Int)) (cuts.getD (i+1) 0:Int)
 have m1:=yeS x (cuts.getD i 0:Int)
 unfold uC
 rcases n1.2.2 with e | e
 ·rw [e]
  rcases m1.2.2 with e2 | e2
  ·rw [e2];exact hx
  ·rw [e2];exact In.int hD _
 ·rw [e];exact In.int hD _
theorem yKM {D:Int} (hD:1≤D) {x:Rat} (hx:In D x):∀ (r i:Nat),In D (vu cuts dens x r i)
 | 0,_=>In.int hD 0
 | r+1,i=>by
  unfold vu
  rw [Rat.mul_comm]
  exact ((yLT hD hx i).mulI _).add (yKM hD hx r (i+1))
theorem yKN {D:Int} (hD:1≤D) {x:Rat} (hx:In D x):In D (vX cuts dens x):=yKM hD hx _ _
theorem yJq (h:VC len cuts dens):∀ (r i:Nat),i+r=dens.length→vu cuts dens (len:Rat) r i-vu cuts dens ((cuts.getD i 0:Int):Rat) r i=((rem cuts dens r i:Int):Rat)
 | 0,_,_=>by unfold vu rem;show (0:Rat)-0=0;grind
 | r+1,i,hi=>by
  have ih:=yJq h r (i+1) (by omega)
  have hst:((cuts.getD i 0:Int):Rat)≤((cuts.getD (i+1) 0:Int):Rat):=ywP h (Nat.le_succ i) (by omega)
  have hl:((cuts.getD (i+1) 0:Int):Rat)≤(len:Rat):=by rw [← h.last];exact ywP h (by omega) (qAi _)
  have low:=yyL h r (i+1) (x:=((cuts.getD i 0:Int):Rat)) (y:=((cuts.getD (i+1) 0:Int):Rat)) (by omega) hst qBb
  have m1:=yeS (len:Rat) (cuts.getD i 0:Int)
  have n1:=ygb (maxR (len:Rat) (cuts.getD i 0:Int)) (cuts.getD (i+1) 0:Int)
  have m2:=yeS ((cuts.getD i 0:Int):Rat) (cuts.getD i 0:Int)
  have n2:=ygb (maxR ((cuts.getD i 0:Int):Rat) (cuts.getD i 0:Int)) (cuts.getD (i+1) 0:Int)
  have e1:uC cuts i (len:Rat)=((cuts.getD (i+1) 0:Int):Rat):=by unfold uC;grind
  have e2:uC cuts i ((cuts.getD i 0:Int):Rat)=((cuts.getD i 0:Int):Rat):=by unfold uC;grind
  unfold vu rem
  rw [e1,e2,low,Rat.intCast_add,Rat.intCast_mul,Rat.intCast_sub,← ih]
  grind
theorem yCw (h:VC len cuts dens):vX cuts dens (len:Rat)-vX cuts dens 0=((totC cuts dens:Int):Rat):=by
 have c0:cuts.getD 0 0=0:=h.2.2.2.2.2.1
 have:=yJq h dens.length 0 (by omega)
 rw [c0] at this
 unfold totC
 rw [yyE,show (0:Int)+rem cuts dens dens.length 0=rem cuts dens dens.length 0 by omega]
 exact this
theorem yGD (h:VC len cuts dens):(1:Rat)≤(len:Rat)∧(len:Rat)≤1000:=by
 have:=h.len0
 exact ⟨qAw.2 this.1,qAw.2 this.2⟩
theorem yGE (h:VC len cuts dens) {i:Nat} (hi:i<dens.length):(0:Rat)≤((dens.getD i 0:Int):Rat)∧((dens.getD i 0:Int):Rat)≤12:=by
 have:=h.den hi
 exact ⟨qAw.2 this.1,qAw.2 this.2⟩
theorem yGF {x d:Rat} (h0:0≤x) (hd:0≤d∧d≤12):0≤x*d∧x*d≤12*x:=by
 have a:=Rat.mul_nonneg h0 hd.1
 have b:=qB6 hd.2 h0
 exact ⟨a,by grind⟩
theorem yvg (h:VC len cuts dens) {D:Int} (hD:1≤D∧D≤50000000000000) {b:Rat} (hb:In D b) (b1:b≤(len:Rat)) :
  ∀ (r i:Nat) (p sum:Rat),i+r=dens.length→In D p→In D sum→0≤p→p≤(len:Rat)→0≤sum→sum≤12*p→∃ v,valS cuts dens b r i p sum=.ok v
 | 0,i,p,sum,_,_,_,_,_,_,_=>⟨sum,rfl⟩
 | r+1,i,p,sum,hi,hp,hs,p0,p1,s0,s1=>by
  have l1:=h.l1
  have hl:=yGD h
  have hd:=yGE h (i:=i) (by omega)
  have hc1:((cuts.getD (i+1) 0:Int):Rat)≤(len:Rat):=by rw [← h.last];exact ywP h (by omega) (qAi _)
  unfold valS
  have hen:∃ en:Rat,(if b<((cuts.getD (i+1) 0:Int):Rat) then b else ((cuts.getD (i+1) 0:Int):Rat))=en∧In D en∧en≤(len:Rat):=by
   refine ⟨_,rfl,?_,?_⟩
   ·split
    ·exact hb
    ·exact In.int hD.1 _
   ·split <;> grind
  obtain ⟨en,e0,e1,e2⟩:=hen
  rw [e0]
  dsimp only
  split
  ·refine yvg h hD hb b1 r (i+1) _ sum (by omega) ?_ hs ?_ ?_ s0 ?_
   ·split
    ·exact e1
    ·exact hp
   ·split <;> grind
   ·split <;> grind
   ·split <;> grind
  ·rename_i hn
   have hlt:p<en:=by
    refine Classical.byContradiction fun k=>hn (.inr k)
   have m:=yGF (x:=en-p) (by grind) hd
   have i1:=e1.sub hp
   have i2:=i1.mulI (dens.getD i 0)
   have i3:=hs.add i2
   rw [ygq (i1.small (M:=1000) ⟨by omega,by omega⟩ (by omega) (by show -(1000:Rat)≤_;grind) (by show _≤(1000:Rat);grind)),
    ygq (i2.small (M:=12000) ⟨by omega,by omega⟩ (by omega) (by show -(12000:Rat)≤_;grind) (by show _≤(12000:Rat);grind)),
    ygq (i3.small (M:=12000) ⟨by omega,by omega⟩ (by omega) (by show -(12000:Rat)≤_;grind) (by show _≤(12000:Rat);grind))]
   exact yvg h hD hb b1 r (i+1) en _ (by omega) e1 i3 (by grind) e2 (by grind) (by grind)
theorem yAs (h:VC len cuts dens) {D:Int} (hD:1≤D∧D≤50000000000000) {a b:Rat} (ha:In D a) (hb:In D b) (a0:0≤a) (hab:a≤b) (b1:b≤(len:Rat)):valC cuts dens a b=.ok (vX cuts dens b-vX cuts dens a):=by
 obtain ⟨v,e⟩:=yvg h hD hb b1 dens.length 0 a 0 (by omega) ha (In.int hD.1 0) a0 (by grind) (by grind) (by grind)
 have e:valC cuts dens a b=.ok v:=e
 rw [e,yKs h a0 hab e]
end
def rspL (A:List (List RS)):List PV:=A.map fun a=>.data (rsp a)
section
variable {len:Int} {cuts dens:List Int}
theorem yJr (h:VC len cuts dens) {s:RS} (hv:s.1<s.2) (hw:0≤s.1∧s.2≤(len:Rat)):0≤dV (vX cuts dens) s∧dV (vX cuts dens) s≤12000:=by
 have a:=ytY h hw.1
 have b:=ytY h hw.2
 have c:=ytY h (qBp hv)
 have t:=yCw h
 have tb:=qAw.2 (yyx h).2
 have tb:((totC cuts dens:Int):Rat)≤12000:=tb
 show 0≤vX cuts dens s.2-vX cuts dens s.1∧vX cuts dens s.2-vX cuts dens s.1≤12000
 grind
end
def QR (cs:List Ck) (q:Qy):Prop :=
 (0≤q.agent∧q.agent<cs.length)∧(I64 q.an∧I64 q.ad∧I64 q.bn∧I64 q.bd) ∧
  ∃ p:Rat,(q.cn=p.num∧q.cd=p.den) ∧
   ((q.kind=2∧mrkR (cs.getD q.agent.toNat default).len (cs.getD q.agent.toNat default).cuts (cs.getD q.agent.toNat default).dens q.an q.ad q.bn q.bd=.ok p) ∨
    (q.kind=1∧valR (cs.getD q.agent.toNat default).len (cs.getD q.agent.toNat default).cuts (cs.getD q.agent.toNat default).dens q.an q.ad q.bn q.bd=.ok p))
section
variable {len:Int} {cuts dens:List Int}
theorem ytZ (h:VC len cuts dens):∀ (r i:Nat) (p v:Rat),i+r=dens.length→((cuts.getD i 0:Int):Rat)≤p→p≤(len:Rat)→0<v→v≤vu cuts dens (len:Rat) r i-vu cuts dens p r i →
  ∀ D,1≤D→D≤1000000000000→In D p→In D v→v≤12000→∃ q d,mrkS cuts dens r i p v=.ok q∧(1≤d∧d≤12)∧In (d*D) q
 | 0,i,p,v,hi,_,_,v0,v1=>by
  unfold vu at v1
  grind
 | r+1,i,p,v,hi,hp,p1,v0,v1=>by
  intro D D1 D2 hpD hvD hv
  have l1:=h.l1
  have hl:=yGD h
  have hd:=yGE h (i:=i) (by omega)
  have hd2:=h.den (i:=i) (by omega)
  have hc0:(0:Rat)≤((cuts.getD i 0:Int):Rat):=Rat.intCast_nonneg.2 (h.lo (by omega))
  have hst:((cuts.getD i 0:Int):Rat)<((cuts.getD (i+1) 0:Int):Rat):=Rat.intCast_lt_intCast.2 (h.step (i:=i) (by omega))
  have hc1:((cuts.getD (i+1) 0:Int):Rat)≤(len:Rat):=by rw [← h.last];exact ywP h (by omega) (qAi _)
  have low:=yyL h r (i+1) (x:=p) (y:=((cuts.getD (i+1) 0:Int):Rat)) (by omega)
  have m1:=yeS p (cuts.getD i 0:Int)
  have m2:=yeS (len:Rat) (cuts.getD i 0:Int)
  have n1:=ygb (maxR p (cuts.getD i 0:Int)) (cuts.getD (i+1) 0:Int)
  have n2:=ygb (maxR (len:Rat) (cuts.getD i 0:Int)) (cuts.getD (i+1) 0:Int)
  have el:uC cuts i (len:Rat)=((cuts.getD (i+1) 0:Int):Rat):=by unfold uC;grind
  unfold vu at v1
  rw [el] at v1
  unfold mrkS
  by_cases c1:p<((cuts.getD (i+1) 0:Int):Rat)
  case neg =>
   rw [if_pos c1]
   have ep:uC cuts i p=((cuts.getD (i+1) 0:Int):Rat):=by unfold uC;grind
   rw [ep] at v1
   exact ytZ h r (i+1) p v (by omega) (Rat.not_lt.1 c1) p1 v0 (by grind) D D1 D2 hpD hvD hv
  rw [if_neg (fun k=>k c1)]
  have ep:uC cuts i p=p:=by unfold uC;grind
  rw [ep,low (qBp c1) qBb] at v1
  by_cases cz:dens.getD i 0=0
  ·rw [if_pos cz]
   rw [cz] at v1
   have e0:((0:Int):Rat)=0:=rfl
   exact ytZ h r (i+1) ((cuts.getD (i+1) 0:Int):Rat) v (by omega) qBb hc1 v0 (by grind) D D1 D2 (In.int D1 _) hvD hv
  rw [if_neg cz]
  have hd1:0<dens.getD i 0:=by omega
  have dpos:(0:Rat)<((dens.getD i 0:Int):Rat):=Rat.intCast_pos.2 hd1
  have m:=yGF (x:=((cuts.getD (i+1) 0:Int):Rat)-p) (by grind) hd
  by_cases c3:(((cuts.getD (i+1) 0:Int):Rat)-p)*((dens.getD i 0:Int):Rat)<v
  ·have i1:=(In.int D1 (cuts.getD (i+1) 0)).sub hpD
   have i2:=i1.mulI (dens.getD i 0)
   have i3:=hvD.sub i2
   rw [ygq (i1.small (M:=1000) ⟨by omega,by omega⟩ (by omega) (by show -(1000:Rat)≤_;grind) (by show _≤(1000:Rat);grind)),
    ygq (i2.small (M:=12000) ⟨by omega,by omega⟩ (by omega) (by show -(12000:Rat)≤_;grind) (by show _≤(12000:Rat);grind)),if_pos c3,
    ygq (i3.small (M:=12000) ⟨by omega,by omega⟩ (by omega) (by show -(12000:Rat)≤_;grind) (by show _≤(12000:Rat);grind))]
   exact ytZ h r (i+1) ((cuts.getD (i+1) 0:Int):Rat) (v-(((cuts.getD (i+1) 0:Int):Rat)-p)*((dens.getD i 0:Int):Rat)) (by omega) qBb hc1 (by grind) (by grind) D D1 D2 (In.int D1 _) i3 (by grind)
  ·have i1:=(In.int D1 (cuts.getD (i+1) 0)).sub hpD
   have i2:=i1.mulI (dens.getD i 0)
   have i3:=hvD.div D1 (d:=dens.getD i 0) (by omega)
   have i4:=(hpD.up D1 (d:=dens.getD i 0) (by omega)).add i3
   have hDD:dens.getD i 0*D≤12*D:=qBi hd2.2 (by omega)
   have hDD1:1*1≤dens.getD i 0*D:=qA6 (by omega) D1 (by omega) (by omega)
   generalize hs:v / ((dens.getD i 0:Int):Rat)=s at *
   have es:s*((dens.getD i 0:Int):Rat)=v:=by rw [← hs];exact Rat.div_mul_cancel (by grind)
   have s0:0≤s:=by
    refine Rat.not_lt.1 fun k=>?_
    have:=Rat.mul_lt_mul_of_pos_right k dpos
    grind
   have s1:p+s≤((cuts.getD (i+1) 0:Int):Rat):=by
    refine Rat.not_lt.1 fun k=>?_
    have:(((cuts.getD (i+1) 0:Int):Rat)-p)<s:=by grind
    have:=Rat.mul_lt_mul_of_pos_right this dpos
    grind
   rw [ygq (i1.small (M:=1000) ⟨by omega,by omega⟩ (by omega) (by show -(1000:Rat)≤_;grind) (by show _≤(1000:Rat);grind)),
    ygq (i2.small (M:=12000) ⟨by omega,by omega⟩ (by omega) (by show -(12000:Rat)≤_;grind) (by show _≤(12000:Rat);grind)),if_neg c3,
    ygq (i3.small (M:=1000) ⟨by omega,by omega⟩ (by omega) (by show -(1000:Rat)≤_;grind) (by show _≤(1000:Rat);grind)),
    ygq (i4.small (M:=1000) ⟨by omega,by omega⟩ (by omega) (by show -(1000:Rat)≤_;grind) (by show _≤(1000:Rat);grind))]
   exact ⟨_,dens.getD i 0,rfl,⟨by omega,hd2.2⟩,i4⟩
theorem yEi (h:VC len cuts dens) {p v:Rat} (p0:0≤p) (p1:p≤(len:Rat)) (v0:0<v) (hv:v≤vX cuts dens (len:Rat)-vX cuts dens p) {D:Int} (D1:1≤D) (D2:D≤1000000000000) (hp:In D p) (hvD:In D v) :
  ∃ q d,mrkC cuts dens p v=.ok q∧(1≤d∧d≤12)∧In (d*D) q∧vX cuts dens q=vX cuts dens p+v∧p<q∧q≤(len:Rat)∧∀ x,x<q→vX cuts dens x<vX cuts dens q:=by
 have c0:cuts.getD 0 0=0:=h.2.2.2.2.2.1
 have t:=yCw h
 have m0:=ytY h p0
 have tb:((totC cuts dens:Int):Rat)≤12000:=qAw.2 (yyx h).2
 obtain ⟨q,d,e,hd,hq⟩:=ytZ h dens.length 0 p v (by omega) (by rw [c0];exact p0) p1 v0 hv D D1 D2 hp hvD (by grind)
 have ec:mrkC cuts dens p v=.ok q:=by
  unfold mrkC
  rw [if_neg (by grind)]
  exact e
 obtain ⟨k1,k2,k3,_,k5⟩:=yKt h p0 p1 (qBp v0) ec
 refine ⟨q,d,ec,hd,hq,k1,?_,k3,k5 (by grind)⟩
 by_cases hlt:p<q
 ·exact hlt
 ·have:p=q:=by grind
  rw [← this] at k1
  grind
end
section
variable {l:List Ck}
def vXA (l:List Ck) (a:Nat) (p:Rat):Rat:=vX (l.getD a default).cuts (l.getD a default).dens p
def lenR (l:List Ck):Rat:=((l.getD 0 default).len:Rat)
def valQ (an ad:Int) (a:Nat) (p v:Rat):Qy:=⟨a,1,an,ad,p.num,p.den,v.num,v.den⟩
def valE (l:List Ck) (an ad:Int) (m a:Nat) (p:Rat):Except Int Rat:=qryR l m a (Ck.value an ad p.num p.den)
theorem yH1 (hd:DK l) {a:Nat} (_:a<l.length) {an ad:Int} (ha:I64 an) (ha':I64 ad) (lg:List Qy) {p:Rat} (hp:small p) (K:List PV→List PV→Int→Int→Int→Prop) :
  yan (cks l) (logs lg) a an ad p.num p.den K =
   match valE l an ad lg.length a p with
   | .ok v=>K (cks l) (logs (lg++[valQ an ad a p v])) v.num v.den 0
   | .error e=>K [] [] 0 0 e:=by
 have n6:=hd.n6
 rw [yHP hd.fin (by omega) (yAn lg) ha ha' hp.i1 hp.i2,ylX]
 have em:qryR l lg.length a (Ck.value an ad p.num p.den)=valE l an ad lg.length a p:=rfl
 rw [em]
 cases valE l an ad lg.length a p with
 | ok v =>
  show K (cks l) (logs lg++[_]) _ _ _=K (cks l) (logs (lg++[_])) _ _ _
  rw [yEd];rfl
 | error c=>rfl
theorem yJs {A r:List Nat} {i a:Nat} (h:A.drop i=a::r):i<A.length∧A.getD i 0=a∧A.drop (i+1)=r:=by
 have hlt:i<A.length:=by
  have:=congrArg List.length h
  rw [qAr,qAn] at this
  omega
 rw [List.drop_eq_getElem_cons hlt] at h
 rw [qAb,qAd hlt]
 exact ⟨hlt,(List.cons.inj h).1,(List.cons.inj h).2⟩
theorem yKO {x:Int} {P:Prop}:asr (conf zI (.int .i64 x)) P=P:=rfl
theorem iov {k:IntKind} {x:Int}:yaa (.int k x)=x:=rfl
theorem yH2 (hd:DK l) {a:Nat} (h:a<l.length) {q p:Rat} (hs:small q) (hp:small p) (q0:0≤q) (qp:q≤p) (p1:p≤lenR l) {D:Int} (hD:1≤D∧D≤50000000000000) (hq:In D q) (hpD:In D p) {m:Nat} (hm:m<2000) :
  valE l q.num q.den m a p=.ok (vXA l a p-vXA l a q)∧QR l (valQ q.num q.den a p (vXA l a p-vXA l a q)):=by
 have hok:=hd.ok a h
 have hlen:=hd.len a h
 have p1':p≤((l.getD a default).len:Rat):=by rw [hlen];exact p1
 have e:valR (l.getD a default).len (l.getD a default).cuts (l.getD a default).dens q.num q.den p.num p.den=.ok (vXA l a p-vXA l a q):=by
  unfold valR
  rw [if_pos hok.ck,yeQ,yeQ,if_pos ⟨yEa hs q0 (qBu qp p1'),yEa hp (qBu q0 qp) p1',Rat.not_lt.2 qp⟩]
  exact yAs hok hD hq hpD q0 qp p1'
 refine ⟨?_,⟨by show (0:Int)≤a;omega,by show (a:Int)<_;omega⟩,⟨hs.i1,hs.i2,hp.i1,hp.i2⟩,vXA l a p-vXA l a q,⟨rfl,rfl⟩,.inr ⟨rfl,?_⟩⟩
 ·unfold valE qryR
  rw [if_pos (hd.err (by omega)),if_pos ⟨by omega,by omega⟩,qAe]
  have:Ck.value q.num q.den p.num p.den (l.getD a default)=.ok (vXA l a p-vXA l a q):=e
  rw [this]
  show (if m≥2000 then _ else _)=_
  rw [if_neg (by omega)]
 ·exact e
end
set_option maxRecDepth 100000
section
variable {l:List Ck}
theorem yfm (a b:Int) (K:Int→Int→Prop):yac a b 0 K=K a b:=rfl
theorem yGG (n:Int) (K:Int→Int→Prop):yaO n K=K n 1:=rfl
def mkV (l:List Ck) (a:Nat) (q v:Rat):Rat:=getR (mrkC (l.getD a default).cuts (l.getD a default).dens q v)
def mkQ (a:Nat) (q v p:Rat):Qy:=⟨a,2,q.num,q.den,v.num,v.den,p.num,p.den⟩
def vlQ (l:List Ck) (a:Nat) (q p:Rat):Qy:=valQ q.num q.den a p (vXA l a p-vXA l a q)
structure MkV (l:List Ck) (a:Nat) (q v:Rat) (D:Int):Prop where
 e:mrkC (l.getD a default).cuts (l.getD a default).dens q v=.ok (mkV l a q v)
 d:∃ d:Int,(1≤d∧d≤12)∧In (d*D) (mkV l a q v)
 eqv:vXA l a (mkV l a q v)=vXA l a q+v
 ge:q≤mkV l a q v
 le:mkV l a q v≤lenR l
theorem yyM (hd:DK l) {a:Nat} (ha:a<l.length) {q v:Rat} (q0:0≤q) (q1:q≤lenR l) (v0:0≤v) (hv:v≤vXA l a (lenR l)-vXA l a q) {D:Int} (D1:1≤D) (D2:D≤1000000000000) (hq:In D q) (hvD:In D v):MkV l a q v D:=by
 have hok:=hd.ok a ha
 have hlen:=hd.len a ha
 by_cases hz:v=0
 ·have e:mrkC (l.getD a default).cuts (l.getD a default).dens q v=.ok q:=by unfold mrkC;rw [if_pos hz]
  have g:mkV l a q v=q:=by unfold mkV;rw [e];rfl
  refine ⟨by rw [g];exact e,⟨1,by omega,by rw [g,Int.one_mul];exact hq⟩,by rw [g,hz];grind,by rw [g];exact qBb,by rw [g];exact q1⟩
 have v0:0<v:=by grind
 unfold vXA lenR at *
 rw [← hlen] at q1 hv
 obtain ⟨p,d,e,hd12,hp,k1,k2,k3,k4⟩:=yEi hok q0 q1 v0 hv D1 D2 hq hvD
 obtain ⟨_,g2⟩:=yGw e
 have g2:mkV l a q v=p:=g2
 refine ⟨?_,⟨d,hd12,?_⟩,?_,?_,?_⟩
 ·rw [g2];exact e
 ·rw [g2];exact hp
 ·rw [g2];exact k1
 ·rw [g2];exact qBp k2
 ·rw [g2];unfold lenR;rw [← hlen];exact k3
theorem yH3 (hd:DK l) {a:Nat} (ha:a<l.length) {q v:Rat} (hs:small q) (q0:0≤q) (q1:q≤lenR l) (hv:small v) (v0:0≤v) {D:Int} (h:MkV l a q v D) {lg:List Qy} (hm:lg.length<2000) (K:List PV→List PV→Int→Int→Int→Prop) :
  yfb (cks l) (logs lg) a q.num q.den v.num v.den K=K (cks l) (logs (lg++[mkQ a q v (mkV l a q v)])) (mkV l a q v).num (mkV l a q v).den 0:=by
 have n6:=hd.n6
 have hok:=hd.ok a ha
 have e1:mrkR (l.getD a default).len (l.getD a default).cuts (l.getD a default).dens q.num q.den v.num v.den=.ok (mkV l a q v):=by
  unfold mrkR
  rw [if_pos hok.ck,if_pos ⟨yEa hs q0 (by rw [hd.len a ha];exact q1),hv.rv,Rat.num_nonneg.2 v0⟩,yeQ,yeQ]
  exact h.e
 have e2:qryR l lg.length (a:Int) (Ck.mark q.num q.den v.num v.den)=.ok (mkV l a q v):=by
  unfold qryR
  rw [if_pos (hd.err (by omega)),if_pos ⟨by omega,by omega⟩,qAe]
  have:Ck.mark q.num q.den v.num v.den (l.getD a default)=.ok (mkV l a q v):=e1
  rw [this]
  show (if lg.length≥2000 then _ else _)=_
  rw [if_neg (by omega)]
 rw [yJa hd.fin (by omega) (yAn lg) hs.i1 hs.i2 hv.i1 hv.i2,ylX,e2]
 show K (cks l) (logs lg++[_]) _ _ _=K (cks l) (logs (lg++[_])) _ _ _
 rw [yEd];rfl
theorem yJt (hd:DK l) {a:Nat} (ha:a<l.length) {q v:Rat} (hs:small q) (q0:0≤q) (q1:q≤lenR l) (hv:small v) (v0:0≤v) {D:Int} (h:MkV l a q v D) {lg:List Qy} (hm:lg.length<2000) (K:Int→Int→List PV→List PV→Prop) :
  yar (cks l) (logs lg) a q.num q.den v.num v.den K=K (mkV l a q v).num (mkV l a q v).den (cks l) (logs (lg++[mkQ a q v (mkV l a q v)])):=by
 unfold yar yfh
 rw [yH3 hd ha hs q0 q1 hv v0 h hm,yfm]
theorem yLu (hd:DK l) {a:Nat} (ha:a<l.length) {q p:Rat} (hs:small q) (hp:small p) (q0:0≤q) (qp:q≤p) (p1:p≤lenR l) {D:Int} (hD:1≤D∧D≤50000000000000) (hq:In D q) (hpD:In D p) {lg:List Qy} (hm:lg.length<2000) (K:List PV→List PV→Int→Int→Int→Prop) :
  yan (cks l) (logs lg) a q.num q.den p.num p.den K=K (cks l) (logs (lg++[vlQ l a q p])) (vXA l a p-vXA l a q).num (vXA l a p-vXA l a q).den 0:=by
 rw [yH1 hd ha hs.i1 hs.i2 lg hp,(yH2 hd ha hs hp q0 qp p1 hD hq hpD (m:=lg.length) hm).1]
 rfl
def totR (l:List Ck) (a:Nat):Rat:=((totC (l.getD a default).cuts (l.getD a default).dens:Int):Rat)
theorem yJu (hd:DK l) {a:Nat} (h2:a<l.length) {lg:List PV} (hm:lg.length≤2000) (K:Int→Int→List PV→List PV→Prop):yau (cks l) lg a K=K (totR l a).num (totR l a).den (cks l) lg:=by
 have hok:=hd.ok a h2
 have n6:=hd.n6
 have h1:=VC.l1 hok;have h3:=VC.l2 hok
 unfold yau yeE ykA ymJ
 rw [ypY hd.fin (by omega),hd.err hm,cnF rfl,yFC,decide_eq_true (by omega),qA2,yae]
 simp only [lt]
 rw [ybD,qAe,ycS h2,asT (by omega),asT (by omega),asCk,ck0,ck1,ck2,yHI (by omega) (by omega),if_pos (VC.ck hok)]
 have e1:(totR l a).num=totC (l.getD a default).cuts (l.getD a default).dens:=Rat.num_intCast _
 have e2:(((totR l a).den:Nat):Int)=1:=by unfold totR;rw [Rat.den_intCast];rfl
 rw [e1,e2]
 rfl
def r13:Rat:=mkRat 1 3
def r23:Rat:=mkRat 2 3
theorem r13n:r13.num=1:=by decide +kernel
theorem r13d:r13.den=3:=by decide +kernel
theorem r23n:r23.num=2:=by decide +kernel
theorem r23d:r23.den=3:=by decide +kernel
theorem r13s:small r13:=by decide +kernel
theorem r23s:small r23:=by decide +kernel
theorem yGH (hd:DK l) {a:Nat} (ha:a<l.length) {q v:Rat} (hs:small q) (q0:0≤q) (q1:q≤lenR l) (hv:small v) (h1s:small (v*r13)) (h2s:small (v*r23)) (h10:0≤v*r13) (h20:0≤v*r23) {D D':Int} (h1:MkV l a q (v*r13) D) (h2:MkV l a q (v*r23) D') {lg:List Qy} (hm:lg.length+2<2000) (K:Int→Int→Int→Int→List PV→List PV→Prop) :
  yad (cks l) (logs lg) a q.num q.den v.num v.den K=K (mkV l a q (v*r13)).num (mkV l a q (v*r13)).den (mkV l a q (v*r23)).num (mkV l a q (v*r23)).den (cks l) (logs ((lg++[mkQ a q (v*r13) (mkV l a q (v*r13))])++[mkQ a q (v*r23) (mkV l a q (v*r23))])):=by
 unfold yad yen
 have m1:=fun K=>ytS hv r13s K
 have m2:=fun K=>ytS hv r23s K
 rw [r13n,r13d] at m1
 rw [r23n,r23d] at m2
 have m1:∀ K,ybh v.num v.den 1 3 K=_:=m1
 have m2:∀ K,ybh v.num v.den 2 3 K=_:=m2
 rw [m1,ycw,if_pos h1s,yfm,yJt hd ha hs q0 q1 h1s h10 h1 (by omega),m2,ycw,if_pos h2s,yfm,yJt hd ha hs q0 q1 h2s h20 h2 (by rw [qAh,qAp];omega)]
def pkL (v:Nat→Rat):Nat→List Nat→Nat
 | b,[]=>b
 | b,i::r=>pkL v (if v b<v i then i else b) r
theorem yLv {q r:Rat}:decide (cmpQ q r>0)=decide (r<q):=by
 unfold cmpQ
 by_cases h:q<r
 ·rw [if_pos h]
  have:¬r<q:=fun h'=>by grind
  simp [this]
 ·rw [if_neg h]
  by_cases h2:r<q
  ·simp [h2]
  ·simp [h2]
theorem yAt {vs:List Rat} (hs:∀ i,i<vs.length→small (vs.getD i 0)) {J:List Nat} (hJ:∀ i∈J,i<vs.length) (h6:J.length≤100) {x:List PV→Int→List PV→Int→Int→Bool→Prop} :
  ∀ (r:List Nat) (i n b:Nat),J.drop i=r→i≤J.length→r.length<n→b<vs.length→x (rts vs) (pkL (fun i=>vs.getD i 0) b r:Nat) (nts J) (J.length:Int) (J.length:Int) false→ycL ybW x n (rts vs) (b:Int) (nts J) (J.length:Int) (i:Int)
 | [],i,n,b,hr,hi,hn,hb,h=>by
  obtain ⟨n,rfl⟩:∃ k,n=k+1:=⟨n-1,by omega⟩
  have e:i=J.length:=by
   have:=congrArg List.length hr
   rw [qAr,List.length_nil] at this
   omega
  subst e
  unfold ycL
  rw [cbF (by omega)]
  exact h
 | a::r,i,n,b,hr,hi,hn,hb,h=>by
  obtain ⟨n,rfl⟩:∃ k,n=k+1:=⟨n-1,by omega⟩
  simp only [qAn] at hn
  obtain ⟨hlt,hg,hr'⟩:=yJs hr
  have ha:a<vs.length:=hJ a (by rw [← hg,qAb,qAd hlt];exact List.getElem_mem hlt)
  have ew:IntKind.i64.wrap ((i:Int)+1)=((i+1:Nat):Int):=by rw [wib (by omega) (by omega)];omega
  have IH:=fun b hb h=>yAt hs hJ h6 (x:=x) r (i+1) n b hr' (by omega) (by omega) hb h
  unfold ycL
  simp only [Go.Pf.jn,lt]
  rw [cbT (by omega),yGy,asT (by omega),asT (by omega),qAe,yLq hlt,hg,yKO,iov,yCs,asT (by omega),asT (by omega),qAe,yCt ha,asW,asT (by omega),asT (by omega),qAe,yCt hb,asW,yKJ,yKK,yKJ,yKK,yCl (hs a ha) (hs b hb),yLv,ew]
  unfold pkL at h
  by_cases hc:vs.getD b 0<vs.getD a 0
  ·rw [if_pos hc] at h
   rw [decide_eq_true hc,yam]
   exact IH a ha h
  ·rw [if_neg hc] at h
   rw [decide_eq_false hc,yae]
   exact IH b hb h
theorem yJv {vs:List Rat} (hs:∀ i,i<vs.length→small (vs.getD i 0)) {i0:Nat} {J:List Nat} (hJ:∀ i∈i0::J,i<vs.length) (h6:J.length≤90) (K:Int→Prop) :
  yak (rts vs) (nts (i0::J)) K=K (pkL (fun i=>vs.getD i 0) i0 (i0::J):Nat):=by
 refine ywB _ _ _ (fun K k=>?_) K
 unfold yak yjN
 have e:List.getD (nts (i0::J)) 0 .nils=.int .i64 i0:=rfl
 simp only [lt]
 rw [yGy,asT (by simp only [qAn];omega),e,yKO,iov]
 exact ⟨(i0::J).length+1,yAt hs hJ (by simp only [qAn];omega) (i0::J) 0 _ i0 rfl (by omega) (by omega) (hJ i0 qAm) k⟩
theorem ynh {v:Nat→Rat}:∀ (J:List Nat) (b:Nat),(pkL v b J=b∨pkL v b J∈J)∧v b≤v (pkL v b J)∧∀ i∈J,v i≤v (pkL v b J)
 | [],b=>⟨.inl rfl,qBb,fun i h=>by cases h⟩
 | a::r,b=>by
  unfold pkL
  by_cases hc:v b<v a
  ·rw [if_pos hc]
   obtain ⟨h1,h2,h3⟩:=ynh (v:=v) r a
   refine ⟨.inr ?_,by grind,fun i hi=>?_⟩
   ·rcases h1 with h1 | h1
    ·rw [h1];exact qAm
    ·exact qAj _ h1
   ·rcases qAq.1 hi with rfl | hi
    ·exact h2
    ·exact h3 i hi
  ·rw [if_neg hc]
   obtain ⟨h1,h2,h3⟩:=ynh (v:=v) r b
   have hc:=Rat.not_lt.1 hc
   refine ⟨?_,h2,fun i hi=>?_⟩
   ·rcases h1 with h1 | h1
    ·exact .inl h1
    ·exact .inr (qAj _ h1)
   ·rcases qAq.1 hi with rfl | hi
    ·grind
    ·exact h3 i hi
def oth (p:Nat):List Nat:=if p=0 then [1,2] else if p=1 then [0,2] else [0,1]
theorem oth0 (K:List PV→Prop):yai (nts [0]) K=K (nts [1,2]):=by
 refine ybB _ _ (fun K k=>?_) K
 refine @Exists.intro Nat _ 4 ?_
 refine @Exists.intro Nat _ 2 ?_
 refine @Exists.intro Nat _ 2 ?_
 refine @Exists.intro Nat _ 2 ?_
 exact k
theorem oth1 (K:List PV→Prop):yai (nts [1]) K=K (nts [0,2]):=by
 refine ybB _ _ (fun K k=>?_) K
 refine @Exists.intro Nat _ 4 ?_
 refine @Exists.intro Nat _ 2 ?_
 refine @Exists.intro Nat _ 2 ?_
 refine @Exists.intro Nat _ 2 ?_
 exact k
theorem oth2 (K:List PV→Prop):yai (nts [2]) K=K (nts [0,1]):=by
 refine ybB _ _ (fun K k=>?_) K
 refine @Exists.intro Nat _ 4 ?_
 refine @Exists.intro Nat _ 2 ?_
 refine @Exists.intro Nat _ 2 ?_
 refine @Exists.intro Nat _ 2 ?_
 exact k
theorem yLU (K:List PV→Prop):yai (nts [0,1]) K=K (nts [2]):=by
 refine ybB _ _ (fun K k=>?_) K
 refine @Exists.intro Nat _ 4 ?_
 refine @Exists.intro Nat _ 3 ?_
 refine @Exists.intro Nat _ 3 ?_
 refine @Exists.intro Nat _ 3 ?_
 exact k
theorem yLV (K:List PV→Prop):yai (nts [1,0]) K=K (nts [2]):=by
 refine ybB _ _ (fun K k=>?_) K
 refine @Exists.intro Nat _ 4 ?_
 refine @Exists.intro Nat _ 3 ?_
 refine @Exists.intro Nat _ 3 ?_
 refine @Exists.intro Nat _ 3 ?_
 exact k
theorem yLW (K:List PV→Prop):yai (nts [0,2]) K=K (nts [1]):=by
 refine ybB _ _ (fun K k=>?_) K
 refine @Exists.intro Nat _ 4 ?_
 refine @Exists.intro Nat _ 3 ?_
 refine @Exists.intro Nat _ 3 ?_
 refine @Exists.intro Nat _ 3 ?_
 exact k
theorem yLX (K:List PV→Prop):yai (nts [2,0]) K=K (nts [1]):=by
 refine ybB _ _ (fun K k=>?_) K
 refine @Exists.intro Nat _ 4 ?_
 refine @Exists.intro Nat _ 3 ?_
 refine @Exists.intro Nat _ 3 ?_
 refine @Exists.intro Nat _ 3 ?_
 exact k
theorem yLY (K:List PV→Prop):yai (nts [1,2]) K=K (nts [0]):=by
 refine ybB _ _ (fun K k=>?_) K
 refine @Exists.intro Nat _ 4 ?_
 refine @Exists.intro Nat _ 3 ?_
 refine @Exists.intro Nat _ 3 ?_
 refine @Exists.intro Nat _ 3 ?_
 exact k
theorem yLZ (K:List PV→Prop):yai (nts [2,1]) K=K (nts [0]):=by
 refine ybB _ _ (fun K k=>?_) K
 refine @Exists.intro Nat _ 4 ?_
 refine @Exists.intro Nat _ 3 ?_
 refine @Exists.intro Nat _ 3 ?_
 refine @Exists.intro Nat _ 3 ?_
 exact k
theorem ypZ {p:Nat} (hp:p<3) (K:List PV→Prop):yai [.int .i64 (p:Int)] K=K (nts (oth p)):=by
 obtain rfl | rfl | rfl:p=0∨p=1∨p=2:=by omega
 ·exact oth0 K
 ·exact oth1 K
 ·exact oth2 K
theorem yCx {a b:Nat} (ha:a<3) (hb:b<3) (hab:a≠b) (K:List PV→Prop):yai [.int .i64 (a:Int),.int .i64 (b:Int)] K=K (nts [3-a-b]):=by
 obtain rfl | rfl | rfl:a=0∨a=1∨a=2:=by omega
 ·obtain rfl | rfl:b=1∨b=2:=by omega
  ·exact yLU K
  ·exact yLW K
 ·obtain rfl | rfl:b=0∨b=2:=by omega
  ·exact yLV K
  ·exact yLY K
 ·obtain rfl | rfl:b=0∨b=1:=by omega
  ·exact yLX K
  ·exact yLZ K
def pk (v:List Rat):Nat:=pkL (fun i=>v.getD i 0) 0 [0,1,2]
def pkO (v:List Rat) (p:Nat):Nat:=pkL (fun i=>v.getD i 0) ((oth p).getD 0 0) (oth p)
theorem yJw (v:List Rat):pk v<3:=by
 obtain ⟨h,_⟩:=ynh (v:=fun i=>v.getD i 0) [0,1,2] 0
 unfold pk
 rcases h with h | h
 ·rw [h];decide
 ·simp only [qAq,List.not_mem_nil,or_false] at h;omega
theorem yLw (v:List Rat) {i:Nat} (hi:i<3):v.getD i 0≤v.getD (pk v) 0:=(ynh (v:=fun i=>v.getD i 0) [0,1,2] 0).2.2 i (by simp;omega)
theorem yGI {p i:Nat} (hp:p<3):i∈oth p↔i<3∧i≠p:=by
 obtain rfl | rfl | rfl:p=0∨p=1∨p=2:=by omega
 all_goals (simp [oth];omega)
theorem yGJ (v:List Rat) {p:Nat} (hp:p<3):pkO v p<3∧pkO v p≠p:=by
 obtain ⟨h,_⟩:=ynh (v:=fun i=>v.getD i 0) (oth p) ((oth p).getD 0 0)
 have h:pkO v p∈oth p:=by
  unfold pkO
  rcases h with h | h
  ·rw [h]
   obtain rfl | rfl | rfl:p=0∨p=1∨p=2:=by omega
   all_goals simp [oth]
  ·exact h
 exact (yGI hp).1 h
theorem yGK (v:List Rat) {p i:Nat} (hp:p<3) (hi:i<3) (hne:i≠p):v.getD i 0≤v.getD (pkO v p) 0:=(ynh (v:=fun i=>v.getD i 0) (oth p) ((oth p).getD 0 0)).2.2 i ((yGI hp).2 ⟨hi,hne⟩)
theorem yCy {v:List Rat} (h3:v.length=3) (hs:∀ i,i<3→small (v.getD i 0)) (K:Int→Prop):yak (rts v) [.int .i64 0,.int .i64 1,.int .i64 2] K=K (pk v:Nat) :=
 yJv (i0:=0) (J:=[1,2]) (by rw [h3];exact hs) (by rw [h3];intro i hi;simp at hi;omega) (by decide) K
theorem yGL {v:List Rat} (h3:v.length=3) (hs:∀ i,i<3→small (v.getD i 0)) {p:Nat} (hp:p<3) (K:Int→Prop):yak (rts v) (nts (oth p)) K=K (pkO v p:Nat):=by
 have key:∀ a b:Nat,oth p=[a,b]→a<3→b<3→yak (rts v) (nts (oth p)) K=K (pkO v p:Nat):=fun a b e ha hb=>by
  unfold pkO
  rw [e]
  exact yJv (i0:=a) (J:=[b]) (by rw [h3];exact hs) (by rw [h3];intro i hi;simp at hi;omega) (by rw [qAp];omega) K
 obtain rfl | rfl | rfl:p=0∨p=1∨p=2:=by omega
 ·exact key 1 2 rfl (by omega) (by omega)
 ·exact key 0 2 rfl (by omega) (by omega)
 ·exact key 0 1 rfl (by omega) (by omega)
end
theorem exS3 {P R:Nat→Prop} (h0:P 0=False) (h:∀ n,P (n+1)=R n):(∃ n,P n)=∃ n,R n :=
 propext ⟨fun ⟨n,hn⟩=>match n,hn with | 0,hn=>(h0 ▸ hn).elim | n+1,hn=>⟨n,(h n) ▸ hn⟩,fun ⟨n,hn⟩=>⟨n+1,(h n).symm ▸ hn⟩⟩
theorem exC3 {Q:Prop}:(∃ _:Nat,Q)=Q:=propext ⟨fun ⟨_,h⟩=>h,fun h=>⟨0,h⟩⟩
section
variable {l:List Ck}
structure VQ (l:List Ck) (s:RS):Prop where
 s1:small s.1
 s2:small s.2
 z:0≤s.1
 le:s.1≤s.2
 len:s.2≤lenR l
 D:∃ D:Int,(1≤D∧D≤50000000000000)∧In D s.1∧In D s.2
def vS (l:List Ck) (a:Nat) (s:RS):Rat:=vXA l a s.2-vXA l a s.1
theorem VQ.val (hd:DK l) {a:Nat} (ha:a<l.length) {s:RS} (h:VQ l s) {lg:List Qy} (hm:lg.length<2000) (K:List PV→List PV→Int→Int→Int→Prop) :
  yan (cks l) (logs lg) a s.1.num s.1.den s.2.num s.2.den K=K (cks l) (logs (lg++[vlQ l a s.1 s.2])) (vS l a s).num (vS l a s).den 0:=by
 obtain ⟨D,hD,k1,k2⟩:=h.D
 exact yLu hd ha h.s1 h.s2 h.z h.le h.len hD k1 k2 hm K
theorem yL0 (hd:DK l) {a:Nat} (ha:a<l.length) {s t:RS} (hs:VQ l s) (ht:VQ l t) {lg:List Qy} (hm:lg.length+2<2000) {x0 x1} (i0 i1 i2 i3 i4 i5 i6 i7 i8 i9 i10 i11 i12 i13 i14 i15 i16 i17 i18 i19:Int) :
  (∃ n,ycv yaO yau yad yan yac yaD yak yai yar x0 x1 n (cks l) (logs lg) i0 i1 i2 i3 i4 i5 i6 i7 i8 i9 i10 i11 i12 i13 i14 i15 i16 i17 i18 i19 (a:Int) [encR s,encR t] 2 0) =
  x1 (rts [vS l a s,vS l a t]) (cks l) (logs ((lg++[vlQ l a s.1 s.2])++[vlQ l a t.1 t.2])) i0 i1 i2 i3 i4 i5 i6 i7 i8 i9 i10 i11 i12 i13 i14 i15 i16 i17 i18 i19 (a:Int) [encR s,encR t] 2 2 false:=by
 rw [exS3 rfl (R:=fun n=>ybf yaO yau yad yan yac yaD yak yai yar x1 n (rts [vS l a s]) (cks l) (logs (lg++[vlQ l a s.1 s.2])) i0 i1 i2 i3 i4 i5 i6 i7 i8 i9 i10 i11 i12 i13 i14 i15 i16 i17 i18 i19 (a:Int) [encR s,encR t] 2 1) (fun n=>?_),
  exS3 rfl (R:=fun n=>ybf yaO yau yad yan yac yaD yak yai yar x1 n (rts [vS l a s,vS l a t]) (cks l) (logs ((lg++[vlQ l a s.1 s.2])++[vlQ l a t.1 t.2])) i0 i1 i2 i3 i4 i5 i6 i7 i8 i9 i10 i11 i12 i13 i14 i15 i16 i17 i18 i19 (a:Int) [encR s,encR t] 2 2) (fun n=>?_),
  exS3 rfl (R:=fun _=>x1 (rts [vS l a s,vS l a t]) (cks l) (logs ((lg++[vlQ l a s.1 s.2])++[vlQ l a t.1 t.2])) i0 i1 i2 i3 i4 i5 i6 i7 i8 i9 i10 i11 i12 i13 i14 i15 i16 i17 i18 i19 (a:Int) [encR s,encR t] 2 2 false) (fun n=>by kernel_rfl),exC3]
 ·have e:ybf yaO yau yad yan yac yaD yak yai yar x1 (n+1) (rts [vS l a s]) (cks l) (logs (lg++[vlQ l a s.1 s.2])) i0 i1 i2 i3 i4 i5 i6 i7 i8 i9 i10 i11 i12 i13 i14 i15 i16 i17 i18 i19 (a:Int) [encR s,encR t] 2 1=yan (cks l) (logs (lg++[vlQ l a s.1 s.2])) a t.1.num t.1.den t.2.num t.2.den (fun c g y0 y1 y2=>yac y0 y1 y2 fun r0 r1=>ybf yaO yau yad yan yac yaD yak yai yar x1 n [encW (vS l a s),.agg [.int .i64 r0,.int .i64 r1]] c g i0 i1 i2 i3 i4 i5 i6 i7 i8 i9 i10 i11 i12 i13 i14 i15 i16 i17 i18 i19 (a:Int) [encR s,encR t] 2 2):=by kernel_rfl
  rw [e,ht.val hd ha (by rw [qAh,qAp];omega),yfm]
  rfl
 ·have e:ycv yaO yau yad yan yac yaD yak yai yar x0 x1 (n+1) (cks l) (logs lg) i0 i1 i2 i3 i4 i5 i6 i7 i8 i9 i10 i11 i12 i13 i14 i15 i16 i17 i18 i19 (a:Int) [encR s,encR t] 2 0=yan (cks l) (logs lg) a s.1.num s.1.den s.2.num s.2.den (fun c g y0 y1 y2=>yac y0 y1 y2 fun r0 r1=>ybf yaO yau yad yan yac yaD yak yai yar x1 n [.agg [.int .i64 r0,.int .i64 r1]] c g i0 i1 i2 i3 i4 i5 i6 i7 i8 i9 i10 i11 i12 i13 i14 i15 i16 i17 i18 i19 (a:Int) [encR s,encR t] 2 1):=by kernel_rfl
  rw [e,hs.val hd ha (by omega),yfm]
  rfl
theorem yKP (hd:DK l) {a:Nat} (ha:a<l.length) {s t u:RS} (hs:VQ l s) (ht:VQ l t) (hu:VQ l u) {lg:List Qy} (hm:lg.length+3<2000) {x2 x3} (v:List PV) (i12 i13 i14 i15 i16 i17 i18 i19:Int) :
  (∃ n,ybN yaO yau yad yan yac yaD yak yai yar x2 x3 n v (cks l) (logs lg) s.1.num s.1.den s.2.num s.2.den t.1.num t.1.den t.2.num t.2.den u.1.num u.1.den u.2.num u.2.den i12 i13 i14 i15 i16 i17 i18 i19 (a:Int) 3 0) =
  x3 v (rts [vS l a s,vS l a t,vS l a u]) (cks l) (logs (((lg++[vlQ l a s.1 s.2])++[vlQ l a t.1 t.2])++[vlQ l a u.1 u.2])) s.1.num s.1.den s.2.num s.2.den t.1.num t.1.den t.2.num t.2.den u.1.num u.1.den u.2.num u.2.den i12 i13 i14 i15 i16 i17 i18 i19 (a:Int) 3 3 false:=by
 rw [exS3 rfl (R:=fun n=>yaW yaO yau yad yan yac yaD yak yai yar x3 n v (rts [vS l a s]) (cks l) (logs (lg++[vlQ l a s.1 s.2])) s.1.num s.1.den s.2.num s.2.den t.1.num t.1.den t.2.num t.2.den u.1.num u.1.den u.2.num u.2.den i12 i13 i14 i15 i16 i17 i18 i19 (a:Int) 3 1) (fun n=>?_),
  exS3 rfl (R:=fun n=>yaW yaO yau yad yan yac yaD yak yai yar x3 n v (rts [vS l a s,vS l a t]) (cks l) (logs ((lg++[vlQ l a s.1 s.2])++[vlQ l a t.1 t.2])) s.1.num s.1.den s.2.num s.2.den t.1.num t.1.den t.2.num t.2.den u.1.num u.1.den u.2.num u.2.den i12 i13 i14 i15 i16 i17 i18 i19 (a:Int) 3 2) (fun n=>?_),
  exS3 rfl (R:=fun n=>yaW yaO yau yad yan yac yaD yak yai yar x3 n v (rts [vS l a s,vS l a t,vS l a u]) (cks l) (logs (((lg++[vlQ l a s.1 s.2])++[vlQ l a t.1 t.2])++[vlQ l a u.1 u.2])) s.1.num s.1.den s.2.num s.2.den t.1.num t.1.den t.2.num t.2.den u.1.num u.1.den u.2.num u.2.den i12 i13 i14 i15 i16 i17 i18 i19 (a:Int) 3 3) (fun n=>?_),
  exS3 rfl (R:=fun _=>x3 v (rts [vS l a s,vS l a t,vS l a u]) (cks l) (logs (((lg++[vlQ l a s.1 s.2])++[vlQ l a t.1 t.2])++[vlQ l a u.1 u.2])) s.1.num s.1.den s.2.num s.2.den t.1.num t.1.den t.2.num t.2.den u.1.num u.1.den u.2.num u.2.den i12 i13 i14 i15 i16 i17 i18 i19 (a:Int) 3 3 false) (fun n=>by kernel_rfl),exC3]
 ·have e:yaW yaO yau yad yan yac yaD yak yai yar x3 (n+1) v (rts [vS l a s,vS l a t]) (cks l) (logs ((lg++[vlQ l a s.1 s.2])++[vlQ l a t.1 t.2])) s.1.num s.1.den s.2.num s.2.den t.1.num t.1.den t.2.num t.2.den u.1.num u.1.den u.2.num u.2.den i12 i13 i14 i15 i16 i17 i18 i19 (a:Int) 3 2=yan (cks l) (logs ((lg++[vlQ l a s.1 s.2])++[vlQ l a t.1 t.2])) a u.1.num u.1.den u.2.num u.2.den (fun c g y0 y1 y2=>yac y0 y1 y2 fun r0 r1=>yaW yaO yau yad yan yac yaD yak yai yar x3 n v [encW (vS l a s),encW (vS l a t),.agg [.int .i64 r0,.int .i64 r1]] c g s.1.num s.1.den s.2.num s.2.den t.1.num t.1.den t.2.num t.2.den u.1.num u.1.den u.2.num u.2.den i12 i13 i14 i15 i16 i17 i18 i19 (a:Int) 3 3):=by kernel_rfl
  rw [e,hu.val hd ha (by simp only [qAh,qAp];omega),yfm]
  rfl
 ·have e:yaW yaO yau yad yan yac yaD yak yai yar x3 (n+1) v (rts [vS l a s]) (cks l) (logs (lg++[vlQ l a s.1 s.2])) s.1.num s.1.den s.2.num s.2.den t.1.num t.1.den t.2.num t.2.den u.1.num u.1.den u.2.num u.2.den i12 i13 i14 i15 i16 i17 i18 i19 (a:Int) 3 1=yan (cks l) (logs (lg++[vlQ l a s.1 s.2])) a t.1.num t.1.den t.2.num t.2.den (fun c g y0 y1 y2=>yac y0 y1 y2 fun r0 r1=>yaW yaO yau yad yan yac yaD yak yai yar x3 n v [encW (vS l a s),.agg [.int .i64 r0,.int .i64 r1]] c g s.1.num s.1.den s.2.num s.2.den t.1.num t.1.den t.2.num t.2.den u.1.num u.1.den u.2.num u.2.den i12 i13 i14 i15 i16 i17 i18 i19 (a:Int) 3 2):=by kernel_rfl
  rw [e,ht.val hd ha (by rw [qAh,qAp];omega),yfm]
  rfl
 ·have e:ybN yaO yau yad yan yac yaD yak yai yar x2 x3 (n+1) v (cks l) (logs lg) s.1.num s.1.den s.2.num s.2.den t.1.num t.1.den t.2.num t.2.den u.1.num u.1.den u.2.num u.2.den i12 i13 i14 i15 i16 i17 i18 i19 (a:Int) 3 0=yan (cks l) (logs lg) a s.1.num s.1.den s.2.num s.2.den (fun c g y0 y1 y2=>yac y0 y1 y2 fun r0 r1=>yaW yaO yau yad yan yac yaD yak yai yar x3 n v [.agg [.int .i64 r0,.int .i64 r1]] c g s.1.num s.1.den s.2.num s.2.den t.1.num t.1.den t.2.num t.2.den u.1.num u.1.den u.2.num u.2.den i12 i13 i14 i15 i16 i17 i18 i19 (a:Int) 3 1):=by kernel_rfl
  rw [e,hs.val hd ha (by omega),yfm]
  rfl
end
section
variable {l:List Ck}
theorem tot3 (hd:DK l) {a:Nat} (ha:a<l.length):vXA l a (lenR l)-vXA l a 0=totR l a:=by
 have h:=yCw (hd.ok a ha)
 unfold vXA lenR totR
 rw [← hd.len a ha]
 exact h
theorem yAu (hd:DK l) {a:Nat} (ha:a<l.length) {x y:Rat} (h:x≤y):vXA l a x≤vXA l a y:=ytY (hd.ok a ha) h
theorem lt3 (hd:DK l) {a:Nat} (ha:a<l.length) {x y:Rat} (h:vXA l a x<vXA l a y):x<y:=by
 refine Rat.not_le.1 fun k=>?_
 have:=yAu hd ha k
 grind
theorem tot0 (hd:DK l) {a:Nat} (ha:a<l.length):0<totR l a:=Rat.intCast_pos.2 (yEc (hd.ok a ha))
theorem yt0 (hd:DK l) {a:Nat} (ha:a<l.length):totR l a≤12000:=by
 have hok:=hd.ok a ha
 have l0:=hok.len0
 have hw:0≤(0:Rat)∧((l.getD a default).len:Rat)≤((l.getD a default).len:Rat):=⟨qBb,qBb⟩
 have h:=(yJr hok (s:=((0:Rat),((l.getD a default).len:Rat))) (by
  show (0:Rat)<_
  exact Rat.intCast_pos.2 (by omega)) hw).2
 have e:=yCw hok
 unfold totR
 rw [← e]
 exact h
theorem In.D {a b:Int} (h:a=b) {q:Rat} (k:In a q):In b q:=h ▸ k
theorem sm3 {q:Rat} {D:Int} (h:In D q) (hD:1≤D∧D≤10000000000) (h0:-12000≤q) (h1:q≤12000):small q :=
 h.small (M:=12000) ⟨hD.1,by omega⟩ (by omega) (by show -(12000:Rat)≤_;grind) (by show _≤(12000:Rat);grind)
theorem yvW {a:Nat} {D:Int} (hD:1≤D) {s:RS} (h:In D s.1∧In D s.2):In D (vS l a s):=(yKN hD h.2).sub (yKN hD h.1)
theorem ypv (hd:DK l) {a:Nat} (ha:a<l.length) {s:RS} (z:0≤s.1) (le:s.1≤s.2) (hl:s.2≤lenR l):0≤vS l a s∧vS l a s≤totR l a:=by
 have h1:=yAu hd ha z
 have h2:=yAu hd ha le
 have h3:=yAu hd ha hl
 have h4:=tot3 hd ha
 unfold vS
 constructor <;> grind
@[irreducible] def A3 (l:List Ck):Rat:=mkV l 0 0 (totR l 0*r13)
@[irreducible] def B3 (l:List Ck):Rat:=mkV l 0 0 (totR l 0*r23)
structure G3 (l:List Ck) (D:Int):Prop where
 D1:1≤D∧D≤432
 mA:MkV l 0 0 (totR l 0*r13) 3
 mB:MkV l 0 0 (totR l 0*r23) 3
 a0:0<A3 l
 ab:A3 l<B3 l
 bl:B3 l<lenR l
 iA:In D (A3 l)
 iB:In D (B3 l)
theorem r13e:r13=1 / 3:=by decide +kernel
theorem r23e:r23=2 / 3:=by decide +kernel
theorem In.r3 (c:Int):In 3 ((c:Rat)*r13)∧In 3 ((c:Rat)*r23):=by
 constructor
 ·exact ⟨c,by rw [r13e];show (c:Rat)*(1 / 3)=(c:Rat) / 3;grind⟩
 ·exact ⟨2*c,by rw [r23e,Rat.intCast_mul];show (c:Rat)*(2 / 3)=((2:Int):Rat)*(c:Rat) / 3;have:((2:Int):Rat)=2:=rfl;rw [this];grind⟩
theorem g3 (hd:DK l) (h3:l.length=3):∃ D,G3 l D:=by
 have h0:0<l.length:=by omega
 have t0:=tot0 hd h0
 have tt:=tot3 hd h0
 have i3:=In.r3 (totC (l.getD 0 default).cuts (l.getD 0 default).dens)
 have hl0:0≤lenR l:=Rat.intCast_nonneg.2 (by have:=(hd.ok 0 h0).len0;omega)
 have mA:=yyM hd h0 (q:=0) (v:=totR l 0*r13) qBb hl0 (by rw [r13e];grind) (by rw [tt,r13e];grind) (D:=3) (by decide) (by decide) (In.int (by decide) 0) i3.1
 have mB:=yyM hd h0 (q:=0) (v:=totR l 0*r23) qBb hl0 (by rw [r23e];grind) (by rw [tt,r23e];grind) (D:=3) (by decide) (by decide) (In.int (by decide) 0) i3.2
 obtain ⟨d,hd1,k1⟩:=mA.d
 obtain ⟨e,he1,k2⟩:=mB.d
 have a1:=mA.eqv
 have b1:=mB.eqv
 rw [r13e] at a1
 rw [r23e] at b1
 have de:1*1≤d*e:=qA6 hd1.1 he1.1 (by omega) (by omega)
 have de2:d*e≤12*12:=qA6 hd1.2 he1.2 (by omega) (by omega)
 have eA:A3 l=mkV l 0 0 (totR l 0*r13):=by unfold A3;rfl
 have eB:B3 l=mkV l 0 0 (totR l 0*r23):=by unfold B3;rfl
 refine ⟨d*e*3,⟨by omega,by omega⟩,mA,mB,lt3 hd h0 (a:=0) ?_,lt3 hd h0 (a:=0) ?_,lt3 hd h0 (a:=0) ?_,?_,?_⟩
 ·rw [eA]
  rw [r13e] at *
  rw [a1];grind
 ·rw [eA,eB]
  rw [r13e,r23e] at *
  rw [a1,b1];grind
 ·rw [eB]
  rw [r23e] at *
  rw [b1];grind
 ·rw [eA];exact In.D (by rw [Int.mul_comm d e,Int.mul_assoc]) ((k1.up (by omega) he1.1):In (e*(d*3)) _)
 ·rw [eB];exact In.D (by rw [Int.mul_assoc]) ((k2.up (by omega) hd1.1):In (d*(e*3)) _)
def P3 (l:List Ck):List RS:=[(0,A3 l),(A3 l,B3 l),(B3 l,lenR l)]
theorem G3.VQ {D:Int} (hd:DK l) (h3:l.length=3) (g:G3 l D) {i:Nat} (hi:i<3):VQ l ((P3 l).getD i (0,0))∧(In D ((P3 l).getD i (0,0)).1∧In D ((P3 l).getD i (0,0)).2):=by
 have D1:=g.D1
 have hl:=(hd.ok 0 (by omega)).len0
 have hL:lenR l≤1000:=qAw.2 hl.2
 have a0:=g.a0;have ab:=g.ab;have bl:=g.bl
 have i0:In D 0:=In.int D1.1 0
 have iL:In D (lenR l):=In.int D1.1 _
 have sA:small (A3 l):=sm3 g.iA ⟨D1.1,by omega⟩ (by grind) (by grind)
 have sB:small (B3 l):=sm3 g.iB ⟨D1.1,by omega⟩ (by grind) (by grind)
 have s0:small (0:Rat):=sm3 i0 ⟨D1.1,by omega⟩ (by grind) (by grind)
 have sL:small (lenR l):=sm3 iL ⟨D1.1,by omega⟩ (by grind) (by grind)
 obtain rfl | rfl | rfl:i=0∨i=1∨i=2:=by omega
 ·exact ⟨⟨s0,sA,qBb,qBp a0,by show A3 l≤_;grind,D,⟨D1.1,by omega⟩,i0,g.iA⟩,i0,g.iA⟩
 ·exact ⟨⟨sA,sB,qBp a0,qBp ab,qBp bl,D,⟨D1.1,by omega⟩,g.iA,g.iB⟩,g.iA,g.iB⟩
 ·exact ⟨⟨sB,sL,by show 0≤B3 l;grind,qBp bl,qBb,D,⟨D1.1,by omega⟩,g.iB,iL⟩,g.iB,iL⟩
def vv3 (l:List Ck):List Rat:=(P3 l).map (vS l 1)
@[irreducible] def p3 (l:List Ck):Nat:=pk (vv3 l)
@[irreducible] def q3 (l:List Ck):Nat:=pkO (vv3 l) (p3 l)
@[irreducible] def off3 (l:List Ck):Rat:=(vv3 l).getD (p3 l) 0-(vv3 l).getD (q3 l) 0
@[irreducible] def tr3 (l:List Ck):Bool:=!decide ((vv3 l).getD (p3 l) 0=(vv3 l).getD (q3 l) 0)
@[irreducible] def fr3 (l:List Ck):Rat:=((P3 l).getD (p3 l) (0,0)).1
@[irreducible] def c3 (l:List Ck):Rat:=mkV l 1 (fr3 l) (off3 l)
def S3 (l:List Ck):List RS:=bif tr3 l then (P3 l).set (p3 l) (c3 l,((P3 l).getD (p3 l) (0,0)).2) else P3 l
def vs3 (l:List Ck):List Rat:=bif tr3 l then (vv3 l).set (p3 l) ((vv3 l).getD (q3 l) 0) else vv3 l
def ww3 (l:List Ck):List Rat:=(S3 l).map (vS l 2)
@[irreducible] def o2 (l:List Ck):Nat:=pk (ww3 l)
@[irreducible] def o1 (l:List Ck):Nat:=bif tr3 l&&!decide (p3 l=o2 l) then p3 l else pkO (vs3 l) (o2 l)
@[irreducible] def o0 (l:List Ck):Nat:=3-o1 l-o2 l
theorem ypw (l:List Ck):p3 l<3:=by unfold p3;exact yJw _
theorem yCz (l:List Ck):q3 l<3∧q3 l≠p3 l:=by unfold q3;exact yGJ _ (ypw l)
theorem yLx (l:List Ck) {i:Nat} (hi:i<3):(vv3 l).getD i 0≤(vv3 l).getD (p3 l) 0:=by unfold p3;exact yLw _ hi
theorem yLy (l:List Ck) {i:Nat} (hi:i<3) (hne:i≠p3 l):(vv3 l).getD i 0≤(vv3 l).getD (q3 l) 0:=by unfold q3;exact yGK _ (ypw l) hi hne
theorem yni (l:List Ck):off3 l=(vv3 l).getD (p3 l) 0-(vv3 l).getD (q3 l) 0:=by unfold off3;rfl
theorem yJx (l:List Ck):tr3 l=!decide ((vv3 l).getD (p3 l) 0=(vv3 l).getD (q3 l) 0):=by unfold tr3;rfl
theorem yfV (l:List Ck):fr3 l=((P3 l).getD (p3 l) (0,0)).1:=by unfold fr3;rfl
theorem yAv (l:List Ck):c3 l=mkV l 1 (fr3 l) (off3 l):=by unfold c3;rfl
theorem yvX (l:List Ck):o2 l<3:=by unfold o2;exact yJw _
theorem yAw (l:List Ck):o1 l=bif tr3 l&&!decide (p3 l=o2 l) then p3 l else pkO (vs3 l) (o2 l):=by unfold o1;rfl
theorem ypx (l:List Ck):o1 l<3∧o1 l≠o2 l:=by
 rw [yAw]
 cases hb:(tr3 l&&!decide (p3 l=o2 l)) with
 | false=>rw [cond_false];exact yGJ (vs3 l) (yvX l)
 | true =>
  rw [cond_true]
  simp only [qAc,qAv,decide_eq_false_iff_not] at hb
  exact ⟨ypw l,hb.2⟩
theorem yyN {i:Nat} (hi:i<3):(vv3 l).getD i 0=vS l 1 ((P3 l).getD i (0,0)):=by
 obtain rfl | rfl | rfl:i=0∨i=1∨i=2:=by omega
 all_goals rfl
structure C3 (l:List Ck) (D:Int):Prop where
 D1:1≤D∧D≤5184
 m:∃ E:Int,1≤E∧MkV l 1 (fr3 l) (off3 l) E
 so:small (off3 l)
 o0:0≤off3 l
 lo:fr3 l≤c3 l
 hi:c3 l≤((P3 l).getD (p3 l) (0,0)).2
 iP:∀ i,i<3→In D ((P3 l).getD i (0,0)).1∧In D ((P3 l).getD i (0,0)).2
 iC:In D (c3 l)
theorem vvs (hd:DK l) (h3:l.length=3) {i:Nat} (hi:i<3):small ((vv3 l).getD i 0)∧0≤(vv3 l).getD i 0∧(vv3 l).getD i 0≤12000:=by
 obtain ⟨D,g⟩:=g3 hd h3
 obtain ⟨v,iv⟩:=g.VQ hd h3 hi
 have h1:1<l.length:=by omega
 rw [yyN hi]
 obtain ⟨b1,b2⟩:=ypv hd h1 v.z v.le v.len
 have b3:=yt0 hd h1
 have D1:=g.D1
 exact ⟨sm3 (yvW D1.1 iv) ⟨D1.1,by omega⟩ (by grind) (by grind),b1,by grind⟩
theorem cut3 (hd:DK l) (h3:l.length=3):∃ D,C3 l D:=by
 obtain ⟨D,g⟩:=g3 hd h3
 have h1:1<l.length:=by omega
 have hp:p3 l<3:=ypw l
 have hq:q3 l<3∧q3 l≠p3 l:=yCz l
 obtain ⟨v,iv⟩:=g.VQ hd h3 hp
 obtain ⟨w,iw⟩:=g.VQ hd h3 hq.1
 have D1:=g.D1
 have sp:=vvs hd h3 hp
 have sq:=vvs hd h3 hq.1
 have mx:(vv3 l).getD (q3 l) 0≤(vv3 l).getD (p3 l) 0:=yLx l hq.1
 have io:In D (off3 l):=by
  rw [yni]
  rw [yyN hp,yyN hq.1]
  exact (yvW D1.1 iv).sub (yvW D1.1 iw)
 have o0:0≤off3 l:=by rw [yni];grind
 have ov:off3 l≤vS l 1 ((P3 l).getD (p3 l) (0,0)):=by
  rw [← yyN hp];rw [yni];grind
 have ov2:off3 l≤vXA l 1 ((P3 l).getD (p3 l) (0,0)).2-vXA l 1 (fr3 l):=by rw [yfV];exact ov
 have ml:=yAu hd h1 v.len
 have hv:off3 l≤vXA l 1 (lenR l)-vXA l 1 (fr3 l):=by
  have:vXA l 1 ((P3 l).getD (p3 l) (0,0)).2≤vXA l 1 (lenR l):=ml
  grind
 have fz:0≤fr3 l:=by rw [yfV];exact v.z
 have fle:fr3 l≤((P3 l).getD (p3 l) (0,0)).2:=by rw [yfV];exact v.le
 have fI:In D (fr3 l):=by rw [yfV];exact iv.1
 have m:=yyM hd h1 (q:=fr3 l) (v:=off3 l) fz (qBu fle v.len) o0 hv D1.1 (by omega) fI io
 obtain ⟨d,hd1,k⟩:=m.d
 have dD:1*1≤d*D:=qA6 hd1.1 D1.1 (by omega) (by omega)
 have dD2:d*D≤12*432:=qA6 hd1.2 D1.2 (by omega) (by omega)
 have hi:c3 l≤((P3 l).getD (p3 l) (0,0)).2:=by
  by_cases hz:off3 l=0
  ·have e:c3 l=fr3 l:=by
    rw [yAv]
    unfold mkV mrkC
    rw [if_pos hz];rfl
   rw [e];exact fle
  refine Rat.not_lt.1 fun k2=>?_
  have e:=m.eqv
  have h1':0<off3 l:=by grind
  obtain ⟨p,d,e',_,_,k1,_,_,k4⟩:=yEi (hd.ok 1 h1) (p:=fr3 l) (v:=off3 l) fz (by rw [hd.len 1 h1];exact qBu fle v.len) h1' (by
   have:=hv
   unfold vXA lenR at this
   rw [hd.len 1 h1];exact this) D1.1 (by omega) fI io
  obtain ⟨_,g2⟩:=yGw e'
  have g2:c3 l=p:=by rw [yAv];exact g2
  rw [g2] at k2
  have:=k4 _ k2
  have k1:vXA l 1 p=vXA l 1 (fr3 l)+off3 l:=k1
  have this:vXA l 1 ((P3 l).getD (p3 l) (0,0)).2<vXA l 1 p:=this
  grind
 refine ⟨d*D,⟨by omega,by omega⟩,⟨D,D1.1,m⟩,sm3 io ⟨D1.1,by omega⟩ (by grind) (by have:=sp.2.2;have:=sq.2.1;rw [yni];grind),o0,by rw [yAv];exact m.ge,hi,fun i hi=>?_,by rw [yAv];exact k⟩
 obtain ⟨_,j1,j2⟩:=g.VQ hd h3 hi
 exact ⟨j1.up D1.1 hd1.1,j2.up D1.1 hd1.1⟩
end
set_option maxHeartbeats 1000000
section
variable {l:List Ck}
def s3 (l:List Ck) (i:Nat):RS:=(S3 l).getD i (0,0)
theorem yCA:S3 l=[s3 l 0,s3 l 1,s3 l 2]:=by
 have h:(S3 l).length=3:=by
  unfold S3
  cases tr3 l with
  | true=>rw [cond_true,qCa];rfl
  | false=>rfl
 unfold s3
 match h2:S3 l,h with
 | [a,b,c],_=>rfl
theorem yjW {i:Nat} (hi:i<3):s3 l i=bif tr3 l&&decide (i=p3 l) then (c3 l,((P3 l).getD (p3 l) (0,0)).2) else (P3 l).getD i (0,0):=by
 unfold s3 S3
 have hl:(P3 l).length=3:=rfl
 cases tr3 l with
 | true =>
  rw [cond_true,qBq]
  by_cases e:i=p3 l
  ·subst e
   rw [decide_eq_true rfl,cond_true,qAb,qBa (by omega)]
   rfl
  ·rw [decide_eq_false e,cond_false,qAb,qA3 (fun h=>e h.symm),← qAb]
 | false=>rw [cond_false,qB4,cond_false]
theorem S3VQ (hd:DK l) (h3:l.length=3):∃ D:Int,(1≤D∧D≤5184)∧∀ i,i<3→VQ l (s3 l i)∧In D (s3 l i).1∧In D (s3 l i).2:=by
 obtain ⟨D,c⟩:=cut3 hd h3
 obtain ⟨D0,g⟩:=g3 hd h3
 have hl:=(hd.ok 0 (by omega)).len0
 have hL:lenR l≤1000:=qAw.2 hl.2
 have hp:p3 l<3:=ypw l
 refine ⟨D,c.D1,fun i hi=>?_⟩
 rw [yjW hi]
 obtain ⟨v,_⟩:=g.VQ hd h3 hi
 obtain ⟨w,_⟩:=g.VQ hd h3 hp
 have D1:=c.D1
 cases hc:(tr3 l&&decide (i=p3 l)) with
 | false=>exact ⟨v,c.iP i hi⟩
 | true =>
  have z:0≤c3 l:=qBu (by rw [yfV];exact w.z) c.lo
  have wl:=w.len
  have ch:=c.hi
  refine ⟨⟨sm3 c.iC ⟨D1.1,by omega⟩ (by show -12000≤c3 l;grind) (by show c3 l≤12000;grind),w.s2,z,c.hi,w.len,D,⟨D1.1,by omega⟩,c.iC,(c.iP _ hp).2⟩,c.iC,(c.iP _ hp).2⟩
def pc3 (l:List Ck):Int:=bif tr3 l then (p3 l:Int) else -1
def yf6 (l:List Ck):List Qy:=[mkQ 0 0 (totR l 0*r13) (A3 l)]++[mkQ 0 0 (totR l 0*r23) (B3 l)]++[vlQ l 1 0 (A3 l)]++[vlQ l 1 (A3 l) (B3 l)]
def yAx (l:List Ck):List Qy:=[vlQ l 2 (s3 l 0).1 (s3 l 0).2]++[vlQ l 2 (s3 l 1).1 (s3 l 1).2]++[vlQ l 2 (s3 l 2).1 (s3 l 2).2]
def log3 (l:List Ck):List Qy:=yf6 l++((bif tr3 l then [mkQ 1 (fr3 l) (off3 l) (c3 l)] else [])++yAx l)
theorem yq3 {q r:Rat}:((q.num == r.num)&&(((q.den:Int) ==(r.den:Int))&&true))=decide (q=r):=by
 by_cases h:q=r
 ·subst h;simp
 ·rw [decide_eq_false h,Bool.and_true]
  cases h1:(q.num == r.num) with
  | false=>rfl
  | true =>
   cases h2:((q.den:Int) ==(r.den:Int)) with
   | false=>rfl
   | true =>
    simp only [beq_iff_eq] at h1 h2
    exact absurd (Rat.ext h1 (by omega)) h
theorem neF3 {a b:Nat} (h:a=b):(((a:Nat):Int) !=((b:Nat):Int))=false:=by rw [h];simp
theorem neT3 {a b:Nat} (h:¬a=b):(((a:Nat):Int) !=((b:Nat):Int))=true:=by simp only [bne_iff_ne,ne_eq];omega
theorem yJy (hd:DK l) (h3:l.length=3) {lg:List Qy} (hm:lg.length+10<2000) (K) :
  yag (cks l) (logs lg) K=K (s3 l 0).1.num (s3 l 0).1.den (s3 l 0).2.num (s3 l 0).2.den (s3 l 1).1.num (s3 l 1).1.den (s3 l 1).2.num (s3 l 1).2.den (s3 l 2).1.num (s3 l 2).1.den (s3 l 2).2.num (s3 l 2).2.den
   (pc3 l) (bif tr3 l then (fr3 l).num else 0) (bif tr3 l then ((fr3 l).den:Int) else 0) (bif tr3 l then (c3 l).num else 0) (bif tr3 l then ((c3 l).den:Int) else 0) (o0 l:Int) (o1 l:Int) (o2 l:Int) (cks l) (logs (lg++log3 l)):=by
 obtain ⟨D,g⟩:=g3 hd h3
 have h0:0<l.length:=by omega
 have h1:1<l.length:=by omega
 have h2:2<l.length:=by omega
 have D1:=g.D1
 have v0:=(g.VQ hd h3 (i:=0) (by decide)).1
 have v1:=(g.VQ hd h3 (i:=1) (by decide)).1
 have i3:=In.r3 (totC (l.getD 0 default).cuts (l.getD 0 default).dens)
 have t0:=tot0 hd h0
 have t12:=yt0 hd h0
 have st:small (totR l 0):=sm3 (D:=1) (In.int (by decide) _) ⟨by decide,by decide⟩ (by grind) (by grind)
 have st1:small (totR l 1):=sm3 (D:=1) (In.int (by decide) _) ⟨by decide,by decide⟩ (by have:=tot0 hd h1;grind) (yt0 hd h1)
 have sa:small (totR l 0*r13):=sm3 i3.1 ⟨by decide,by decide⟩ (by rw [r13e];show -12000≤totR l 0*(1 / 3);grind) (by rw [r13e];show totR l 0*(1 / 3)≤12000;grind)
 have sb:small (totR l 0*r23):=sm3 i3.2 ⟨by decide,by decide⟩ (by rw [r23e];show -12000≤totR l 0*(2 / 3);grind) (by rw [r23e];show totR l 0*(2 / 3)≤12000;grind)
 have th0:=fun K=>yGH hd h0 (q:=0) (v:=totR l 0) v0.s1 qBb (by have:=g.a0;have:=g.ab;have:=g.bl;grind) st sa sb (by rw [r13e];grind) (by rw [r23e];grind) g.mA g.mB (lg:=lg) (by omega) K
 have eA:A3 l=mkV l 0 0 (totR l 0*r13):=by unfold A3;rfl
 have eB:B3 l=mkV l 0 0 (totR l 0*r23):=by unfold B3;rfl
 rw [← eA,← eB] at th0
 have th:∀ K,yad (cks l) (logs lg) 0 0 1 (totR l 0).num (totR l 0).den K=K (A3 l).num (A3 l).den (B3 l).num (B3 l).den (cks l) (logs ((lg++[mkQ 0 0 (totR l 0*r13) (A3 l)])++[mkQ 0 0 (totR l 0*r23) (B3 l)])):=th0
 have tt0:=fun K=>yJu hd h0 (lg:=logs lg) (by rw [ylX];omega) K
 have tt0:∀ K,yau (cks l) (logs lg) 0 K=K (totR l 0).num (totR l 0).den (cks l) (logs lg):=tt0
 unfold yag yeF
 dsimp only [lt,Go.Pf.jn]
 rw [yGG,ybD,asT (by omega),ycS h0,asCk,ck0,yGG,tt0,th]
 refine (yL0 hd h1 (s:=(0,A3 l)) (t:=(A3 l,B3 l)) v0 v1 (lg:=(lg++[mkQ 0 0 (totR l 0*r13) (A3 l)])++[mkQ 0 0 (totR l 0*r23) (B3 l)]) (by simp only [qAh,qAp];omega) _ _ _ _ _ _ _ _ _ _ _ _ _ _ _ _ _ _ _ _ ).trans ?_
 have v2:=(g.VQ hd h3 (i:=2) (by decide)).1
 have w0:small (vS l 1 (0,A3 l))∧0≤vS l 1 (0,A3 l)∧vS l 1 (0,A3 l)≤12000:=vvs hd h3 (i:=0) (by decide)
 have w1:small (vS l 1 (A3 l,B3 l))∧0≤vS l 1 (A3 l,B3 l)∧vS l 1 (A3 l,B3 l)≤12000:=vvs hd h3 (i:=1) (by decide)
 have w2:small (vS l 1 (B3 l,lenR l))∧0≤vS l 1 (B3 l,lenR l)∧vS l 1 (B3 l,lenR l)≤12000:=vvs hd h3 (i:=2) (by decide)
 have tt1:=fun K=>yJu hd h1 (lg:=logs (lg++yf6 l)) (by rw [ylX,qAh];show lg.length+4≤2000;omega) K
 have eT:totR l 1-vS l 1 (0,A3 l)-vS l 1 (A3 l,B3 l)=vS l 1 (B3 l,lenR l):=by
  rw [← tot3 hd h1]
  show vXA l 1 (lenR l)-vXA l 1 0-(vXA l 1 (A3 l)-vXA l 1 0)-(vXA l 1 (B3 l)-vXA l 1 (A3 l))=vXA l 1 (lenR l)-vXA l 1 (B3 l)
  grind
 have e1:totR l 1-vS l 1 (0,A3 l)=vS l 1 (A3 l,B3 l)+vS l 1 (B3 l,lenR l):=by grind
 have i1:In D (totR l 1-vS l 1 (0,A3 l)):=(In.int D1.1 _).sub (yvW D1.1 (g.VQ hd h3 (i:=0) (by decide)).2)
 have s1:small (totR l 1-vS l 1 (0,A3 l)):=sm3 i1 ⟨D1.1,by omega⟩ (by grind) (by have:=yt0 hd h1;grind)
 have sub0:∀ K,yaD (totR l 1).num (totR l 1).den (yaa (yab ((rts [vS l 1 (0,A3 l),vS l 1 (A3 l,B3 l)]).getD 0 .nils) 0)) (yaa (yab ((rts [vS l 1 (0,A3 l),vS l 1 (A3 l,B3 l)]).getD 0 .nils) 1)) K=K (totR l 1-vS l 1 (0,A3 l)).num (totR l 1-vS l 1 (0,A3 l)).den 0:=fun K =>
  (ynd st1 w0.1 K).trans (by rw [ycw,if_pos s1])
 have sub1:∀ K,yaD (totR l 1-vS l 1 (0,A3 l)).num (totR l 1-vS l 1 (0,A3 l)).den (yaa (yab ((rts [vS l 1 (0,A3 l),vS l 1 (A3 l,B3 l)]).getD 1 .nils) 0)) (yaa (yab ((rts [vS l 1 (0,A3 l),vS l 1 (A3 l,B3 l)]).getD 1 .nils) 1)) K=K (vS l 1 (B3 l,lenR l)).num (vS l 1 (B3 l,lenR l)).den 0:=fun K =>
  (ynd s1 w1.1 K).trans (by rw [eT,ycw,if_pos w2.1])
 have eV:rts [vS l 1 (0,A3 l),vS l 1 (A3 l,B3 l)]++[.agg [.int .i64 (vS l 1 (B3 l,lenR l)).num,.int .i64 (vS l 1 (B3 l,lenR l)).den]]=rts (vv3 l):=rfl
 have vs:∀ i,i<3→small ((vv3 l).getD i 0):=fun i hi=>(vvs hd h3 hi).1
 have hp:p3 l<3:=ypw l
 have hq:q3 l<3∧q3 l≠p3 l:=yCz l
 have pA:∀ K,yak (rts (vv3 l)) [.int .i64 0,.int .i64 1,.int .i64 2] K=K (p3 l:Nat):=fun K=>by unfold p3;exact yCy rfl vs K
 have pO:∀ K,yak (rts (vv3 l)) (nts (oth (p3 l))) K=K (q3 l:Nat):=fun K=>by unfold q3;exact yGL rfl vs hp K
 have eL:lg++[mkQ 0 0 (totR l 0*r13) (A3 l)]++[mkQ 0 0 (totR l 0*r23) (B3 l)]++[vlQ l 1 (0,A3 l).fst (0,A3 l).snd]++[vlQ l 1 (A3 l,B3 l).fst (A3 l,B3 l).snd]=lg++yf6 l:=by
  unfold yf6;simp only [qBe]
 have tt1:∀ K,yau (cks l) (logs (lg++yf6 l)) 1 K=K (totR l 1).num (totR l 1).den (cks l) (logs (lg++yf6 l)):=tt1
 rw [eL,tt1,sub0,yfm,sub1,yfm,eV,qAu,pA,ypZ hp,pO]
 have hl:(vv3 l).length=3:=rfl
 have gp:List.getD (rts (vv3 l)) (0+(((p3 l:Nat):Int)).toNat) .nils=encW ((vv3 l).getD (p3 l) 0):=by rw [qAe,qBh,yCt (by omega)]
 have gq:List.getD (rts (vv3 l)) (0+(((q3 l:Nat):Int)).toNat) .nils=encW ((vv3 l).getD (q3 l) 0):=by rw [qAe,qBh,yCt (by omega)]
 rw [gp,gq]
 have hlp:(rts (vv3 l)).length=3:=rfl
 have hlp':∀ x:PV,(List.set (rts (vv3 l)) (0+(((p3 l:Nat):Int)).toNat) x).length=3:=fun x=>by rw [qCa];rfl
 have hc:(!((yaa (yab (encW ((vv3 l).getD (p3 l) 0)) 0) == yaa (yab (encW ((vv3 l).getD (q3 l) 0)) 0))&&((yaa (yab (encW ((vv3 l).getD (p3 l) 0)) 1) == yaa (yab (encW ((vv3 l).getD (q3 l) 0)) 1))&&true)))=tr3 l:=by
  rw [yJx,← yq3];rfl
 rw [hlp,hc]
 have V:=fun i hi=>((S3VQ hd h3).choose_spec.2 i hi:VQ l (s3 l i)∧_).1
 have u0:=V 0 (by decide)
 have u1:=V 1 (by decide)
 have u2:=V 2 (by decide)
 have hw:∀ i,i<3→small ((ww3 l).getD i 0):=fun i hi=>by
  have h:=V i hi
  obtain ⟨D,D1,iD⟩:=h.D
  have e:(ww3 l).getD i 0=vS l 2 (s3 l i):=by
   unfold ww3
   rw [yCA]
   obtain rfl | rfl | rfl:i=0∨i=1∨i=2:=by omega
   all_goals rfl
  obtain ⟨b1,b2⟩:=ypv hd h2 h.z h.le h.len
  have b3:=yt0 hd h2
  obtain ⟨D',D1',iD'⟩:=S3VQ hd h3
  rw [e]
  exact sm3 (yvW D1'.1 (iD' i hi).2) ⟨D1'.1,by omega⟩ (by grind) (by grind)
 have ho2:o2 l<3:=yvX l
 have hvs:∀ i,i<3→small ((vs3 l).getD i 0):=fun i hi=>by
  unfold vs3
  cases tr3 l with
  | false=>exact vs i hi
  | true =>
   rw [cond_true]
   by_cases e:i=p3 l
   ·rw [e,qAb,qBa (by omega)]
    exact vs _ hq.1
   ·rw [qAb,qA3 (fun h=>e h.symm),← qAb]
    exact vs i hi
 have hvl:(vs3 l).length=3:=by
  unfold vs3
  cases tr3 l with
  | false=>rfl
  | true=>rw [cond_true,qCa];rfl
 have ho1:=ypx l
 have hwl:(ww3 l).length=3:=by unfold ww3;rw [yCA];rfl
 have pW:∀ K,yak (rts (ww3 l)) [.int .i64 0,.int .i64 1,.int .i64 2] K=K (o2 l:Nat):=fun K=>by unfold o2;exact yCy hwl hw K
 have pS:∀ K,yak (rts (vs3 l)) (nts (oth (o2 l))) K=K (pkO (vs3 l) (o2 l):Nat):=fun K=>yGL hvl hvs ho2 K
 cases htr:tr3 l with
 | false =>
  rw [yae]
  repeat (refine (asTT (by first | exact decide_eq_true (by omega) | rfl)).trans ?_)
  have z:S3 l=P3 l:=by unfold S3;rw [htr];rfl
  have z0:s3 l 0=(0,A3 l):=by unfold s3;rw [z];rfl
  have z1:s3 l 1=(A3 l,B3 l):=by unfold s3;rw [z];rfl
  have z2:s3 l 2=(B3 l,lenR l):=by unfold s3;rw [z];rfl
  refine (yKP hd h2 (s:=(0,A3 l)) (t:=(A3 l,B3 l)) (u:=(B3 l,lenR l)) v0 v1 v2 (lg:=lg++yf6 l) (by rw [qAh];show lg.length+4+3<2000;omega) _ _ _ _ _ _ _ _ _).trans ?_
  have eW:rts [vS l 2 (0,A3 l),vS l 2 (A3 l,B3 l),vS l 2 (B3 l,lenR l)]=rts (ww3 l):=by unfold ww3;rw [z];rfl
  have e1':o1 l=pkO (vs3 l) (o2 l):=by rw [yAw,htr];rfl
  have eT3:List.take 3 (rts (vv3 l))=rts (vs3 l):=by unfold vs3;rw [htr];rfl
  rw [eW]
  rw [qAu]
  rw [pW]
  rw [ypZ ho2]
  rw [eT3]
  rw [pS]
  rw [cbF (by decide)]
  rw [yae]
  rw [← e1']
  rw [yCx ho1.1 ho2 ho1.2]
  iterate 6 refine (asTT (by first | rfl | exact decide_eq_true (by omega))).trans ?_
  have eG:lg++yf6 l++[vlQ l 2 (0,A3 l).fst (0,A3 l).snd]++[vlQ l 2 (A3 l,B3 l).fst (A3 l,B3 l).snd]++[vlQ l 2 (B3 l,lenR l).fst (B3 l,lenR l).snd]=lg++log3 l:=by
   unfold log3 yAx
   rw [htr,z0,z1,z2,cond_false,List.nil_append]
   simp only [qBe]
  have e5:∀ x:Nat,yaa (List.getD (nts [x]) 0 .nils)=(x:Int):=fun _=>rfl
  have e6:pc3 l=-1:=by unfold pc3;rw [htr];rfl
  have e7:o0 l=3-o1 l-o2 l:=by unfold o0;rfl
  rw [eG,e5,e6,z0,z1,z2,e7]
  rfl
 | true =>
  rw [yam]
  obtain ⟨D',C⟩:=cut3 hd h3
  have sp:=vvs hd h3 hp
  have sq:=vvs hd h3 hq.1
  have subO:∀ K,yaD (yaa (yab (encW ((vv3 l).getD (p3 l) 0)) 0)) (yaa (yab (encW ((vv3 l).getD (p3 l) 0)) 1)) (yaa (yab (encW ((vv3 l).getD (q3 l) 0)) 0)) (yaa (yab (encW ((vv3 l).getD (q3 l) 0)) 1)) K=K (off3 l).num (off3 l).den 0:=fun K=>(ynd sp.1 sq.1 K).trans (by rw [← yni,ycw,if_pos C.so])
  have mk:∀ K,yar (cks l) (logs (lg++yf6 l)) 1 (fr3 l).num (fr3 l).den (off3 l).num (off3 l).den K=K (c3 l).num (c3 l).den (cks l) (logs (lg++yf6 l++[mkQ 1 (fr3 l) (off3 l) (c3 l)])):=fun K=>by
   obtain ⟨E,_,m⟩:=C.m
   rw [yAv]
   have w:=(g.VQ hd h3 hp).1
   exact yJt hd h1 (by rw [yfV];exact w.s1) (by rw [yfV];exact w.z) (by rw [yfV];exact qBu w.le w.len) C.so C.o0 m (by rw [qAh];show lg.length+4<2000;omega) K
  have eS:List.set (rts (vv3 l)) (0+(((p3 l:Nat):Int)).toNat) (.agg [.int .i64 (yaa (yab (encW ((vv3 l).getD (q3 l) 0)) 0)),.int .i64 (yaa (yab (encW ((vv3 l).getD (q3 l) 0)) 1))])=rts (vs3 l):=by
   unfold vs3
   rw [htr,cond_true,qAe,qBh]
   unfold rts
   rw [List.map_set]
   rfl
  rw [subO,yfm,eS]
  rcases (show p3 l=0∨p3 l=1∨p3 l=2 by omega) with hpe | hpe | hpe
  case' inl =>
   have hfr:fr3 l=0:=by rw [yfV,hpe];rfl
   have z0:s3 l 0=(c3 l,A3 l):=by rw [yjW (by decide),htr,hpe];rfl
   have z1:s3 l 1=(A3 l,B3 l):=by rw [yjW (by decide),htr,hpe];rfl
   have z2:s3 l 2=(B3 l,lenR l):=by rw [yjW (by decide),htr,hpe];rfl
   have mkp:∀ K,yar (cks l) (logs (lg++yf6 l)) 1 0 1 (off3 l).num (off3 l).den K=K (c3 l).num (c3 l).den (cks l) (logs (lg++yf6 l++[mkQ 1 (fr3 l) (off3 l) (c3 l)])):=fun K=>by
    have h:=mk K
    rw [hfr] at h ⊢
    exact h
   rw [hpe,cbT (show ((0:Nat):Int)=0 from rfl),cbT (show ((0:Nat):Int)=0 from rfl),mkp,cbT (show ((0:Nat):Int)=0 from rfl)]
  case' inr.inl =>
   have hfr:fr3 l=A3 l:=by rw [yfV,hpe];rfl
   have z0:s3 l 0=(0,A3 l):=by rw [yjW (by decide),htr,hpe];rfl
   have z1:s3 l 1=(c3 l,B3 l):=by rw [yjW (by decide),htr,hpe];rfl
   have z2:s3 l 2=(B3 l,lenR l):=by rw [yjW (by decide),htr,hpe];rfl
   have mkp:∀ K,yar (cks l) (logs (lg++yf6 l)) 1 (A3 l).num (A3 l).den (off3 l).num (off3 l).den K=K (c3 l).num (c3 l).den (cks l) (logs (lg++yf6 l++[mkQ 1 (fr3 l) (off3 l) (c3 l)])):=fun K=>by
    have h:=mk K
    rw [hfr] at h ⊢
    exact h
   rw [hpe,cbF (show ¬((1:Nat):Int)=0 by decide),cbT (show ((1:Nat):Int)=1 from rfl),cbF (show ¬((1:Nat):Int)=0 by decide),cbT (show ((1:Nat):Int)=1 from rfl),mkp,cbF (show ¬((1:Nat):Int)=0 by decide),cbT (show ((1:Nat):Int)=1 from rfl)]
  case' inr.inr =>
   have hfr:fr3 l=B3 l:=by rw [yfV,hpe];rfl
   have z0:s3 l 0=(0,A3 l):=by rw [yjW (by decide),htr,hpe];rfl
   have z1:s3 l 1=(A3 l,B3 l):=by rw [yjW (by decide),htr,hpe];rfl
   have z2:s3 l 2=(c3 l,lenR l):=by rw [yjW (by decide),htr,hpe];rfl
   have mkp:∀ K,yar (cks l) (logs (lg++yf6 l)) 1 (B3 l).num (B3 l).den (off3 l).num (off3 l).den K=K (c3 l).num (c3 l).den (cks l) (logs (lg++yf6 l++[mkQ 1 (fr3 l) (off3 l) (c3 l)])):=fun K=>by
    have h:=mk K
    rw [hfr] at h ⊢
    exact h
   rw [hpe,cbF (show ¬((2:Nat):Int)=0 by decide),cbF (show ¬((2:Nat):Int)=1 by decide),cbT (show ((2:Nat):Int)=2 from rfl),cbF (show ¬((2:Nat):Int)=0 by decide),cbF (show ¬((2:Nat):Int)=1 by decide),cbT (show ((2:Nat):Int)=2 from rfl),mkp,cbF (show ¬((2:Nat):Int)=0 by decide),cbF (show ¬((2:Nat):Int)=1 by decide),cbT (show ((2:Nat):Int)=2 from rfl)]
  all_goals
   rw [z0] at u0
   rw [z1] at u1
   rw [z2] at u2
   iterate 47 refine (asTT (by first | exact decide_eq_true (by omega) | rfl)).trans ?_
   refine (yKP hd h2 u0 u1 u2 (lg:=lg++yf6 l++[mkQ 1 (fr3 l) (off3 l) (c3 l)]) (by simp only [qAh,qAp];show lg.length+4+1+3<2000;omega) _ _ _ _ _ _ _ _ _).trans ?_
   have eW:rts [vS l 2 (s3 l 0),vS l 2 (s3 l 1),vS l 2 (s3 l 2)]=rts (ww3 l):=by unfold ww3;rw [yCA];rfl
   have eT3:List.take 3 (rts (vs3 l))=rts (vs3 l):=qBo (by rw [yCs];omega)
   have eG:lg++yf6 l++[mkQ 1 (fr3 l) (off3 l) (c3 l)]++[vlQ l 2 (s3 l 0).fst (s3 l 0).snd]++[vlQ l 2 (s3 l 1).fst (s3 l 1).snd]++[vlQ l 2 (s3 l 2).fst (s3 l 2).snd]=lg++log3 l:=by
    unfold log3 yAx
    rw [htr,cond_true]
    simp only [qBe]
   rw [z0,z1,z2] at eW eG
   have e5:∀ x:Nat,yaa (List.getD (nts [x]) 0 .nils)=(x:Int):=fun _=>rfl
   have e6:pc3 l=((p3 l:Nat):Int):=by unfold pc3;rw [htr];rfl
   have e7:o0 l=3-o1 l-o2 l:=by unfold o0;rfl
   have hlv:(rts (vs3 l)).length=3:=by rw [yCs];exact hvl
   rw [eW,qAu,pW,ypZ ho2,eT3,pS,cbT (by decide)]
   rw [hpe] at e6
   by_cases hn:p3 l=o2 l
   ·have e1':o1 l=pkO (vs3 l) (o2 l):=by
     rw [yAw,htr,decide_eq_true hn];rfl
    rw [hpe] at hn
    rw [neF3 hn,yae,← e1',yCx ho1.1 ho2 ho1.2]
    iterate 6 refine (asTT (by first | rfl | exact decide_eq_true (by omega))).trans ?_
    rw [eG,e5,e6,z0,z1,z2,e7]
    rw [hfr]
    rfl
   ·have e1':o1 l=p3 l:=by
     rw [yAw,htr,decide_eq_false hn];rfl
    rw [hpe] at hn e1'
    rw [neT3 hn,yam]
    have ot:=fun K=>yCx ho1.1 ho2 ho1.2 K
    rw [e1'] at ot
    rw [ot]
    iterate 6 refine (asTT (by first | rfl | exact decide_eq_true (by omega))).trans ?_
    rw [eG,e5,e6,z0,z1,z2,e7,e1']
    rw [hfr]
    rfl
end
section
variable {l:List Ck}
theorem yKQ (hd:DK l) {a:Nat} (ha:a<l.length) {s:RS} (hs:VQ l s) {lg:List Qy} (hm:lg.length+1<2000) {x0 x1} :
  (∃ n,ycj yan yac yad yak yai x0 x1 n (cks l) (logs lg) (a:Int) [encR s] 1 0) =
  x1 (rts [vS l a s]) (cks l) (logs ((lg)++[vlQ l a s.1 s.2])) (a:Int) [encR s] 1 1 false:=by
 rw [exS3 rfl (R:=fun n=>ybJ yan yac yad yak yai x1 n (rts [vS l a s]) (cks l) (logs ((lg)++[vlQ l a s.1 s.2])) (a:Int) [encR s] 1 1) (fun n=>?_),
  exS3 rfl (R:=fun _=>x1 (rts [vS l a s]) (cks l) (logs ((lg)++[vlQ l a s.1 s.2])) (a:Int) [encR s] 1 1 false) (fun n=>by kernel_rfl),exC3]
 have e:ycj yan yac yad yak yai x0 x1 (n+1) (cks l) (logs lg) (a:Int) [encR s] 1 0=yan (cks l) (logs (lg)) a s.1.num s.1.den s.2.num s.2.den (fun c g y0 y1 y2=>yac y0 y1 y2 fun r0 r1=>ybJ yan yac yad yak yai x1 n [.agg [.int .i64 r0,.int .i64 r1]] c g (a:Int) [encR s] 1 1):=by kernel_rfl
 rw [e,hs.val hd ha (by omega),yfm]
 rfl
theorem yKR (hd:DK l) {a:Nat} (ha:a<l.length) {s t u:RS} (hs:VQ l s) (ht:VQ l t) (hu:VQ l u) {lg:List Qy} (hm:lg.length+3<2000) {x2 x3} (v:List PV) :
  (∃ n,yck yan yac yad yak yai x2 x3 n v [encR s,encR t,encR u] (cks l) (logs lg) (a:Int) 3 0) =
  x3 v [encR s,encR t,encR u] (rts [vS l a s,vS l a t,vS l a u]) (cks l) (logs ((((lg)++[vlQ l a s.1 s.2])++[vlQ l a t.1 t.2])++[vlQ l a u.1 u.2])) (a:Int) 3 3 false:=by
 rw [exS3 rfl (R:=fun n=>yaT yan yac yad yak yai x3 n v [encR s,encR t,encR u] (rts [vS l a s]) (cks l) (logs ((lg)++[vlQ l a s.1 s.2])) (a:Int) 3 1) (fun n=>?_),
  exS3 rfl (R:=fun n=>yaT yan yac yad yak yai x3 n v [encR s,encR t,encR u] (rts [vS l a s,vS l a t]) (cks l) (logs (((lg)++[vlQ l a s.1 s.2])++[vlQ l a t.1 t.2])) (a:Int) 3 2) (fun n=>?_),
  exS3 rfl (R:=fun n=>yaT yan yac yad yak yai x3 n v [encR s,encR t,encR u] (rts [vS l a s,vS l a t,vS l a u]) (cks l) (logs ((((lg)++[vlQ l a s.1 s.2])++[vlQ l a t.1 t.2])++[vlQ l a u.1 u.2])) (a:Int) 3 3) (fun n=>?_),
  exS3 rfl (R:=fun _=>x3 v [encR s,encR t,encR u] (rts [vS l a s,vS l a t,vS l a u]) (cks l) (logs ((((lg)++[vlQ l a s.1 s.2])++[vlQ l a t.1 t.2])++[vlQ l a u.1 u.2])) (a:Int) 3 3 false) (fun n=>by kernel_rfl),exC3]
 ·have e:yaT yan yac yad yak yai x3 (n+1) v [encR s,encR t,encR u] (rts [vS l a s,vS l a t]) (cks l) (logs (((lg)++[vlQ l a s.1 s.2])++[vlQ l a t.1 t.2])) (a:Int) 3 2=yan (cks l) (logs (((lg)++[vlQ l a s.1 s.2])++[vlQ l a t.1 t.2])) a u.1.num u.1.den u.2.num u.2.den (fun c g y0 y1 y2=>yac y0 y1 y2 fun r0 r1=>yaT yan yac yad yak yai x3 n v [encR s,encR t,encR u] [encW (vS l a s),encW (vS l a t),.agg [.int .i64 r0,.int .i64 r1]] c g (a:Int) 3 3):=by kernel_rfl
  rw [e,hu.val hd ha (by simp only [qAh,qAp];omega),yfm]
  rfl
 ·have e:yaT yan yac yad yak yai x3 (n+1) v [encR s,encR t,encR u] (rts [vS l a s]) (cks l) (logs ((lg)++[vlQ l a s.1 s.2])) (a:Int) 3 1=yan (cks l) (logs ((lg)++[vlQ l a s.1 s.2])) a t.1.num t.1.den t.2.num t.2.den (fun c g y0 y1 y2=>yac y0 y1 y2 fun r0 r1=>yaT yan yac yad yak yai x3 n v [encR s,encR t,encR u] [encW (vS l a s),.agg [.int .i64 r0,.int .i64 r1]] c g (a:Int) 3 2):=by kernel_rfl
  rw [e,ht.val hd ha (by rw [qAh,qAp];omega),yfm]
  rfl
 ·have e:yck yan yac yad yak yai x2 x3 (n+1) v [encR s,encR t,encR u] (cks l) (logs lg) (a:Int) 3 0=yan (cks l) (logs (lg)) a s.1.num s.1.den s.2.num s.2.den (fun c g y0 y1 y2=>yac y0 y1 y2 fun r0 r1=>yaT yan yac yad yak yai x3 n v [encR s,encR t,encR u] [.agg [.int .i64 r0,.int .i64 r1]] c g (a:Int) 3 1):=by kernel_rfl
  rw [e,hs.val hd ha (by omega),yfm]
  rfl
theorem yL1 (hd:DK l) {a:Nat} (ha:a<l.length) {s t:RS} (hs:VQ l s) (ht:VQ l t) {lg:List Qy} (hm:lg.length+2<2000) {x6 x7} (v c1 c2:List PV) :
  (∃ n,ycl yan yac yad yak yai x6 x7 n v c1 c2 (cks l) (logs lg) (a:Int) [encR s,encR t] 2 0) =
  x7 v c1 c2 (rts [vS l a s,vS l a t]) (cks l) (logs (((lg)++[vlQ l a s.1 s.2])++[vlQ l a t.1 t.2])) (a:Int) [encR s,encR t] 2 2 false:=by
 rw [exS3 rfl (R:=fun n=>ybd yan yac yad yak yai x7 n v c1 c2 (rts [vS l a s]) (cks l) (logs ((lg)++[vlQ l a s.1 s.2])) (a:Int) [encR s,encR t] 2 1) (fun n=>?_),
  exS3 rfl (R:=fun n=>ybd yan yac yad yak yai x7 n v c1 c2 (rts [vS l a s,vS l a t]) (cks l) (logs (((lg)++[vlQ l a s.1 s.2])++[vlQ l a t.1 t.2])) (a:Int) [encR s,encR t] 2 2) (fun n=>?_),
  exS3 rfl (R:=fun _=>x7 v c1 c2 (rts [vS l a s,vS l a t]) (cks l) (logs (((lg)++[vlQ l a s.1 s.2])++[vlQ l a t.1 t.2])) (a:Int) [encR s,encR t] 2 2 false) (fun n=>by kernel_rfl),exC3]
 ·have e:ybd yan yac yad yak yai x7 (n+1) v c1 c2 (rts [vS l a s]) (cks l) (logs ((lg)++[vlQ l a s.1 s.2])) (a:Int) [encR s,encR t] 2 1=yan (cks l) (logs ((lg)++[vlQ l a s.1 s.2])) a t.1.num t.1.den t.2.num t.2.den (fun c g y0 y1 y2=>yac y0 y1 y2 fun r0 r1=>ybd yan yac yad yak yai x7 n v c1 c2 [encW (vS l a s),.agg [.int .i64 r0,.int .i64 r1]] c g (a:Int) [encR s,encR t] 2 2):=by kernel_rfl
  rw [e,ht.val hd ha (by rw [qAh,qAp];omega),yfm]
  rfl
 ·have e:ycl yan yac yad yak yai x6 x7 (n+1) v c1 c2 (cks l) (logs lg) (a:Int) [encR s,encR t] 2 0=yan (cks l) (logs (lg)) a s.1.num s.1.den s.2.num s.2.den (fun c g y0 y1 y2=>yac y0 y1 y2 fun r0 r1=>ybd yan yac yad yak yai x7 n v c1 c2 [.agg [.int .i64 r0,.int .i64 r1]] c g (a:Int) [encR s,encR t] 2 1):=by kernel_rfl
  rw [e,hs.val hd ha (by omega),yfm]
  rfl
@[irreducible] def had3 (l:List Ck):Nat:=if o2 l=p3 l then 2 else 1
@[irreducible] def not3 (l:List Ck):Nat:=if o2 l=p3 l then 1 else 2
def w3 (l:List Ck):Rat:=vS l (not3 l) (fr3 l,c3 l)
@[irreducible] def x3 (l:List Ck):Rat:=mkV l (not3 l) (fr3 l) (w3 l*r13)
@[irreducible] def y3 (l:List Ck):Rat:=mkV l (not3 l) (fr3 l) (w3 l*r23)
def K3 (l:List Ck):List RS:=[(fr3 l,x3 l),(x3 l,y3 l),(y3 l,c3 l)]
def u3 (l:List Ck):List Rat:=(K3 l).map (vS l (had3 l))
@[irreducible] def one3 (l:List Ck):Nat:=pk (u3 l)
def k3 (l:List Ck) (i:Nat):RS:=(K3 l).getD i (0,0)
def lf3 (l:List Ck) (i:Nat):Nat:=(oth (one3 l)).getD i 0
def z3 (l:List Ck):List Rat:=[vS l 0 (k3 l (lf3 l 0)),vS l 0 (k3 l (lf3 l 1))]
@[irreducible] def kk3 (l:List Ck):Nat:=pkL (fun i=>(z3 l).getD i 0) 0 [0,1]
def cr3 (l:List Ck) (a:Nat):RS:=if a=had3 l then k3 l (one3 l) else if a=0 then k3 l (lf3 l (kk3 l)) else k3 l (lf3 l (1-kk3 l))
theorem ywQ (l:List Ck):(had3 l=1∧not3 l=2)∨(had3 l=2∧not3 l=1):=by
 unfold had3 not3
 by_cases h:o2 l=p3 l
 ·rw [if_pos h,if_pos h];exact .inr ⟨rfl,rfl⟩
 ·rw [if_neg h,if_neg h];exact .inl ⟨rfl,rfl⟩
theorem yCB (l:List Ck):one3 l<3:=by unfold one3;exact yJw _
theorem yCC (l:List Ck):lf3 l 0<3∧lf3 l 1<3∧lf3 l 0≠one3 l∧lf3 l 1≠one3 l∧lf3 l 0≠lf3 l 1:=by
 have h:=yCB l
 unfold lf3
 obtain e | e | e:one3 l=0∨one3 l=1∨one3 l=2:=by omega
 all_goals (rw [e];decide)
theorem yGM (l:List Ck):kk3 l<2:=by
 obtain ⟨h,_⟩:=ynh (v:=fun i=>(z3 l).getD i 0) [0,1] 0
 unfold kk3
 rcases h with h | h
 ·rw [h];decide
 ·simp only [qAq,List.not_mem_nil,or_false] at h;omega
structure X3 (l:List Ck) (D:Int):Prop where
 D1:1≤D∧D≤3000000
 w0:0≤w3 l
 ws:small (w3 l)
 w1:small (w3 l*r13)
 w2:small (w3 l*r23)
 m1:∃ E:Int,MkV l (not3 l) (fr3 l) (w3 l*r13) E
 m2:∃ E:Int,MkV l (not3 l) (fr3 l) (w3 l*r23) E
 fx:fr3 l≤x3 l
 xy:x3 l≤y3 l
 yc:y3 l≤c3 l
 v1:vXA l (not3 l) (x3 l)=vXA l (not3 l) (fr3 l)+w3 l*r13
 v2:vXA l (not3 l) (y3 l)=vXA l (not3 l) (fr3 l)+w3 l*r23
 vq:∀ i,i<3→VQ l (k3 l i)∧In D (k3 l i).1∧In D (k3 l i).2
 iP:∀ i,i<3→In D ((P3 l).getD i (0,0)).1∧In D ((P3 l).getD i (0,0)).2
end
section
variable {l:List Ck}
theorem yyO {a:Nat} {q v:Rat} (h:v=0):mkV l a q v=q:=by
 unfold mkV mrkC
 rw [if_pos h]
 rfl
theorem In.t13 {D:Int} (hD:1≤D) {q:Rat} (h:In D q):In (3*D) (q*r13)∧In (3*D) (q*r23):=by
 have h1:=h.div hD (d:=3) (by decide)
 have h2:=(h.mulI 2).div hD (d:=3) (by decide)
 constructor
 ·have e:q*r13=q / ((3:Int):Rat):=by rw [r13e];have:((3:Int):Rat)=3:=rfl;rw [this];grind
  rw [e];exact h1
 ·have e:q*r23=q*((2:Int):Rat) / ((3:Int):Rat):=by rw [r23e];have h3:((3:Int):Rat)=3:=rfl;have h2:((2:Int):Rat)=2:=rfl;rw [h3,h2];grind
  rw [e];exact h2
theorem yKS (hd:DK l) (h3:l.length=3):∃ D,X3 l D:=by
 obtain ⟨D,C⟩:=cut3 hd h3
 obtain ⟨D0,g⟩:=g3 hd h3
 have hp:=ypw l
 obtain ⟨vp,_⟩:=g.VQ hd h3 hp
 have hn:not3 l<l.length:=by rcases ywQ l with h | h <;> omega
 have D1:=C.D1
 have hl:=(hd.ok 0 (by omega)).len0
 have hL:lenR l≤1000:=qAw.2 hl.2
 have fz:0≤fr3 l:=by rw [yfV];exact vp.z
 have cl:c3 l≤lenR l:=qBu C.hi vp.len
 have fc:=C.lo
 have iF:In D (fr3 l):=by rw [yfV];exact (C.iP _ hp).1
 have iC:=C.iC
 have iw:In D (w3 l):=yvW D1.1 (s:=(fr3 l,c3 l)) ⟨iF,iC⟩
 have wb:=ypv hd hn (s:=(fr3 l,c3 l)) fz fc cl
 have w0:0≤w3 l:=wb.1
 have w12:w3 l≤12000:=qBu wb.2 (yt0 hd hn)
 have t:=iw.t13 D1.1
 have e3:∀ q:Rat,q*r13=q / 3∧q*r23=2*q / 3:=fun q=>by rw [r13e,r23e];constructor <;> grind
 have wv:vXA l (not3 l) (c3 l)=vXA l (not3 l) (fr3 l)+w3 l:=by
  unfold w3 vS
  show _=vXA l (not3 l) (fr3 l)+(vXA l (not3 l) (c3 l)-vXA l (not3 l) (fr3 l))
  grind
 have ml:=yAu hd hn cl
 have m1:=yyM hd hn (q:=fr3 l) (v:=w3 l*r13) fz (qBu fc cl) (by rw [(e3 _).1];grind) (by rw [(e3 _).1];grind) (D:=3*D) (by omega) (by omega) (iF.up D1.1 (by decide)) t.1
 have m2:=yyM hd hn (q:=fr3 l) (v:=w3 l*r23) fz (qBu fc cl) (by rw [(e3 _).2];grind) (by rw [(e3 _).2];grind) (D:=3*D) (by omega) (by omega) (iF.up D1.1 (by decide)) t.2
 have ex:x3 l=mkV l (not3 l) (fr3 l) (w3 l*r13):=by unfold x3;rfl
 have ey:y3 l=mkV l (not3 l) (fr3 l) (w3 l*r23):=by unfold y3;rfl
 obtain ⟨d,hd1,k1⟩:=m1.d
 obtain ⟨e,he1,k2⟩:=m2.d
 have v1:=m1.eqv
 have v2:=m2.eqv
 have fx:=m1.ge
 rw [← ex] at k1 v1 fx
 rw [← ey] at k2 v2
 have xy:x3 l≤y3 l:=by
  by_cases hz:w3 l=0
  ·rw [ex,ey,hz,yyO (by rw [r13e];grind),yyO (by rw [r23e];grind)];exact qBb
  ·refine qBp (lt3 hd hn ?_)
   rw [v1,v2,(e3 _).1,(e3 _).2];grind
 have yc:y3 l≤c3 l:=by
  by_cases hz:w3 l=0
  ·rw [ey,hz,yyO (by rw [r23e];grind)];exact fc
  ·refine qBp (lt3 hd hn ?_)
   rw [v2,wv,(e3 _).2];grind
 have de:1*1≤d*e:=qA6 hd1.1 he1.1 (by omega) (by omega)
 have de2:d*e≤12*12:=qA6 hd1.2 he1.2 (by omega) (by omega)
 have E1:1*1≤d*e*(3*D):=qA6 (by omega) (by omega) (by omega) (by omega)
 have E2:d*e*(3*D)≤144*(3*5184):=qA6 (by omega) (by omega) (by omega) (by omega)
 have jx:In (d*e*(3*D)) (x3 l):=In.D (by rw [Int.mul_comm d e,Int.mul_assoc]) ((k1.up (by
  have:1*1≤d*(3*D):=qA6 hd1.1 (by omega) (by omega) (by omega)
  omega) he1.1):In (e*(d*(3*D))) _)
 have jy:In (d*e*(3*D)) (y3 l):=In.D (by rw [Int.mul_assoc]) ((k2.up (by
  have:1*1≤e*(3*D):=qA6 he1.1 (by omega) (by omega) (by omega)
  omega) hd1.1):In (d*(e*(3*D))) _)
 have up:∀ {q:Rat},In D q→In (d*e*(3*D)) q:=fun h=>(h.up D1.1 (d:=3) (by decide)).up (by omega) (by omega)
 have sm:∀ {q:Rat},In (d*e*(3*D)) q→0≤q→q≤1000→small q:=fun h h0 h1=>sm3 h ⟨by omega,by omega⟩ (by grind) (by grind)
 have x0:0≤x3 l:=qBu fz fx
 have y0:0≤y3 l:=qBu x0 xy
 have yl:y3 l≤lenR l:=qBu yc cl
 have xl:x3 l≤lenR l:=qBu xy yl
 have sF:=sm (up iF) fz (by grind)
 have sX:=sm jx x0 (by grind)
 have sY:=sm jy y0 (by grind)
 have sC:=sm (up iC) (by grind) (by grind)
 refine ⟨d*e*(3*D),⟨by omega,by omega⟩,w0,sm3 iw ⟨D1.1,by omega⟩ (by grind) w12,sm3 t.1 ⟨by omega,by omega⟩ (by rw [(e3 _).1];grind) (by rw [(e3 _).1];grind),sm3 t.2 ⟨by omega,by omega⟩ (by rw [(e3 _).2];grind) (by rw [(e3 _).2];grind),⟨_,m1⟩,⟨_,m2⟩,fx,xy,yc,v1,v2,fun i hi=>?_,fun i hi=>⟨up (C.iP i hi).1,up (C.iP i hi).2⟩⟩
 obtain rfl | rfl | rfl:i=0∨i=1∨i=2:=by omega
 ·exact ⟨⟨sF,sX,fz,fx,xl,_,⟨by omega,by omega⟩,up iF,jx⟩,up iF,jx⟩
 ·exact ⟨⟨sX,sY,x0,xy,yl,_,⟨by omega,by omega⟩,jx,jy⟩,jx,jy⟩
 ·exact ⟨⟨sY,sC,y0,yc,cl,_,⟨by omega,by omega⟩,jy,up iC⟩,jy,up iC⟩
end
set_option maxHeartbeats 1000000
section
variable {l:List Ck}
def yAy (l:List Ck):List Qy:=[vlQ l (not3 l) (fr3 l) (c3 l)]++[mkQ (not3 l) (fr3 l) (w3 l*r13) (x3 l)]++[mkQ (not3 l) (fr3 l) (w3 l*r23) (y3 l)]++[vlQ l (had3 l) (fr3 l) (x3 l)]++[vlQ l (had3 l) (x3 l) (y3 l)]++[vlQ l (had3 l) (y3 l) (c3 l)]++[vlQ l 0 (k3 l (lf3 l 0)).1 (k3 l (lf3 l 0)).2]++[vlQ l 0 (k3 l (lf3 l 1)).1 (k3 l (lf3 l 1)).2]
theorem yKu (hd:DK l) (h3:l.length=3) {lg:List Qy} (hm:lg.length+10<2000) (i0 i1 i2 i3 i4 i5 i6 i7 i8 i9 i10 i11 b0 b1:Int) (K) :
  yah (cks l) (logs lg) i0 i1 i2 i3 i4 i5 i6 i7 i8 i9 i10 i11 (p3 l:Int) (fr3 l).num (fr3 l).den (c3 l).num (c3 l).den b0 b1 (o2 l:Int) K =
  K (cr3 l 0).1.num (cr3 l 0).1.den (cr3 l 0).2.num (cr3 l 0).2.den (cr3 l 1).1.num (cr3 l 1).1.den (cr3 l 1).2.num (cr3 l 1).2.den (cr3 l 2).1.num (cr3 l 2).1.den (cr3 l 2).2.num (cr3 l 2).2.den (cks l) (logs (lg++yAy l)):=by
 obtain ⟨D,X⟩:=yKS hd h3
 obtain ⟨D',C⟩:=cut3 hd h3
 obtain ⟨D0,g⟩:=g3 hd h3
 have h0:0<l.length:=by omega
 have h1:1<l.length:=by omega
 have h2:2<l.length:=by omega
 have D1:=X.D1
 have v0:VQ l (fr3 l,x3 l)∧_:=X.vq 0 (by decide)
 have v1:VQ l (x3 l,y3 l)∧_:=X.vq 1 (by decide)
 have v2:VQ l (y3 l,c3 l)∧_:=X.vq 2 (by decide)
 have vO:VQ l (fr3 l,c3 l):=⟨v0.1.s1,v2.1.s2,v0.1.z,C.lo,v2.1.len,D,⟨D1.1,by omega⟩,v0.2.1,v2.2.2⟩
 have sz:∀ {a:Nat} {s:RS},a<l.length→VQ l s∧In D s.1∧In D s.2→small (vS l a s):=fun {a s} ha h=>by
  obtain ⟨k1,k2⟩:=ypv hd ha h.1.z h.1.le h.1.len
  have k3:=yt0 hd ha
  exact sm3 (yvW D1.1 h.2) ⟨D1.1,by omega⟩ (by grind) (by grind)
 have hk:=yGM l
 have hone:=yCB l
 have ex:x3 l=mkV l (not3 l) (fr3 l) (w3 l*r13):=by unfold x3;rfl
 have ey:y3 l=mkV l (not3 l) (fr3 l) (w3 l*r23):=by unfold y3;rfl
 have th0:∀ {lg':List Qy},lg'.length+2<2000→∀ K,yad (cks l) (logs lg') (not3 l:Nat) (fr3 l).num (fr3 l).den (w3 l).num (w3 l).den K=K (x3 l).num (x3 l).den (y3 l).num (y3 l).den (cks l) (logs ((lg'++[mkQ (not3 l) (fr3 l) (w3 l*r13) (x3 l)])++[mkQ (not3 l) (fr3 l) (w3 l*r23) (y3 l)])):=fun {lg'} hm' K=>by
  obtain ⟨E1,m1⟩:=X.m1
  obtain ⟨E2,m2⟩:=X.m2
  have hn:not3 l<l.length:=by rcases ywQ l with h | h <;> omega
  have r1:0≤w3 l*r13:=by have:=X.w0;rw [r13e];grind
  have r2:0≤w3 l*r23:=by have:=X.w0;rw [r23e];grind
  have:=yGH hd hn (q:=fr3 l) (v:=w3 l) v0.1.s1 v0.1.z (qBu vO.le vO.len) X.ws X.w1 X.w2 r1 r2 m1 m2 (lg:=lg') hm' K
  rw [← ex,← ey] at this
  exact this
 have pU:∀ K,yak (rts (u3 l)) [.int .i64 0,.int .i64 1,.int .i64 2] K=K (one3 l:Nat):=fun K=>by
  have hh:had3 l<l.length:=by rcases ywQ l with h | h <;> omega
  unfold one3
  refine yCy rfl (fun i hi=>?_) K
  obtain rfl | rfl | rfl:i=0∨i=1∨i=2:=by omega
  ·exact sz hh v0
  ·exact sz hh v1
  ·exact sz hh v2
 have pK:∀ K,yak (rts (z3 l)) [.int .i64 0,.int .i64 1] K=K (kk3 l:Nat):=fun K=>by
  obtain ⟨j0,j1,_⟩:=yCC l
  unfold kk3
  refine yJv (vs:=z3 l) (i0:=0) (J:=[1]) (fun i hi=>?_) (fun i hi=>?_) (by decide) K
  ·have hi:i<2:=hi
   obtain rfl | rfl:i=0∨i=1:=by omega
   ·exact sz h0 (X.vq _ j0)
   ·exact sz h0 (X.vq _ j1)
  ·show i<2
   simp only [qAq,List.not_mem_nil,or_false] at hi
   omega
 have eG:lg++yAy l=lg++[vlQ l (not3 l) (fr3 l) (c3 l)]++[mkQ (not3 l) (fr3 l) (w3 l*r13) (x3 l)]++[mkQ (not3 l) (fr3 l) (w3 l*r23) (y3 l)]++[vlQ l (had3 l) (fr3 l) (x3 l)]++[vlQ l (had3 l) (x3 l) (y3 l)]++[vlQ l (had3 l) (y3 l) (c3 l)]++[vlQ l 0 (k3 l (lf3 l 0)).1 (k3 l (lf3 l 0)).2]++[vlQ l 0 (k3 l (lf3 l 1)).1 (k3 l (lf3 l 1)).2]:=by
  unfold yAy
  simp only [qBe]
 obtain ⟨j0,j1,_⟩:=yCC l
 unfold yah yeo
 dsimp only [lt,Go.Pf.jn]
 rcases ywQ l with ⟨eh,en⟩ | ⟨eh,en⟩
 case' inl =>
  have hb:(((o2 l:Nat):Int) ==((p3 l:Nat):Int))=false:=by
   unfold had3 at eh
   by_cases h:o2 l=p3 l
   ·rw [if_pos h] at eh;omega
   ·simp;omega
  have ew:w3 l=vS l 2 (fr3 l,c3 l):=by unfold w3;rw [en]
  have eu:u3 l=[vS l 1 (fr3 l,x3 l),vS l 1 (x3 l,y3 l),vS l 1 (y3 l,c3 l)]:=by unfold u3;rw [eh];rfl
  rw [hb,yae]
  refine (yKQ hd h2 (s:=(fr3 l,c3 l)) vO (lg:=lg) (by omega)).trans ?_
  have th:∀ K,yad (cks l) (logs (lg++[vlQ l 2 (fr3 l,c3 l).1 (fr3 l,c3 l).2])) 2 (fr3 l).num (fr3 l).den (yaa (yab (List.getD (rts [vS l 2 (fr3 l,c3 l)]) 0 .nils) 0)) (yaa (yab (List.getD (rts [vS l 2 (fr3 l,c3 l)]) 0 .nils) 1)) K=K (x3 l).num (x3 l).den (y3 l).num (y3 l).den (cks l) (logs (((lg++[vlQ l 2 (fr3 l,c3 l).1 (fr3 l,c3 l).2])++[mkQ 2 (fr3 l) (w3 l*r13) (x3 l)])++[mkQ 2 (fr3 l) (w3 l*r23) (y3 l)])):=fun K=>by
   have h:=th0 (lg':=lg++[vlQ l 2 (fr3 l,c3 l).1 (fr3 l,c3 l).2]) (by rw [qAh,qAp];omega) K
   rw [en] at h
   rw [← ew]
   exact h
  rw [th]
  iterate 5 refine (asTT (by first | rfl | exact decide_eq_true (by omega))).trans ?_
  refine (yKR hd h1 (s:=(fr3 l,x3 l)) (t:=(x3 l,y3 l)) (u:=(y3 l,c3 l)) v0.1 v1.1 v2.1 (lg:=((lg++[vlQ l 2 (fr3 l,c3 l).1 (fr3 l,c3 l).2])++[mkQ 2 (fr3 l) (w3 l*r13) (x3 l)])++[mkQ 2 (fr3 l) (w3 l*r23) (y3 l)]) (by simp only [qAh,qAp];omega) _).trans ?_
  rw [← eu,qAu,pU]
 case' inr =>
  have hb:(((o2 l:Nat):Int) ==((p3 l:Nat):Int))=true:=by
   unfold had3 at eh
   by_cases h:o2 l=p3 l
   ·rw [h];simp
   ·rw [if_neg h] at eh;omega
  have ew:w3 l=vS l 1 (fr3 l,c3 l):=by unfold w3;rw [en]
  have eu:u3 l=[vS l 2 (fr3 l,x3 l),vS l 2 (x3 l,y3 l),vS l 2 (y3 l,c3 l)]:=by unfold u3;rw [eh];rfl
  rw [hb,yam]
  refine (yKQ hd h1 (s:=(fr3 l,c3 l)) vO (lg:=lg) (by omega)).trans ?_
  have th:∀ K,yad (cks l) (logs (lg++[vlQ l 1 (fr3 l,c3 l).1 (fr3 l,c3 l).2])) 1 (fr3 l).num (fr3 l).den (yaa (yab (List.getD (rts [vS l 1 (fr3 l,c3 l)]) 0 .nils) 0)) (yaa (yab (List.getD (rts [vS l 1 (fr3 l,c3 l)]) 0 .nils) 1)) K=K (x3 l).num (x3 l).den (y3 l).num (y3 l).den (cks l) (logs (((lg++[vlQ l 1 (fr3 l,c3 l).1 (fr3 l,c3 l).2])++[mkQ 1 (fr3 l) (w3 l*r13) (x3 l)])++[mkQ 1 (fr3 l) (w3 l*r23) (y3 l)])):=fun K=>by
   have h:=th0 (lg':=lg++[vlQ l 1 (fr3 l,c3 l).1 (fr3 l,c3 l).2]) (by rw [qAh,qAp];omega) K
   rw [en] at h
   rw [← ew]
   exact h
  rw [th]
  iterate 5 refine (asTT (by first | rfl | exact decide_eq_true (by omega))).trans ?_
  refine (yKR hd h2 (s:=(fr3 l,x3 l)) (t:=(x3 l,y3 l)) (u:=(y3 l,c3 l)) v0.1 v1.1 v2.1 (lg:=((lg++[vlQ l 1 (fr3 l,c3 l).1 (fr3 l,c3 l).2])++[mkQ 1 (fr3 l) (w3 l*r13) (x3 l)])++[mkQ 1 (fr3 l) (w3 l*r23) (y3 l)]) (by simp only [qAh,qAp];omega) _).trans ?_
  rw [← eu,qAu,pU]
 all_goals
  rcases (show one3 l=0∨one3 l=1∨one3 l=2 by omega) with eo | eo | eo
 all_goals
  have ez:z3 l=[vS l 0 (k3 l (lf3 l 0)),vS l 0 (k3 l (lf3 l 1))]:=by unfold z3;rfl
  have sv:=fun {lg:List Qy} {x6 x7} hm a b c=>yL1 (x6:=x6) (x7:=x7) hd h0 (s:=k3 l (lf3 l 0)) (t:=k3 l (lf3 l 1)) (X.vq _ j0).1 (X.vq _ j1).1 (lg:=lg) hm a b c
  have c0:cr3 l 0=k3 l (lf3 l (kk3 l)):=by unfold cr3;rw [eh];rfl
  first
  | (rw [eo,show ∀ K,yai [.int .i64 ((0:Nat):Int)] K=K (nts [1,2]) from fun K=>ypZ (by decide) K]; have k0:k3 l (lf3 l 0)=(x3 l,y3 l):=(by unfold lf3;rw [eo];rfl); have k1:k3 l (lf3 l 1)=(y3 l,c3 l):=(by unfold lf3;rw [eo];rfl); rw [k0,k1] at sv ez eG)
  | (rw [eo,show ∀ K,yai [.int .i64 ((1:Nat):Int)] K=K (nts [0,2]) from fun K=>ypZ (by decide) K]; have k0:k3 l (lf3 l 0)=(fr3 l,x3 l):=(by unfold lf3;rw [eo];rfl); have k1:k3 l (lf3 l 1)=(y3 l,c3 l):=(by unfold lf3;rw [eo];rfl); rw [k0,k1] at sv ez eG)
  | (rw [eo,show ∀ K,yai [.int .i64 ((2:Nat):Int)] K=K (nts [0,1]) from fun K=>ypZ (by decide) K]; have k0:k3 l (lf3 l 0)=(fr3 l,x3 l):=(by unfold lf3;rw [eo];rfl); have k1:k3 l (lf3 l 1)=(x3 l,y3 l):=(by unfold lf3;rw [eo];rfl); rw [k0,k1] at sv ez eG)
  iterate 16 refine (asTT (by first | rfl | exact decide_eq_true (by omega))).trans ?_
  refine (sv (lg:=_) (by simp only [qAh,qAp];omega) _ _ _).trans ?_
  rw [en,eh] at eG
  rw [← ez,qAu,pK,eG,c0]
  rcases (show kk3 l=0∨kk3 l=1 by omega) with ek | ek
  all_goals
   first
   | rw [show cr3 l 1=k3 l (one3 l) by unfold cr3;rw [eh];rfl,show cr3 l 2=k3 l (lf3 l (1-kk3 l)) by unfold cr3;rw [eh];rfl]
   | rw [show cr3 l 1=k3 l (lf3 l (1-kk3 l)) by unfold cr3;rw [eh];rfl,show cr3 l 2=k3 l (one3 l) by unfold cr3;rw [eh];rfl]
   rw [ek,eo]
   first
   | rw [show k3 l (lf3 l (1-1))=_ from k0,k1];rfl
   | rw [show k3 l (lf3 l (1-0))=_ from k1,k0];rfl
end
set_option maxHeartbeats 1000000
def neS (s:Sp):Bool:=!((s.a == s.c)&&((s.b == s.d)&&true))
def fl2 (s t:Sp):List Sp:=(bif neS s then [s] else [])++(bif neS t then [t] else [])
theorem in0G {s t:Sp} {A P:Nat→Prop} {B:List PV→Nat→Int→Prop} {X:List PV→Prop} (hs:neS s=true) (z:A 0=False) (zB:∀ v j,B v 0 j=False) (a0:∀ n,A (n+1)=cbr (neS s) (B [encS s] n 1) (P n)) (a1:∀ n,B [encS s] (n+1) 1=cbr (neS t) (B [encS s,encS t] n 2) (B [encS s] n 2)) (a2:∀ v n,B v (n+1) 2=X v):(∃ n,A n)=X ((fl2 s t).map encS):=by
 rw [exS3 z (R:=fun n=>B [encS s] n 1) (fun n=>by rw [a0,hs,yam])]
 unfold fl2
 rw [hs]
 cases ht:neS t with
 | true =>
  rw [exS3 (zB _ _) (R:=fun n=>B [encS s,encS t] n 2) (fun n=>by rw [a1,ht,yam]),exS3 (zB _ _) (R:=fun _=>X [encS s,encS t]) (fun n=>a2 _ n),exC3]
  rfl
 | false =>
  rw [exS3 (zB _ _) (R:=fun n=>B [encS s] n 2) (fun n=>by rw [a1,ht,yae]),exS3 (zB _ _) (R:=fun _=>X [encS s]) (fun n=>a2 _ n),exC3]
  rfl
theorem in4G {s t:Sp} {A:Nat→Int→Prop} {B:List PV→Nat→Int→Prop} {X:List PV→Prop} {Y:Prop} (z:∀ j,A 0 j=False) (zB:∀ v j,B v 0 j=False) (a0:∀ n,A (n+1) 0=cbr (neS s) (B [encS s] n 1) (A n 1)) (b0:∀ n,A (n+1) 1=cbr (neS t) (B [encS t] n 2) (A n 2)) (b1:∀ n,A (n+1) 2=Y) (a1:∀ n,B [encS s] (n+1) 1=cbr (neS t) (B [encS s,encS t] n 2) (B [encS s] n 2)) (a2:∀ v n,B v (n+1) 2=X v):(∃ n,A n 0)=bif neS s||neS t then X ((fl2 s t).map encS) else Y:=by
 cases hs:neS s with
 | true=>exact in0G hs (z 0) zB a0 a1 a2
 | false =>
  unfold fl2
  rw [hs,exS3 (z _) (R:=fun n=>A n 1) (fun n=>by rw [a0,hs,yae])]
  cases ht:neS t with
  | true =>
   rw [exS3 (z _) (R:=fun n=>B [encS t] n 2) (fun n=>by rw [b0,ht,yam]),exS3 (zB _ _) (R:=fun _=>X [encS t]) (fun n=>a2 _ n),exC3]
   rfl
  | false =>
   rw [exS3 (z _) (R:=fun n=>A n 2) (fun n=>by rw [b0,ht,yae]),exS3 (z _) (R:=fun _=>Y) (fun n=>b1 n),exC3]
   rfl
section
variable (s t:Sp) (c g:List PV) (s00 s01 s02 s03 s10 s11 s12 s13 s20 s21 s22 s23 c00 c01 c02 c03 c10 c11 c12 c13 c20 c21 c22 c23 m0 m1 m2 m3 m4 o0 o1 o2 i:Int)
theorem in0 (hs:neS s=true) {x0 x1}:(∃ n,ydY yao yag yah yaj yaf x0 x1 n s00 s01 s02 s03 s10 s11 s12 s13 s20 s21 s22 s23 m0 m1 m2 m3 m4 o0 o1 o2 0 c g c00 c01 c02 c03 c10 c11 c12 c13 c20 c21 c22 c23 i [encS s,encS t] 2 0)=x1 ((fl2 s t).map encS) s00 s01 s02 s03 s10 s11 s12 s13 s20 s21 s22 s23 m0 m1 m2 m3 m4 o0 o1 o2 0 c g c00 c01 c02 c03 c10 c11 c12 c13 c20 c21 c22 c23 i [encS s,encS t] 2 2 false :=
 in0G (P:=fun n=>ydY yao yag yah yaj yaf x0 x1 n s00 s01 s02 s03 s10 s11 s12 s13 s20 s21 s22 s23 m0 m1 m2 m3 m4 o0 o1 o2 0 c g c00 c01 c02 c03 c10 c11 c12 c13 c20 c21 c22 c23 i [encS s,encS t] 2 1) (B:=fun v n j=>yfA yao yag yah yaj yaf x1 n v s00 s01 s02 s03 s10 s11 s12 s13 s20 s21 s22 s23 m0 m1 m2 m3 m4 o0 o1 o2 0 c g c00 c01 c02 c03 c10 c11 c12 c13 c20 c21 c22 c23 i [encS s,encS t] 2 j) (X:=fun v=>x1 v s00 s01 s02 s03 s10 s11 s12 s13 s20 s21 s22 s23 m0 m1 m2 m3 m4 o0 o1 o2 0 c g c00 c01 c02 c03 c10 c11 c12 c13 c20 c21 c22 c23 i [encS s,encS t] 2 2 false) hs rfl (fun _ _=>rfl) (fun n=>by kernel_rfl) (fun n=>by kernel_rfl) (fun v n=>by kernel_rfl)
theorem in4a (q1:PV) {x4 x5}:(∃ n,ycr yao yag yah yaj yaf x4 x5 n [q1] s00 s01 s02 s03 s10 s11 s12 s13 s20 s21 s22 s23 m0 m1 m2 m3 m4 o0 o1 o2 0 c g c00 c01 c02 c03 c10 c11 c12 c13 c20 c21 c22 c23 i [encS s,encS t] 2 0)=bif neS s||neS t then x5 [q1] ((fl2 s t).map encS) s00 s01 s02 s03 s10 s11 s12 s13 s20 s21 s22 s23 m0 m1 m2 m3 m4 o0 o1 o2 0 c g c00 c01 c02 c03 c10 c11 c12 c13 c20 c21 c22 c23 i [encS s,encS t] 2 2 false else x4 [q1] s00 s01 s02 s03 s10 s11 s12 s13 s20 s21 s22 s23 m0 m1 m2 m3 m4 o0 o1 o2 0 c g c00 c01 c02 c03 c10 c11 c12 c13 c20 c21 c22 c23 i [encS s,encS t] 2 2 false :=
 in4G (A:=fun n j=>ycr yao yag yah yaj yaf x4 x5 n [q1] s00 s01 s02 s03 s10 s11 s12 s13 s20 s21 s22 s23 m0 m1 m2 m3 m4 o0 o1 o2 0 c g c00 c01 c02 c03 c10 c11 c12 c13 c20 c21 c22 c23 i [encS s,encS t] 2 j) (B:=fun v n j=>ydZ yao yag yah yaj yaf x5 n [q1] v s00 s01 s02 s03 s10 s11 s12 s13 s20 s21 s22 s23 m0 m1 m2 m3 m4 o0 o1 o2 0 c g c00 c01 c02 c03 c10 c11 c12 c13 c20 c21 c22 c23 i [encS s,encS t] 2 j) (X:=fun v=>x5 [q1] v s00 s01 s02 s03 s10 s11 s12 s13 s20 s21 s22 s23 m0 m1 m2 m3 m4 o0 o1 o2 0 c g c00 c01 c02 c03 c10 c11 c12 c13 c20 c21 c22 c23 i [encS s,encS t] 2 2 false) (fun _=>rfl) (fun _ _=>rfl) (fun n=>by kernel_rfl) (fun n=>by kernel_rfl) (fun n=>by kernel_rfl) (fun n=>by kernel_rfl) (fun v n=>by kernel_rfl)
theorem in4b (q1 q2:PV) {x4 x5}:(∃ n,ycr yao yag yah yaj yaf x4 x5 n [q1,q2] s00 s01 s02 s03 s10 s11 s12 s13 s20 s21 s22 s23 m0 m1 m2 m3 m4 o0 o1 o2 0 c g c00 c01 c02 c03 c10 c11 c12 c13 c20 c21 c22 c23 i [encS s,encS t] 2 0)=bif neS s||neS t then x5 [q1,q2] ((fl2 s t).map encS) s00 s01 s02 s03 s10 s11 s12 s13 s20 s21 s22 s23 m0 m1 m2 m3 m4 o0 o1 o2 0 c g c00 c01 c02 c03 c10 c11 c12 c13 c20 c21 c22 c23 i [encS s,encS t] 2 2 false else x4 [q1,q2] s00 s01 s02 s03 s10 s11 s12 s13 s20 s21 s22 s23 m0 m1 m2 m3 m4 o0 o1 o2 0 c g c00 c01 c02 c03 c10 c11 c12 c13 c20 c21 c22 c23 i [encS s,encS t] 2 2 false :=
 in4G (A:=fun n j=>ycr yao yag yah yaj yaf x4 x5 n [q1,q2] s00 s01 s02 s03 s10 s11 s12 s13 s20 s21 s22 s23 m0 m1 m2 m3 m4 o0 o1 o2 0 c g c00 c01 c02 c03 c10 c11 c12 c13 c20 c21 c22 c23 i [encS s,encS t] 2 j) (B:=fun v n j=>ydZ yao yag yah yaj yaf x5 n [q1,q2] v s00 s01 s02 s03 s10 s11 s12 s13 s20 s21 s22 s23 m0 m1 m2 m3 m4 o0 o1 o2 0 c g c00 c01 c02 c03 c10 c11 c12 c13 c20 c21 c22 c23 i [encS s,encS t] 2 j) (X:=fun v=>x5 [q1,q2] v s00 s01 s02 s03 s10 s11 s12 s13 s20 s21 s22 s23 m0 m1 m2 m3 m4 o0 o1 o2 0 c g c00 c01 c02 c03 c10 c11 c12 c13 c20 c21 c22 c23 i [encS s,encS t] 2 2 false) (fun _=>rfl) (fun _ _=>rfl) (fun n=>by kernel_rfl) (fun n=>by kernel_rfl) (fun n=>by kernel_rfl) (fun n=>by kernel_rfl) (fun v n=>by kernel_rfl)
theorem yer (m:List PV) (K:List PV→Prop):yaf m 0 K=K m:=rfl
theorem yp0 {s t:Sp} (h:(neS s||neS t)=false):fl2 s t=[]:=by
 simp only [qB0] at h
 unfold fl2
 rw [h.1,h.2]
 rfl
theorem yL2 (hs:neS ⟨s00,s01,s02,s03⟩=true) {m:List PV} (hM:∀ K,yaj ((fl2 ⟨s00,s01,s02,s03⟩ ⟨c00,c01,c02,c03⟩).map encS) K=K m 0) {x0 x1 x2} (n:Nat) :
  ybw yao yag yah yaj yaf x0 x1 x2 (n+1) s00 s01 s02 s03 s10 s11 s12 s13 s20 s21 s22 s23 m0 m1 m2 m3 m4 0 o1 o2 0 c g c00 c01 c02 c03 c10 c11 c12 c13 c20 c21 c22 c23 0=yaA yao yag yah yaj yaf x2 n [.data m] s00 s01 s02 s03 s10 s11 s12 s13 s20 s21 s22 s23 m0 m1 m2 m3 m4 0 o1 o2 0 c g c00 c01 c02 c03 c10 c11 c12 c13 c20 c21 c22 c23 1:=by
 unfold ybw
 dsimp only [lt,Go.Pf.jn]
 rw [cbT (by decide),cbT (show (0:Int)=0 from rfl),cbT (show (0:Int)=0 from rfl),cbT (show (0:Int)=0 from rfl)]
 refine (in0 ⟨s00,s01,s02,s03⟩ ⟨c00,c01,c02,c03⟩ c g _ _ _ _ _ _ _ _ _ _ _ _ _ _ _ _ _ _ _ _ _ _ _ _ _ _ _ _ _ _ _ _ _  hs).trans ?_
 iterate 2 refine (asTT (by first | exact decide_eq_true (by omega) | rfl)).trans ?_
 rw [qAu,hM,yer]
 rfl
theorem yL3 (hs:neS ⟨s10,s11,s12,s13⟩=true) {m:List PV} (hM:∀ K,yaj ((fl2 ⟨s10,s11,s12,s13⟩ ⟨c00,c01,c02,c03⟩).map encS) K=K m 0) {x0 x1 x2} (n:Nat) :
  ybw yao yag yah yaj yaf x0 x1 x2 (n+1) s00 s01 s02 s03 s10 s11 s12 s13 s20 s21 s22 s23 m0 m1 m2 m3 m4 1 o1 o2 0 c g c00 c01 c02 c03 c10 c11 c12 c13 c20 c21 c22 c23 0=yaA yao yag yah yaj yaf x2 n [.data m] s00 s01 s02 s03 s10 s11 s12 s13 s20 s21 s22 s23 m0 m1 m2 m3 m4 1 o1 o2 0 c g c00 c01 c02 c03 c10 c11 c12 c13 c20 c21 c22 c23 1:=by
 unfold ybw
 dsimp only [lt,Go.Pf.jn]
 rw [cbT (by decide),cbT (show (0:Int)=0 from rfl),cbF (by decide),cbT (show (1:Int)=1 from rfl),cbT (show (0:Int)=0 from rfl)]
 refine (in0 ⟨s10,s11,s12,s13⟩ ⟨c00,c01,c02,c03⟩ c g _ _ _ _ _ _ _ _ _ _ _ _ _ _ _ _ _ _ _ _ _ _ _ _ _ _ _ _ _ _ _ _ _  hs).trans ?_
 iterate 2 refine (asTT (by first | exact decide_eq_true (by omega) | rfl)).trans ?_
 rw [qAu,hM,yer]
 rfl
theorem yL4 (hs:neS ⟨s20,s21,s22,s23⟩=true) {m:List PV} (hM:∀ K,yaj ((fl2 ⟨s20,s21,s22,s23⟩ ⟨c00,c01,c02,c03⟩).map encS) K=K m 0) {x0 x1 x2} (n:Nat) :
  ybw yao yag yah yaj yaf x0 x1 x2 (n+1) s00 s01 s02 s03 s10 s11 s12 s13 s20 s21 s22 s23 m0 m1 m2 m3 m4 2 o1 o2 0 c g c00 c01 c02 c03 c10 c11 c12 c13 c20 c21 c22 c23 0=yaA yao yag yah yaj yaf x2 n [.data m] s00 s01 s02 s03 s10 s11 s12 s13 s20 s21 s22 s23 m0 m1 m2 m3 m4 2 o1 o2 0 c g c00 c01 c02 c03 c10 c11 c12 c13 c20 c21 c22 c23 1:=by
 unfold ybw
 dsimp only [lt,Go.Pf.jn]
 rw [cbT (by decide),cbT (show (0:Int)=0 from rfl),cbF (by decide),cbF (by decide),cbT (show (2:Int)=2 from rfl),cbT (show (0:Int)=0 from rfl)]
 refine (in0 ⟨s20,s21,s22,s23⟩ ⟨c00,c01,c02,c03⟩ c g _ _ _ _ _ _ _ _ _ _ _ _ _ _ _ _ _ _ _ _ _ _ _ _ _ _ _ _ _ _ _ _ _  hs).trans ?_
 iterate 2 refine (asTT (by first | exact decide_eq_true (by omega) | rfl)).trans ?_
 rw [qAu,hM,yer]
 rfl
theorem yL5 (q1:PV) {m:List PV} (hM:∀ K,yaj ((fl2 ⟨s00,s01,s02,s03⟩ ⟨c10,c11,c12,c13⟩).map encS) K=K m 0) {x2} (n:Nat) :
  yaA yao yag yah yaj yaf x2 (n+1) [q1] s00 s01 s02 s03 s10 s11 s12 s13 s20 s21 s22 s23 m0 m1 m2 m3 m4 o0 0 o2 0 c g c00 c01 c02 c03 c10 c11 c12 c13 c20 c21 c22 c23 1=yaA yao yag yah yaj yaf x2 n [q1,.data m] s00 s01 s02 s03 s10 s11 s12 s13 s20 s21 s22 s23 m0 m1 m2 m3 m4 o0 0 o2 0 c g c00 c01 c02 c03 c10 c11 c12 c13 c20 c21 c22 c23 2:=by
 conv=>lhs;unfold yaA
 dsimp only [lt,Go.Pf.jn]
 rw [cbT (by decide),cbF (by decide),cbT (show (1:Int)=1 from rfl),cbT (show (0:Int)=0 from rfl),cbF (by decide),cbT (show (1:Int)=1 from rfl)]
 refine (asTT rfl).trans ?_
 refine (in4a ⟨s00,s01,s02,s03⟩ ⟨c10,c11,c12,c13⟩ c g _ _ _ _ _ _ _ _ _ _ _ _ _ _ _ _ _ _ _ _ _ _ _ _ _ _ _ _ _ _ _ _ _  q1).trans ?_
 cases hne:(neS ⟨s00,s01,s02,s03⟩||neS ⟨c10,c11,c12,c13⟩) with
 | true =>
  rw [cond_true]
  iterate 2 refine (asTT (by first | exact decide_eq_true (by omega) | rfl)).trans ?_
  rw [qAu,hM,yer]
  rfl
 | false =>
  rw [yp0 hne] at hM
  have hM:∀ K,yaj [] K=K m 0:=hM
  rw [cond_false,hM,yer]
  rfl
theorem yL6 (q1:PV) {m:List PV} (hM:∀ K,yaj ((fl2 ⟨s10,s11,s12,s13⟩ ⟨c10,c11,c12,c13⟩).map encS) K=K m 0) {x2} (n:Nat) :
  yaA yao yag yah yaj yaf x2 (n+1) [q1] s00 s01 s02 s03 s10 s11 s12 s13 s20 s21 s22 s23 m0 m1 m2 m3 m4 o0 1 o2 0 c g c00 c01 c02 c03 c10 c11 c12 c13 c20 c21 c22 c23 1=yaA yao yag yah yaj yaf x2 n [q1,.data m] s00 s01 s02 s03 s10 s11 s12 s13 s20 s21 s22 s23 m0 m1 m2 m3 m4 o0 1 o2 0 c g c00 c01 c02 c03 c10 c11 c12 c13 c20 c21 c22 c23 2:=by
 conv=>lhs;unfold yaA
 dsimp only [lt,Go.Pf.jn]
 rw [cbT (by decide),cbF (by decide),cbT (show (1:Int)=1 from rfl),cbF (by decide),cbT (show (1:Int)=1 from rfl),cbF (by decide),cbT (show (1:Int)=1 from rfl)]
 refine (asTT rfl).trans ?_
 refine (in4a ⟨s10,s11,s12,s13⟩ ⟨c10,c11,c12,c13⟩ c g _ _ _ _ _ _ _ _ _ _ _ _ _ _ _ _ _ _ _ _ _ _ _ _ _ _ _ _ _ _ _ _ _  q1).trans ?_
 cases hne:(neS ⟨s10,s11,s12,s13⟩||neS ⟨c10,c11,c12,c13⟩) with
 | true =>
  rw [cond_true]
  iterate 2 refine (asTT (by first | exact decide_eq_true (by omega) | rfl)).trans ?_
  rw [qAu,hM,yer]
  rfl
 | false =>
  rw [yp0 hne] at hM
  have hM:∀ K,yaj [] K=K m 0:=hM
  rw [cond_false,hM,yer]
  rfl
theorem yL7 (q1:PV) {m:List PV} (hM:∀ K,yaj ((fl2 ⟨s20,s21,s22,s23⟩ ⟨c10,c11,c12,c13⟩).map encS) K=K m 0) {x2} (n:Nat) :
  yaA yao yag yah yaj yaf x2 (n+1) [q1] s00 s01 s02 s03 s10 s11 s12 s13 s20 s21 s22 s23 m0 m1 m2 m3 m4 o0 2 o2 0 c g c00 c01 c02 c03 c10 c11 c12 c13 c20 c21 c22 c23 1=yaA yao yag yah yaj yaf x2 n [q1,.data m] s00 s01 s02 s03 s10 s11 s12 s13 s20 s21 s22 s23 m0 m1 m2 m3 m4 o0 2 o2 0 c g c00 c01 c02 c03 c10 c11 c12 c13 c20 c21 c22 c23 2:=by
 conv=>lhs;unfold yaA
 dsimp only [lt,Go.Pf.jn]
 rw [cbT (by decide),cbF (by decide),cbT (show (1:Int)=1 from rfl),cbF (by decide),cbF (by decide),cbT (show (2:Int)=2 from rfl),cbF (by decide),cbT (show (1:Int)=1 from rfl)]
 refine (asTT rfl).trans ?_
 refine (in4a ⟨s20,s21,s22,s23⟩ ⟨c10,c11,c12,c13⟩ c g _ _ _ _ _ _ _ _ _ _ _ _ _ _ _ _ _ _ _ _ _ _ _ _ _ _ _ _ _ _ _ _ _  q1).trans ?_
 cases hne:(neS ⟨s20,s21,s22,s23⟩||neS ⟨c10,c11,c12,c13⟩) with
 | true =>
  rw [cond_true]
  iterate 2 refine (asTT (by first | exact decide_eq_true (by omega) | rfl)).trans ?_
  rw [qAu,hM,yer]
  rfl
 | false =>
  rw [yp0 hne] at hM
  have hM:∀ K,yaj [] K=K m 0:=hM
  rw [cond_false,hM,yer]
  rfl
theorem yL8 (q1 q2:PV) {m:List PV} (hM:∀ K,yaj ((fl2 ⟨s00,s01,s02,s03⟩ ⟨c20,c21,c22,c23⟩).map encS) K=K m 0) {x2} (n:Nat) :
  yaA yao yag yah yaj yaf x2 (n+1) [q1,q2] s00 s01 s02 s03 s10 s11 s12 s13 s20 s21 s22 s23 m0 m1 m2 m3 m4 o0 o1 0 0 c g c00 c01 c02 c03 c10 c11 c12 c13 c20 c21 c22 c23 2=yaA yao yag yah yaj yaf x2 n [q1,q2,.data m] s00 s01 s02 s03 s10 s11 s12 s13 s20 s21 s22 s23 m0 m1 m2 m3 m4 o0 o1 0 0 c g c00 c01 c02 c03 c10 c11 c12 c13 c20 c21 c22 c23 3:=by
 conv=>lhs;unfold yaA
 dsimp only [lt,Go.Pf.jn]
 rw [cbT (by decide),cbF (by decide),cbF (by decide),cbT (show (2:Int)=2 from rfl),cbT (show (0:Int)=0 from rfl),cbF (by decide),cbF (by decide),cbT (show (2:Int)=2 from rfl)]
 refine (asTT rfl).trans ?_
 refine (in4b ⟨s00,s01,s02,s03⟩ ⟨c20,c21,c22,c23⟩ c g _ _ _ _ _ _ _ _ _ _ _ _ _ _ _ _ _ _ _ _ _ _ _ _ _ _ _ _ _ _ _ _ _  q1 q2).trans ?_
 cases hne:(neS ⟨s00,s01,s02,s03⟩||neS ⟨c20,c21,c22,c23⟩) with
 | true =>
  rw [cond_true]
  iterate 2 refine (asTT (by first | exact decide_eq_true (by omega) | rfl)).trans ?_
  rw [qAu,hM,yer]
  rfl
 | false =>
  rw [yp0 hne] at hM
  have hM:∀ K,yaj [] K=K m 0:=hM
  rw [cond_false,hM,yer]
  rfl
theorem yL9 (q1 q2:PV) {m:List PV} (hM:∀ K,yaj ((fl2 ⟨s10,s11,s12,s13⟩ ⟨c20,c21,c22,c23⟩).map encS) K=K m 0) {x2} (n:Nat) :
  yaA yao yag yah yaj yaf x2 (n+1) [q1,q2] s00 s01 s02 s03 s10 s11 s12 s13 s20 s21 s22 s23 m0 m1 m2 m3 m4 o0 o1 1 0 c g c00 c01 c02 c03 c10 c11 c12 c13 c20 c21 c22 c23 2=yaA yao yag yah yaj yaf x2 n [q1,q2,.data m] s00 s01 s02 s03 s10 s11 s12 s13 s20 s21 s22 s23 m0 m1 m2 m3 m4 o0 o1 1 0 c g c00 c01 c02 c03 c10 c11 c12 c13 c20 c21 c22 c23 3:=by
 conv=>lhs;unfold yaA
 dsimp only [lt,Go.Pf.jn]
 rw [cbT (by decide),cbF (by decide),cbF (by decide),cbT (show (2:Int)=2 from rfl),cbF (by decide),cbT (show (1:Int)=1 from rfl),cbF (by decide),cbF (by decide),cbT (show (2:Int)=2 from rfl)]
 refine (asTT rfl).trans ?_
 refine (in4b ⟨s10,s11,s12,s13⟩ ⟨c20,c21,c22,c23⟩ c g _ _ _ _ _ _ _ _ _ _ _ _ _ _ _ _ _ _ _ _ _ _ _ _ _ _ _ _ _ _ _ _ _  q1 q2).trans ?_
 cases hne:(neS ⟨s10,s11,s12,s13⟩||neS ⟨c20,c21,c22,c23⟩) with
 | true =>
  rw [cond_true]
  iterate 2 refine (asTT (by first | exact decide_eq_true (by omega) | rfl)).trans ?_
  rw [qAu,hM,yer]
  rfl
 | false =>
  rw [yp0 hne] at hM
  have hM:∀ K,yaj [] K=K m 0:=hM
  rw [cond_false,hM,yer]
  rfl
theorem yMa (q1 q2:PV) {m:List PV} (hM:∀ K,yaj ((fl2 ⟨s20,s21,s22,s23⟩ ⟨c20,c21,c22,c23⟩).map encS) K=K m 0) {x2} (n:Nat) :
  yaA yao yag yah yaj yaf x2 (n+1) [q1,q2] s00 s01 s02 s03 s10 s11 s12 s13 s20 s21 s22 s23 m0 m1 m2 m3 m4 o0 o1 2 0 c g c00 c01 c02 c03 c10 c11 c12 c13 c20 c21 c22 c23 2=yaA yao yag yah yaj yaf x2 n [q1,q2,.data m] s00 s01 s02 s03 s10 s11 s12 s13 s20 s21 s22 s23 m0 m1 m2 m3 m4 o0 o1 2 0 c g c00 c01 c02 c03 c10 c11 c12 c13 c20 c21 c22 c23 3:=by
 conv=>lhs;unfold yaA
 dsimp only [lt,Go.Pf.jn]
 rw [cbT (by decide),cbF (by decide),cbF (by decide),cbT (show (2:Int)=2 from rfl),cbF (by decide),cbF (by decide),cbT (show (2:Int)=2 from rfl),cbF (by decide),cbF (by decide),cbT (show (2:Int)=2 from rfl)]
 refine (asTT rfl).trans ?_
 refine (in4b ⟨s20,s21,s22,s23⟩ ⟨c20,c21,c22,c23⟩ c g _ _ _ _ _ _ _ _ _ _ _ _ _ _ _ _ _ _ _ _ _ _ _ _ _ _ _ _ _ _ _ _ _  q1 q2).trans ?_
 cases hne:(neS ⟨s20,s21,s22,s23⟩||neS ⟨c20,c21,c22,c23⟩) with
 | true =>
  rw [cond_true]
  iterate 2 refine (asTT (by first | exact decide_eq_true (by omega) | rfl)).trans ?_
  rw [qAu,hM,yer]
  rfl
 | false =>
  rw [yp0 hne] at hM
  have hM:∀ K,yaj [] K=K m 0:=hM
  rw [cond_false,hM,yer]
  rfl
end
set_option maxHeartbeats 1000000
def selS (a b c:Sp) (k:Nat):Sp:=if k=0 then a else if k=1 then b else c
section
variable (c g:List PV) (s00 s01 s02 s03 s10 s11 s12 s13 s20 s21 s22 s23 c00 c01 c02 c03 c10 c11 c12 c13 c20 c21 c22 c23 m0 m1 m2 m3 m4 o0 o1 o2:Int)
theorem rnd0 {k:Nat} (hk:k<3) (hs:neS (selS ⟨s00,s01,s02,s03⟩ ⟨s10,s11,s12,s13⟩ ⟨s20,s21,s22,s23⟩ k)=true) {m:List PV} (hM:∀ K,yaj ((fl2 (selS ⟨s00,s01,s02,s03⟩ ⟨s10,s11,s12,s13⟩ ⟨s20,s21,s22,s23⟩ k) ⟨c00,c01,c02,c03⟩).map encS) K=K m 0) {x0 x1 x2} (n:Nat) :
  ybw yao yag yah yaj yaf x0 x1 x2 (n+1) s00 s01 s02 s03 s10 s11 s12 s13 s20 s21 s22 s23 m0 m1 m2 m3 m4 (k:Int) o1 o2 0 c g c00 c01 c02 c03 c10 c11 c12 c13 c20 c21 c22 c23 0=yaA yao yag yah yaj yaf x2 n [.data m] s00 s01 s02 s03 s10 s11 s12 s13 s20 s21 s22 s23 m0 m1 m2 m3 m4 (k:Int) o1 o2 0 c g c00 c01 c02 c03 c10 c11 c12 c13 c20 c21 c22 c23 1:=by
 obtain rfl | rfl | rfl:k=0∨k=1∨k=2:=by omega
 ·exact yL2 (hs:=hs) (hM:=hM) ..
 ·exact yL3 (hs:=hs) (hM:=hM) ..
 ·exact yL4 (hs:=hs) (hM:=hM) ..
theorem rnd1 (q1:PV) {k:Nat} (hk:k<3) {m:List PV} (hM:∀ K,yaj ((fl2 (selS ⟨s00,s01,s02,s03⟩ ⟨s10,s11,s12,s13⟩ ⟨s20,s21,s22,s23⟩ k) ⟨c10,c11,c12,c13⟩).map encS) K=K m 0) {x2} (n:Nat) :
  yaA yao yag yah yaj yaf x2 (n+1) [q1] s00 s01 s02 s03 s10 s11 s12 s13 s20 s21 s22 s23 m0 m1 m2 m3 m4 o0 (k:Int) o2 0 c g c00 c01 c02 c03 c10 c11 c12 c13 c20 c21 c22 c23 1=yaA yao yag yah yaj yaf x2 n [q1,.data m] s00 s01 s02 s03 s10 s11 s12 s13 s20 s21 s22 s23 m0 m1 m2 m3 m4 o0 (k:Int) o2 0 c g c00 c01 c02 c03 c10 c11 c12 c13 c20 c21 c22 c23 2:=by
 obtain rfl | rfl | rfl:k=0∨k=1∨k=2:=by omega
 ·exact yL5 (hM:=hM) ..
 ·exact yL6 (hM:=hM) ..
 ·exact yL7 (hM:=hM) ..
theorem rnd2 (q1 q2:PV) {k:Nat} (hk:k<3) {m:List PV} (hM:∀ K,yaj ((fl2 (selS ⟨s00,s01,s02,s03⟩ ⟨s10,s11,s12,s13⟩ ⟨s20,s21,s22,s23⟩ k) ⟨c20,c21,c22,c23⟩).map encS) K=K m 0) {x2} (n:Nat) :
  yaA yao yag yah yaj yaf x2 (n+1) [q1,q2] s00 s01 s02 s03 s10 s11 s12 s13 s20 s21 s22 s23 m0 m1 m2 m3 m4 o0 o1 (k:Int) 0 c g c00 c01 c02 c03 c10 c11 c12 c13 c20 c21 c22 c23 2=yaA yao yag yah yaj yaf x2 n [q1,q2,.data m] s00 s01 s02 s03 s10 s11 s12 s13 s20 s21 s22 s23 m0 m1 m2 m3 m4 o0 o1 (k:Int) 0 c g c00 c01 c02 c03 c10 c11 c12 c13 c20 c21 c22 c23 3:=by
 obtain rfl | rfl | rfl:k=0∨k=1∨k=2:=by omega
 ·exact yL8 (hM:=hM) ..
 ·exact yL9 (hM:=hM) ..
 ·exact yMa (hM:=hM) ..
theorem rnd3 (q1 q2 q3:PV) {x2} (n:Nat):yaA yao yag yah yaj yaf x2 (n+1) [q1,q2,q3] s00 s01 s02 s03 s10 s11 s12 s13 s20 s21 s22 s23 m0 m1 m2 m3 m4 o0 o1 o2 0 c g c00 c01 c02 c03 c10 c11 c12 c13 c20 c21 c22 c23 3=x2 [q1,q2,q3] s00 s01 s02 s03 s10 s11 s12 s13 s20 s21 s22 s23 m0 m1 m2 m3 m4 o0 o1 o2 0 c g c00 c01 c02 c03 c10 c11 c12 c13 c20 c21 c22 c23 3 false:=by kernel_rfl
theorem rnds {a b d:Nat} (ha:a<3) (hb:b<3) (hd:d<3) (hs:neS (selS ⟨s00,s01,s02,s03⟩ ⟨s10,s11,s12,s13⟩ ⟨s20,s21,s22,s23⟩ a)=true) {u v w:List PV} (hu:∀ K,yaj ((fl2 (selS ⟨s00,s01,s02,s03⟩ ⟨s10,s11,s12,s13⟩ ⟨s20,s21,s22,s23⟩ a) ⟨c00,c01,c02,c03⟩).map encS) K=K u 0) (hv:∀ K,yaj ((fl2 (selS ⟨s00,s01,s02,s03⟩ ⟨s10,s11,s12,s13⟩ ⟨s20,s21,s22,s23⟩ b) ⟨c10,c11,c12,c13⟩).map encS) K=K v 0) (hw:∀ K,yaj ((fl2 (selS ⟨s00,s01,s02,s03⟩ ⟨s10,s11,s12,s13⟩ ⟨s20,s21,s22,s23⟩ d) ⟨c20,c21,c22,c23⟩).map encS) K=K w 0) {x0 x1 x2} :
  (∃ n,ybw yao yag yah yaj yaf x0 x1 x2 n s00 s01 s02 s03 s10 s11 s12 s13 s20 s21 s22 s23 m0 m1 m2 m3 m4 (a:Int) (b:Int) (d:Int) 0 c g c00 c01 c02 c03 c10 c11 c12 c13 c20 c21 c22 c23 0)=x2 [.data u,.data v,.data w] s00 s01 s02 s03 s10 s11 s12 s13 s20 s21 s22 s23 m0 m1 m2 m3 m4 (a:Int) (b:Int) (d:Int) 0 c g c00 c01 c02 c03 c10 c11 c12 c13 c20 c21 c22 c23 3 false:=by
 rw [exS3 rfl (fun n=>rnd0 (hk:=ha) (hs:=hs) (hM:=hu) (n:=n) ..),exS3 rfl (fun n=>rnd1 (hk:=hb) (hM:=hv) (n:=n) ..),exS3 rfl (fun n=>rnd2 (hk:=hd) (hM:=hw) (n:=n) ..),exS3 rfl (fun n=>rnd3 (n:=n) ..),exC3]
end
section
variable {l:List Ck}
theorem yGN (hd:DK l) (h3:l.length=3) (K:Int→Prop):yao (cks l) [] K=K 0:=by
 unfold yao yhS
 have h:∀ K,yc4 (cks l) [] K=K (yik l 0):=fun K=>ypY (lg:=[]) hd.fin (by omega) K
 rw [h,hd.err (by decide),cnF rfl,ybD,h3]
 rfl
def ag3 (l:List Ck) (i:Nat):Nat:=if i=0 then o0 l else if i=1 then o1 l else o2 l
def neR (s:RS):Bool:=!decide (s.1=s.2)
def L3 (l:List Ck) (i:Nat):List RS:=(bif neR (s3 l (ag3 l i)) then [s3 l (ag3 l i)] else [])++(bif tr3 l&&neR (cr3 l i) then [cr3 l i] else [])
theorem yCD (s:RS):neS (spOf s)=neR s:=by
 unfold neS neR
 rw [← yq3]
 rfl
theorem yLz (s t:RS):(fl2 (spOf s) (spOf t)).map encS=rsp ((bif neR s then [s] else [])++(bif neR t then [t] else [])):=by
 unfold fl2
 rw [yCD,yCD]
 cases neR s <;> cases neR t <;> rfl
theorem yMb (s:RS):(fl2 (spOf s) ⟨0,0,0,0⟩).map encS=rsp ((bif neR s then [s] else [])++[]):=by
 unfold fl2
 rw [yCD]
 cases neR s <;> rfl
end
set_option maxHeartbeats 1000000
section
variable {l:List Ck}
theorem yMc (l:List Ck):o0 l=3-o1 l-o2 l:=by unfold o0;rfl
theorem ynj (l:List Ck):o0 l<3∧o0 l≠o1 l∧o0 l≠o2 l:=by
 have h1:=ypx l
 have h2:=yvX l
 have e:=yMc l
 omega
theorem o1_p {l:List Ck} (h:tr3 l=true):o1 l=p3 l∨o2 l=p3 l:=by
 by_cases e:p3 l=o2 l
 ·exact .inr e.symm
 ·left
  rw [yAw,h,decide_eq_false e]
  rfl
theorem yKT (l:List Ck):s3 l (o0 l)=(P3 l).getD (o0 l) (0,0):=by
 have h0:=ynj l
 rw [yjW h0.1]
 cases h:tr3 l with
 | false=>rfl
 | true =>
  have:o0 l≠p3 l:=by
   rcases o1_p h with e | e
   ·rw [← e];exact h0.2.1
   ·rw [← e];exact h0.2.2
  rw [decide_eq_false this]
  rfl
theorem yMd (hd:DK l) (h3:l.length=3) {i:Nat} (hi:i<3):((P3 l).getD i (0,0)).1<((P3 l).getD i (0,0)).2:=by
 obtain ⟨D,g⟩:=g3 hd h3
 obtain rfl | rfl | rfl:i=0∨i=1∨i=2:=by omega
 ·exact g.a0
 ·exact g.ab
 ·exact g.bl
theorem yMe (l:List Ck) (a:Nat):∃ j,j<3∧cr3 l a=k3 l j:=by
 obtain ⟨j0,j1,_⟩:=yCC l
 have hk:=yGM l
 have hl:∀ i,i<2→lf3 l i<3:=fun i hi=>by
  obtain rfl | rfl:i=0∨i=1:=by omega
  ·exact j0
  ·exact j1
 unfold cr3
 split
 ·exact ⟨_,yCB l,rfl⟩
 ·split
  ·exact ⟨_,hl _ hk,rfl⟩
  ·exact ⟨_,hl _ (by omega),rfl⟩
theorem yFK (l:List Ck) (i:Nat):ag3 l i<3:=by
 unfold ag3
 split
 ·exact (ynj l).1
 ·split
  ·exact (ypx l).1
  ·exact yvX l
theorem yJz (hd:DK l) (h3:l.length=3) (i:Nat):(∀ s∈L3 l i,ycT s∧s.1<s.2)∧(L3 l i).length≤60:=by
 obtain ⟨D,_,hV⟩:=S3VQ hd h3
 obtain ⟨D',X⟩:=yKS hd h3
 obtain ⟨j,hj,ej⟩:=yMe l i
 have a:=(hV _ (yFK l i)).1
 have b:=(X.vq j hj).1
 rw [← ej] at b
 have lt:∀ {s:RS},VQ l s→neR s=true→s.1<s.2:=fun {s} h k=>by
  unfold neR at k
  have:s.1≠s.2:=by simpa using k
  have:=h.le
  grind
 have hA:∀ s∈(bif neR (s3 l (ag3 l i)) then [s3 l (ag3 l i)] else []),ycT s∧s.1<s.2:=fun s hs=>by
  cases e:neR (s3 l (ag3 l i)) with
  | true =>
   rw [e,cond_true,qB1] at hs
   subst hs
   exact ⟨⟨a.s1,a.s2⟩,lt a e⟩
  | false=>rw [e] at hs;cases hs
 have hB:∀ s∈(bif tr3 l&&neR (cr3 l i) then [cr3 l i] else []),ycT s∧s.1<s.2:=fun s hs=>by
  cases e:(tr3 l&&neR (cr3 l i)) with
  | true =>
   rw [e,cond_true,qB1] at hs
   subst hs
   simp only [qAc] at e
   exact ⟨⟨b.s1,b.s2⟩,lt b e.2⟩
  | false=>rw [e] at hs;cases hs
 refine ⟨fun s hs=>?_,?_⟩
 ·unfold L3 at hs
  rcases qA1.1 hs with h | h
  ·exact hA s h
  ·exact hB s h
 ·unfold L3
  rw [qAh]
  have h1:(bif neR (s3 l (ag3 l i)) then [s3 l (ag3 l i)] else []).length≤1:=by cases neR (s3 l (ag3 l i)) <;> simp
  have h2:(bif tr3 l&&neR (cr3 l i) then [cr3 l i] else []).length≤1:=by cases (tr3 l&&neR (cr3 l i)) <;> simp
  omega
def logR (l:List Ck):List Qy:=log3 l++(bif tr3 l then yAy l else [])
structure M3 (l:List Ck) (M:Nat→List RS):Prop where
 pc:∀ i,Pc (M i)
 mem:∀ i p,memP (M i) p↔memP (L3 l i) p
theorem run3 (hd:DK l) (h3:l.length=3):∃ M,M3 l M∧∀ K,yiY (cks l) K=K (rspL [M 0,M 1,M 2]) (s3 l 0).1.num (s3 l 0).1.den (s3 l 0).2.num (s3 l 0).2.den (s3 l 1).1.num (s3 l 1).1.den (s3 l 1).2.num (s3 l 1).2.den (s3 l 2).1.num (s3 l 2).1.den (s3 l 2).2.num (s3 l 2).2.den (pc3 l) (bif tr3 l then (fr3 l).num else 0) (bif tr3 l then ((fr3 l).den:Int) else 0) (bif tr3 l then (c3 l).num else 0) (bif tr3 l then ((c3 l).den:Int) else 0) (o0 l:Int) (o1 l:Int) (o2 l:Int) (logs (logR l)) 0:=by
 have hM0:=fun i=>yKr (fun s hs=>((yJz hd h3 i).1 s hs).1) (fun s hs=>((yJz hd h3 i).1 s hs).2) (yJz hd h3 i).2
 obtain ⟨M,hM⟩:∃ M:Nat→List RS,∀ i,Pc (M i)∧(∀ p,memP (M i) p↔memP (L3 l i) p)∧∀ K,yaj (rsp (L3 l i)) K=K (rsp (M i)) 0:=⟨fun i=>(hM0 i).choose,fun i=>(hM0 i).choose_spec⟩
 refine ⟨M,⟨fun i=>(hM i).1,fun i=>(hM i).2.1⟩,fun K=>?_⟩
 have mk:=fun i=>(hM i).2.2
 have sel:∀ k,k<3→selS ⟨(s3 l 0).1.num,(s3 l 0).1.den,(s3 l 0).2.num,(s3 l 0).2.den⟩ ⟨(s3 l 1).1.num,(s3 l 1).1.den,(s3 l 1).2.num,(s3 l 1).2.den⟩ ⟨(s3 l 2).1.num,(s3 l 2).1.den,(s3 l 2).2.num,(s3 l 2).2.den⟩ k=spOf (s3 l k):=fun k hk=>by
  obtain rfl | rfl | rfl:k=0∨k=1∨k=2:=by omega
  all_goals rfl
 have hne:neS (selS ⟨(s3 l 0).1.num,(s3 l 0).1.den,(s3 l 0).2.num,(s3 l 0).2.den⟩ ⟨(s3 l 1).1.num,(s3 l 1).1.den,(s3 l 1).2.num,(s3 l 1).2.den⟩ ⟨(s3 l 2).1.num,(s3 l 2).1.den,(s3 l 2).2.num,(s3 l 2).2.den⟩ (o0 l))=true:=by
  rw [sel _ (ynj l).1,yCD,yKT]
  have:=yMd hd h3 (ynj l).1
  unfold neR
  rw [decide_eq_false (by grind)]
  rfl
 have f:∀ K,yag (cks l) [] K=_:=fun K=>yJy hd h3 (lg:=[]) (by decide) K
 unfold yiY yld
 dsimp only [lt,Go.Pf.jn]
 rw [yGN hd h3,cnF rfl,f]
 cases htr:tr3 l with
 | true =>
  have hpc:pc3 l=(p3 l:Int):=by unfold pc3;rw [htr];rfl
  have mk':∀ i K,yaj ((fl2 (selS ⟨(s3 l 0).1.num,(s3 l 0).1.den,(s3 l 0).2.num,(s3 l 0).2.den⟩ ⟨(s3 l 1).1.num,(s3 l 1).1.den,(s3 l 1).2.num,(s3 l 1).2.den⟩ ⟨(s3 l 2).1.num,(s3 l 2).1.den,(s3 l 2).2.num,(s3 l 2).2.den⟩ (ag3 l i)) (spOf (cr3 l i))).map encS) K=K (rsp (M i)) 0:=fun i K=>by
   rw [sel _ (yFK l i),yLz]
   have:=mk i K
   unfold L3 at this
   rw [htr,qBq] at this
   exact this
  rw [hpc]
  simp only [cond_true]
  rw [cbT (by omega)]
  rw [yKu hd h3 (lg:=[]++log3 l) (by unfold log3 yf6 yAx;rw [htr];simp only [qAh,qAp,List.length_nil,cond_true];omega)]
  rw [rnds (ha:=(ynj l).1) (hb:=(ypx l).1) (hd:=yvX l) (hs:=hne) (hu:=mk' 0) (hv:=mk' 1) (hw:=mk' 2)]
  have eG:[]++log3 l++yAy l=logR l:=by unfold logR;rw [htr];rfl
  rw [eG]
  rfl
 | false =>
  have hpc:pc3 l=-1:=by unfold pc3;rw [htr];rfl
  have mk':∀ i K,yaj ((fl2 (selS ⟨(s3 l 0).1.num,(s3 l 0).1.den,(s3 l 0).2.num,(s3 l 0).2.den⟩ ⟨(s3 l 1).1.num,(s3 l 1).1.den,(s3 l 1).2.num,(s3 l 1).2.den⟩ ⟨(s3 l 2).1.num,(s3 l 2).1.den,(s3 l 2).2.num,(s3 l 2).2.den⟩ (ag3 l i)) ⟨0,0,0,0⟩).map encS) K=K (rsp (M i)) 0:=fun i K=>by
   rw [sel _ (yFK l i),yMb]
   have:=mk i K
   unfold L3 at this
   rw [htr,qB4] at this
   exact this
  rw [hpc]
  simp only [cond_false]
  rw [cbF (by decide)]
  rw [rnds (ha:=(ynj l).1) (hb:=(ypx l).1) (hd:=yvX l) (hs:=hne) (hu:=mk' 0) (hv:=mk' 1) (hw:=mk' 2)]
  have eG:[]++log3 l=logR l:=by unfold logR;rw [htr];exact (List.append_nil _).symm
  rw [eG]
  rfl
end
section
variable {l:List Ck}
theorem yJA (hd:DK l) (h3:l.length=3) {i:Nat} (hi:i<3):vS l 0 ((P3 l).getD i (0,0))=totR l 0 / 3:=by
 obtain ⟨D,g⟩:=g3 hd h3
 have a:=g.mA.eqv
 have b:=g.mB.eqv
 have eA:A3 l=mkV l 0 0 (totR l 0*r13):=by unfold A3;rfl
 have eB:B3 l=mkV l 0 0 (totR l 0*r23):=by unfold B3;rfl
 have t:=tot3 hd (show 0<l.length by omega)
 rw [← eA,r13e] at a
 rw [← eB,r23e] at b
 obtain rfl | rfl | rfl:i=0∨i=1∨i=2:=by omega
 ·show vXA l 0 (A3 l)-vXA l 0 0=_
  rw [a];grind
 ·show vXA l 0 (B3 l)-vXA l 0 (A3 l)=_
  rw [a,b];grind
 ·show vXA l 0 (lenR l)-vXA l 0 (B3 l)=_
  rw [b];grind
theorem yJB (hd:DK l) (h3:l.length=3):vXA l 1 (c3 l)=vXA l 1 (fr3 l)+off3 l:=by
 obtain ⟨D,C⟩:=cut3 hd h3
 obtain ⟨E,_,m⟩:=C.m
 rw [yAv]
 exact m.eqv
theorem yJC (hd:DK l) (h3:l.length=3) {i:Nat} (hi:i<3):(vs3 l).getD i 0=vS l 1 (s3 l i):=by
 have hp:=ypw l
 have hl:(vv3 l).length=3:=rfl
 rw [yjW hi]
 unfold vs3
 cases tr3 l with
 | false=>rw [cond_false,qB4,cond_false];exact yyN hi
 | true =>
  rw [cond_true,qBq]
  by_cases e:i=p3 l
  ·subst e
   rw [decide_eq_true rfl,cond_true,qAb,qBa (by omega)]
   have c:=yJB hd h3
   have o:=yni l
   have f:=yfV l
   have v:=yyN (l:=l) hp
   show (vv3 l).getD (q3 l) 0=vXA l 1 ((P3 l).getD (p3 l) (0,0)).2-vXA l 1 (c3 l)
   have v:(vv3 l).getD (p3 l) 0=vXA l 1 ((P3 l).getD (p3 l) (0,0)).2-vXA l 1 ((P3 l).getD (p3 l) (0,0)).1:=v
   rw [← f] at v
   grind
  ·rw [decide_eq_false e,cond_false,qAb,qA3 (fun h=>e h.symm),← qAb]
   exact yyN hi
theorem yGO (l:List Ck):tr3 l=true↔(vv3 l).getD (p3 l) 0≠(vv3 l).getD (q3 l) 0:=by
 rw [yJx];simp
theorem yGP (l:List Ck):(vs3 l).getD (q3 l) 0=(vv3 l).getD (q3 l) 0∧(vs3 l).getD (p3 l) 0=(vv3 l).getD (q3 l) 0:=by
 have hp:=ypw l
 have hq:=yCz l
 have hl:(vv3 l).length=3:=rfl
 unfold vs3
 cases h:tr3 l with
 | false =>
  have:¬(vv3 l).getD (p3 l) 0≠(vv3 l).getD (q3 l) 0:=fun k=>by rw [(yGO l).2 k] at h;cases h
  rw [cond_false]
  exact ⟨rfl,by simpa using this⟩
 | true =>
  rw [cond_true]
  refine ⟨?_,?_⟩
  ·rw [qAb,qA3 (fun h=>hq.2 h.symm),← qAb]
  ·rw [qAb,qBa (by omega)];rfl
theorem yKv (l:List Ck) {i:Nat} (hi:i<3):(vs3 l).getD i 0≤(vv3 l).getD (q3 l) 0:=by
 have hl:(vv3 l).length=3:=rfl
 by_cases e:i=p3 l
 ·rw [e,(yGP l).2];exact qBb
 ·have h:(vs3 l).getD i 0=(vv3 l).getD i 0:=by
   unfold vs3
   cases tr3 l with
   | false=>rfl
   | true=>rw [cond_true,qAb,qA3 (fun h=>e h.symm),← qAb]
  rw [h]
  exact yLy l hi e
theorem yKw (hd:DK l) (h3:l.length=3) {i:Nat} (hi:i<3):vS l 1 (s3 l i)≤vS l 1 (s3 l (o1 l)):=by
 have h1:=ypx l
 have h2:=yvX l
 have hp:=ypw l
 have hq:=yCz l
 rw [← yJC hd h3 hi,← yJC hd h3 h1.1]
 refine qBu (yKv l hi) ?_
 rw [yAw]
 cases hb:(tr3 l&&!decide (p3 l=o2 l)) with
 | true=>rw [cond_true,(yGP l).2];exact qBb
 | false =>
  rw [cond_false]
  have mx:∀ j,j<3→j≠o2 l→(vs3 l).getD j 0≤(vs3 l).getD (pkO (vs3 l) (o2 l)) 0:=fun j hj hne=>yGK _ h2 hj hne
  by_cases e:p3 l=o2 l
  ·rw [← (yGP l).1]
   exact mx _ hq.1 (by rw [← e];exact hq.2)
  ·rw [← (yGP l).2]
   exact mx _ hp e
theorem yJD (hd:DK l) (h3:l.length=3):vS l 0 (s3 l (o0 l))=totR l 0 / 3:=by
 rw [yKT]
 exact yJA hd h3 (ynj l).1
end
section
variable {l:List Ck}
theorem yMf {l:List Ck} (h:tr3 l=true):ag3 l (had3 l)=p3 l∧ag3 l (not3 l)≠p3 l∧ag3 l 0≠p3 l:=by
 have h0:=ynj l
 have h1:=ypx l
 have hp:=o1_p h
 have e:(had3 l=2∧not3 l=1∧o2 l=p3 l)∨(had3 l=1∧not3 l=2∧o2 l≠p3 l):=by
  unfold had3 not3
  by_cases e:o2 l=p3 l
  ·exact .inl ⟨if_pos e,if_pos e,e⟩
  ·exact .inr ⟨if_neg e,if_neg e,e⟩
 rcases e with ⟨e1,e2,e3⟩ | ⟨e1,e2,e3⟩
 ·rw [e1,e2]
  show o2 l=p3 l∧o1 l≠p3 l∧o0 l≠p3 l
  omega
 ·rw [e1,e2]
  show o1 l=p3 l∧o2 l≠p3 l∧o0 l≠p3 l
  omega
end
section
variable {l:List Ck} {M:Nat→List RS}
theorem yGQ (hd:DK l) (h3:l.length=3) {i:Nat} (hi:i<3):((P3 l).getD i (0,0)).1≤(s3 l i).1∧(s3 l i).2=((P3 l).getD i (0,0)).2:=by
 obtain ⟨D,C⟩:=cut3 hd h3
 rw [yjW hi]
 cases hb:(tr3 l&&decide (i=p3 l)) with
 | false=>rw [cond_false];exact ⟨qBb,rfl⟩
 | true =>
  rw [cond_true]
  simp only [qAc,decide_eq_true_eq] at hb
  rw [hb.2]
  have:=C.lo
  rw [yfV] at this
  exact ⟨this,rfl⟩
end
section
variable {l:List Ck} {M:Nat→List RS}
theorem yJE (l:List Ck):(logR l).length=bif tr3 l then 16 else 7:=by
 unfold logR log3 yf6 yAx yAy
 cases tr3 l <;> rfl
theorem yJF (l:List Ck):(log3 l).length=bif tr3 l then 8 else 7:=by
 unfold log3 yf6 yAx
 cases tr3 l <;> rfl
end
def yyP:List Ck:=[⟨6,[0,6],[1]⟩,⟨6,[0,4,6],[1,4]⟩,⟨6,[0,2,6],[2,0]⟩]
theorem cbTT {c:Bool} {P Q:Prop} (h:c=true):cbr c P Q=P:=by rw [h,yam]
theorem yKx (K:List PV→Prop):yph K=K (cks yyP):=rfl
theorem of10 (n:Int) (K:Int→Int→Prop):ybt n K=K n 1:=rfl
theorem dk10:DK yyP:=(yne (l:=yyP) (m:=0) (by decide +kernel)).1
theorem L310:L3 yyP 0=[(2,4)]∧L3 yyP 1=[(mkRat 11 2,6),(4,mkRat 11 2)]∧L3 yyP 2=[(0,2)]:=by decide +kernel
theorem tr10:tr3 yyP=true:=by decide +kernel
theorem yLA (K:Bool→Prop):ygp (rspL [[(2,4)],[(4,6)],[(0,2)]]) [(.data [(.agg [(.int .i64 (2:Int)),(.int .i64 (1:Int)),(.int .i64 (4:Int)),(.int .i64 (1:Int))])]),(.data [(.agg [(.int .i64 (4:Int)),(.int .i64 (1:Int)),(.int .i64 (6:Int)),(.int .i64 (1:Int))])]),(.data [(.agg [(.int .i64 (0:Int)),(.int .i64 (1:Int)),(.int .i64 (2:Int)),(.int .i64 (1:Int))])])] K=K true:=by
 have h:=yFF (l:=[[⟨2,1,4,1⟩],[⟨4,1,6,1⟩],[⟨0,1,2,1⟩]]) (fun i hi=>by
  have hi:i<3:=hi
  obtain rfl | rfl | rfl:i=0∨i=1∨i=2:=by omega
  all_goals decide) (by decide) K
 have e:rspL [[((2:Rat),(4:Rat))],[((4:Rat),(6:Rat))],[((0:Rat),(2:Rat))]]=ypu [[⟨2,1,4,1⟩],[⟨4,1,6,1⟩],[⟨0,1,2,1⟩]]:=by kernel_rfl
 rw [e]
 exact h
theorem ygr (K:Bool→Prop):yaR K=K true:=by
 obtain ⟨M,h,run⟩:=run3 dk10 rfl
 have c1:∀ {a b:Rat},a<b→ynK [(a,b)]:=fun h=>⟨h,fun t ht=>(by cases ht),trivial⟩
 have m0:M 0=[(2,4)]:=yiZ _ _ (h.pc 0).c (c1 (by decide +kernel)) fun p=>by rw [h.mem,L310.1]
 have m2:M 2=[(0,2)]:=yiZ _ _ (h.pc 2).c (c1 (by decide +kernel)) fun p=>by rw [h.mem,L310.2.2]
 have m1:M 1=[(4,6)]:=yiZ _ _ (h.pc 1).c (c1 (by decide +kernel)) fun p=>by
  have e:mkRat 11 2=11 / 2:=by decide +kernel
  rw [h.mem,L310.2.1,e]
  unfold memP inS
  simp only [qAq,List.not_mem_nil,or_false,exists_eq_or_imp,exists_eq_left]
  grind
 unfold yaR ynb
 dsimp only [Go.Pf.jn]
 rw [yKx,run]
 simp only [of10]
 refine (cbTT rfl).trans ?_
 refine (cbTT (by decide +kernel)).trans ?_
 rw [ylX,yJE,tr10,cond_true]
 refine (cbTT rfl).trans ?_
 rw [m0,m1,m2,yLA]
variable {l:List Ck}
theorem yJG (hl:l.length≤9223372036854775807) (K:Bool→Prop):ybi (cks l) K=K (!ysp l&&(decide (l.length=3)&&decide (yik l 0=0))):=by
 unfold ybi ysn
 dsimp only [Go.Pf.jn]
 rw [yzC hl]
 cases hg:ysp l with
 | true=>rfl
 | false =>
  obtain ⟨g1,g2,g3⟩:=yFD hg
  rw [show (!false)=true from rfl,yam,ybD]
  by_cases h3:l.length=3
  ·rw [ceT (by omega)]
   have h:∀ K,yfg (cks l) [] K=K (yik l 0):=fun K=>yHO (lg:=[]) g3 (by omega) K
   rw [h,decide_eq_true h3]
   rfl
  ·rw [show ((((l.length:Nat):Int)) == 3)=false by simp;omega,yae,decide_eq_false h3]
   rfl
theorem yLB (hd:DK l) (h3:l.length=3) (K):yaP (cks l) [] K=K (cks l) (logs (log3 l)) (s3 l 0).1.num (s3 l 0).1.den (s3 l 0).2.num (s3 l 0).2.den (s3 l 1).1.num (s3 l 1).1.den (s3 l 1).2.num (s3 l 1).2.den (s3 l 2).1.num (s3 l 2).1.den (s3 l 2).2.num (s3 l 2).2.den
  (pc3 l) (bif tr3 l then (fr3 l).num else 0) (bif tr3 l then ((fr3 l).den:Int) else 0) (bif tr3 l then (c3 l).num else 0) (bif tr3 l then ((c3 l).den:Int) else 0) (o0 l:Int) (o1 l:Int) (o2 l:Int) 0:=by
 have f:∀ K,yag (cks l) [] K=_:=fun K=>yJy hd h3 (lg:=[]) (by decide) K
 unfold yaP yiw
 rw [yGN hd h3,cnF rfl,f]
 rfl
set_option maxHeartbeats 1000000
section
variable (c:List PV) (s00 s01 s02 s03 s10 s11 s12 s13 s20 s21 s22 s23 pc f0 f1 g0 g1 o0 o1 o2 x y z:Int)
def aft3 (x1:Bool→Prop) (a b u v:Int) (p q:Int) (K:Prop):Prop :=
 cbr (!((a == p)&&((b == q)&&true))) (x1 false) (yaX u v fun e=>cbr (e != 0) (x1 false) (yaG u v p q fun w=>cbr w (x1 false) K))
theorem hA0 {x0 x1} (n:Nat):ya1 ybi yaR yaP ybt yaS yaX yaG yaY ya9 yaN x0 x1 (n+1) c s00 s01 s02 s03 s10 s11 s12 s13 s20 s21 s22 s23 pc f0 f1 g0 g1 o0 o1 o2 x y 0=cbr (0 == pc) (cbr (!((f0 == x)&&((f1 == y)&&true))) (x1 false) (yaS f0 f1 g0 g1 fun b=>cbr (!b) (x1 false) (aft3 x1 s00 s01 s02 s03 g0 g1 (ya1 ybi yaR yaP ybt yaS yaX yaG yaY ya9 yaN x0 x1 n c s00 s01 s02 s03 s10 s11 s12 s13 s20 s21 s22 s23 pc f0 f1 g0 g1 o0 o1 o2 s02 s03 1)))) (aft3 x1 s00 s01 s02 s03 x y (ya1 ybi yaR yaP ybt yaS yaX yaG yaY ya9 yaN x0 x1 n c s00 s01 s02 s03 s10 s11 s12 s13 s20 s21 s22 s23 pc f0 f1 g0 g1 o0 o1 o2 s02 s03 1)):=by kernel_rfl
theorem hA1 {x0 x1} (n:Nat):ya1 ybi yaR yaP ybt yaS yaX yaG yaY ya9 yaN x0 x1 (n+1) c s00 s01 s02 s03 s10 s11 s12 s13 s20 s21 s22 s23 pc f0 f1 g0 g1 o0 o1 o2 x y 1=cbr (1 == pc) (cbr (!((f0 == x)&&((f1 == y)&&true))) (x1 false) (yaS f0 f1 g0 g1 fun b=>cbr (!b) (x1 false) (aft3 x1 s10 s11 s12 s13 g0 g1 (ya1 ybi yaR yaP ybt yaS yaX yaG yaY ya9 yaN x0 x1 n c s00 s01 s02 s03 s10 s11 s12 s13 s20 s21 s22 s23 pc f0 f1 g0 g1 o0 o1 o2 s12 s13 2)))) (aft3 x1 s10 s11 s12 s13 x y (ya1 ybi yaR yaP ybt yaS yaX yaG yaY ya9 yaN x0 x1 n c s00 s01 s02 s03 s10 s11 s12 s13 s20 s21 s22 s23 pc f0 f1 g0 g1 o0 o1 o2 s12 s13 2)):=by kernel_rfl
theorem hA2 {x0 x1} (n:Nat):ya1 ybi yaR yaP ybt yaS yaX yaG yaY ya9 yaN x0 x1 (n+1) c s00 s01 s02 s03 s10 s11 s12 s13 s20 s21 s22 s23 pc f0 f1 g0 g1 o0 o1 o2 x y 2=cbr (2 == pc) (cbr (!((f0 == x)&&((f1 == y)&&true))) (x1 false) (yaS f0 f1 g0 g1 fun b=>cbr (!b) (x1 false) (aft3 x1 s20 s21 s22 s23 g0 g1 (ya1 ybi yaR yaP ybt yaS yaX yaG yaY ya9 yaN x0 x1 n c s00 s01 s02 s03 s10 s11 s12 s13 s20 s21 s22 s23 pc f0 f1 g0 g1 o0 o1 o2 s22 s23 3)))) (aft3 x1 s20 s21 s22 s23 x y (ya1 ybi yaR yaP ybt yaS yaX yaG yaY ya9 yaN x0 x1 n c s00 s01 s02 s03 s10 s11 s12 s13 s20 s21 s22 s23 pc f0 f1 g0 g1 o0 o1 o2 s22 s23 3)):=by kernel_rfl
theorem hA3 {x0 x1} (n:Nat):ya1 ybi yaR yaP ybt yaS yaX yaG yaY ya9 yaN x0 x1 (n+1) c s00 s01 s02 s03 s10 s11 s12 s13 s20 s21 s22 s23 pc f0 f1 g0 g1 o0 o1 o2 x y 3=x0 c s00 s01 s02 s03 s10 s11 s12 s13 s20 s21 s22 s23 pc f0 f1 g0 g1 o0 o1 o2 x y 3 false:=by kernel_rfl
theorem yMg {x0 x1}:ybk ybi yaR yaP ybt yaS yaX yaG yaY ya9 yaN x0 x1 4 c s00 s01 s02 s03 s10 s11 s12 s13 s20 s21 s22 s23 pc f0 f1 g0 g1 0 1 2 x y false false false 0=x0 c s00 s01 s02 s03 s10 s11 s12 s13 s20 s21 s22 s23 pc f0 f1 g0 g1 0 1 2 x y true true true 3 false:=by kernel_rfl
theorem yMh {x0 x1}:ybk ybi yaR yaP ybt yaS yaX yaG yaY ya9 yaN x0 x1 4 c s00 s01 s02 s03 s10 s11 s12 s13 s20 s21 s22 s23 pc f0 f1 g0 g1 0 2 1 x y false false false 0=x0 c s00 s01 s02 s03 s10 s11 s12 s13 s20 s21 s22 s23 pc f0 f1 g0 g1 0 2 1 x y true true true 3 false:=by kernel_rfl
theorem yMi {x0 x1}:ybk ybi yaR yaP ybt yaS yaX yaG yaY ya9 yaN x0 x1 4 c s00 s01 s02 s03 s10 s11 s12 s13 s20 s21 s22 s23 pc f0 f1 g0 g1 1 0 2 x y false false false 0=x0 c s00 s01 s02 s03 s10 s11 s12 s13 s20 s21 s22 s23 pc f0 f1 g0 g1 1 0 2 x y true true true 3 false:=by kernel_rfl
theorem yMj {x0 x1}:ybk ybi yaR yaP ybt yaS yaX yaG yaY ya9 yaN x0 x1 4 c s00 s01 s02 s03 s10 s11 s12 s13 s20 s21 s22 s23 pc f0 f1 g0 g1 1 2 0 x y false false false 0=x0 c s00 s01 s02 s03 s10 s11 s12 s13 s20 s21 s22 s23 pc f0 f1 g0 g1 1 2 0 x y true true true 3 false:=by kernel_rfl
theorem yMk {x0 x1}:ybk ybi yaR yaP ybt yaS yaX yaG yaY ya9 yaN x0 x1 4 c s00 s01 s02 s03 s10 s11 s12 s13 s20 s21 s22 s23 pc f0 f1 g0 g1 2 0 1 x y false false false 0=x0 c s00 s01 s02 s03 s10 s11 s12 s13 s20 s21 s22 s23 pc f0 f1 g0 g1 2 0 1 x y true true true 3 false:=by kernel_rfl
theorem yMl {x0 x1}:ybk ybi yaR yaP ybt yaS yaX yaG yaY ya9 yaN x0 x1 4 c s00 s01 s02 s03 s10 s11 s12 s13 s20 s21 s22 s23 pc f0 f1 g0 g1 2 1 0 x y false false false 0=x0 c s00 s01 s02 s03 s10 s11 s12 s13 s20 s21 s22 s23 pc f0 f1 g0 g1 2 1 0 x y true true true 3 false:=by kernel_rfl
theorem hC0 {a0 a1 a2 a3 a4 a5 a6 a7 a8 a9} (k:Ck) {q0 q2:PV} {x0 x1} (n:Nat):ybg a0 a1 a2 a3 a4 a5 a6 a7 a8 a9 x0 x1 (n+1) [q0,encC k,q2] s00 s01 s02 s03 s10 s11 s12 s13 s20 s21 s22 s23 pc f0 f1 g0 g1 o0 o1 o2 x y 0 0=a9 k.len (ints k.cuts) (ints k.dens) s00 s01 s02 s03 fun a b e=>cbr (e != 0) (x1 false) (a6 x y a b fun w=>cbr w (x1 false) (ybg a0 a1 a2 a3 a4 a5 a6 a7 a8 a9 x0 x1 n [q0,encC k,q2] s00 s01 s02 s03 s10 s11 s12 s13 s20 s21 s22 s23 pc f0 f1 g0 g1 o0 o1 o2 x y 0 1)):=by kernel_rfl
theorem hC1 {a0 a1 a2 a3 a4 a5 a6 a7 a8 a9} (k:Ck) {q0 q2:PV} {x0 x1} (n:Nat):ybg a0 a1 a2 a3 a4 a5 a6 a7 a8 a9 x0 x1 (n+1) [q0,encC k,q2] s00 s01 s02 s03 s10 s11 s12 s13 s20 s21 s22 s23 pc f0 f1 g0 g1 o0 o1 o2 x y 0 1=a9 k.len (ints k.cuts) (ints k.dens) s10 s11 s12 s13 fun a b e=>cbr (e != 0) (x1 false) (a6 x y a b fun w=>cbr w (x1 false) (ybg a0 a1 a2 a3 a4 a5 a6 a7 a8 a9 x0 x1 n [q0,encC k,q2] s00 s01 s02 s03 s10 s11 s12 s13 s20 s21 s22 s23 pc f0 f1 g0 g1 o0 o1 o2 x y 0 2)):=by kernel_rfl
theorem hC2 {a0 a1 a2 a3 a4 a5 a6 a7 a8 a9} (k:Ck) {q0 q2:PV} {x0 x1} (n:Nat):ybg a0 a1 a2 a3 a4 a5 a6 a7 a8 a9 x0 x1 (n+1) [q0,encC k,q2] s00 s01 s02 s03 s10 s11 s12 s13 s20 s21 s22 s23 pc f0 f1 g0 g1 o0 o1 o2 x y 0 2=a9 k.len (ints k.cuts) (ints k.dens) s20 s21 s22 s23 fun a b e=>cbr (e != 0) (x1 false) (a6 x y a b fun w=>cbr w (x1 false) (ybg a0 a1 a2 a3 a4 a5 a6 a7 a8 a9 x0 x1 n [q0,encC k,q2] s00 s01 s02 s03 s10 s11 s12 s13 s20 s21 s22 s23 pc f0 f1 g0 g1 o0 o1 o2 x y 0 3)):=by kernel_rfl
theorem hC3 {x0 x1} (n:Nat):ybg ybi yaR yaP ybt yaS yaX yaG yaY ya9 yaN x0 x1 (n+1) c s00 s01 s02 s03 s10 s11 s12 s13 s20 s21 s22 s23 pc f0 f1 g0 g1 o0 o1 o2 x y 0 3=x0 c s00 s01 s02 s03 s10 s11 s12 s13 s20 s21 s22 s23 pc f0 f1 g0 g1 o0 o1 o2 x y 0 3 false:=by kernel_rfl
end
section
variable {l:List Ck}
theorem yhw (hd:DK l) {a:Nat} (ha:a<l.length) {s:RS} (h:VQ l s) (K:Int→Int→Int→Prop) :
  yaN (l.getD a default).len (ints (l.getD a default).cuts) (ints (l.getD a default).dens) s.1.num s.1.den s.2.num s.2.den K=K (vS l a s).num (vS l a s).den 0:=by
 obtain ⟨D,hD,k1,k2⟩:=h.D
 have hok:=hd.ok a ha
 have p1':s.2≤((l.getD a default).len:Rat):=by rw [hd.len a ha];exact h.len
 have l1:=VC.l1 hok;have l2:=VC.l2 hok
 have e:valR (l.getD a default).len (l.getD a default).cuts (l.getD a default).dens s.1.num s.1.den s.2.num s.2.den=.ok (vS l a s):=by
  unfold valR
  rw [if_pos hok.ck,yeQ,yeQ,if_pos ⟨yEa h.s1 h.z (qBu h.le p1'),yEa h.s2 (qBu h.z h.le) p1',Rat.not_lt.2 h.le⟩]
  exact yAs hok hD k1 k2 h.z h.le p1'
 rw [yHN (by have:=(hd.fin a ha).1;omega) (by have:=(hd.fin a ha).2;omega) h.s1.i1 h.s1.i2 h.s2.i1 h.s2.i2,e]
 rfl
theorem yJH {q r:Rat} (hq:small q) (hr:small r) (K:Bool→Prop):yaS q.num q.den r.num r.den K=K (decide (q<r)):=by
 have:=yHY (s:=⟨q.num,q.den,r.num,r.den⟩) ⟨hq.i1,hq.i2,hr.i1,hr.i2⟩ K
 rw [this]
 congr 1
 rw [decide_eq_decide]
 unfold Sp.ok
 dsimp only
 rw [yeQ,yeQ]
 exact ⟨fun k=>k.2.2,fun k=>⟨hq.rv,hr.rv,k⟩⟩
theorem yGR {a u p:Rat} (e:a=p) (hu:small u) (hp:small p) (h:p≤u) {x1:Bool→Prop} {K:Prop}:aft3 x1 a.num a.den u.num u.den p.num p.den K=K:=by
 subst e
 have c:chk u.num u.den=0:=by unfold chk;rw [if_pos hu.rv]
 have n:decide (u<a)=false:=decide_eq_false (Rat.not_lt.2 h)
 unfold aft3
 rw [yq3,decide_eq_true rfl,qA2,yae,ylV hu.i1 hu.i2,c,cnF rfl,yd0 hu hp,n,yae]
theorem yMm (hd:DK l) (h3:l.length=3) (ht:tr3 l=true):fr3 l<c3 l:=by
 obtain ⟨D,C⟩:=cut3 hd h3
 have lo:=C.lo
 have o:=C.o0
 have v:=yJB hd h3
 have t:=(yGO l).1 ht
 have oe:=yni l
 have:c3 l≠fr3 l:=fun e=>by
  rw [e] at v
  have:off3 l=0:=by grind
  grind
 grind
theorem rA3 (hd:DK l) (h3:l.length=3) {i:Nat} (hi:i<3) {x1:Bool→Prop} {K:Prop} {u:Rat} (hu:u=((P3 l).getD i (0,0)).1) :
  cbr (((i:Nat):Int) == pc3 l) (cbr (!(((bif tr3 l then (fr3 l).num else 0) == u.num)&&(((bif tr3 l then ((fr3 l).den:Int) else 0) == u.den)&&true))) (x1 false) (yaS (bif tr3 l then (fr3 l).num else 0) (bif tr3 l then ((fr3 l).den:Int) else 0) (bif tr3 l then (c3 l).num else 0) (bif tr3 l then ((c3 l).den:Int) else 0) fun b=>cbr (!b) (x1 false) (aft3 x1 (s3 l i).1.num (s3 l i).1.den (s3 l i).2.num (s3 l i).2.den (bif tr3 l then (c3 l).num else 0) (bif tr3 l then ((c3 l).den:Int) else 0) K))) (aft3 x1 (s3 l i).1.num (s3 l i).1.den (s3 l i).2.num (s3 l i).2.den u.num u.den K)=K:=by
 obtain ⟨D,_,V⟩:=S3VQ hd h3
 obtain ⟨D0,g⟩:=g3 hd h3
 obtain ⟨D1,C⟩:=cut3 hd h3
 have v:=(V i hi).1
 have w:=(g.VQ hd h3 hi).1
 have e2:=(yGQ hd h3 hi).2
 have nxt:(tr3 l&&decide (i=p3 l))=false→aft3 x1 (s3 l i).1.num (s3 l i).1.den (s3 l i).2.num (s3 l i).2.den u.num u.den K=K:=fun hb=>by
  have e:s3 l i=(P3 l).getD i (0,0):=by rw [yjW hi,hb];rfl
  rw [e,hu]
  exact yGR rfl w.s2 w.s1 w.le
 cases ht:tr3 l with
 | false =>
  have hp:pc3 l=-1:=by unfold pc3;rw [ht];rfl
  have hn:(((i:Nat):Int) == pc3 l)=false:=by rw [hp];exact beq_eq_false_iff_ne.2 (by omega)
  rw [hn,yae]
  exact nxt (by rw [ht];rfl)
 | true =>
  have hp:pc3 l=(p3 l:Int):=by unfold pc3;rw [ht];rfl
  by_cases e:i=p3 l
  ·have hn:(((i:Nat):Int) == pc3 l)=true:=by rw [hp,e];exact beq_self_eq_true _
   have ef:fr3 l=u:=by rw [hu,e,yfV]
   have sf:small (fr3 l):=by rw [ef,hu];exact w.s1
   have es:s3 l i=(c3 l,((P3 l).getD (p3 l) (0,0)).2):=by rw [yjW hi,ht,decide_eq_true e];rfl
   have sc:small (c3 l):=by have:=v.s1;rw [es] at this;exact this
   simp only [cond_true]
   rw [hn,yam,← ef,yq3,decide_eq_true rfl,qA2,yae,yJH sf sc,decide_eq_true (yMm hd h3 ht),qA2,yae]
   have v2:=v.s2
   rw [es] at v2 ⊢
   exact yGR rfl v2 sc C.hi
  ·have hn:(((i:Nat):Int) == pc3 l)=false:=by rw [hp];exact beq_eq_false_iff_ne.2 (by omega)
   rw [hn,yae]
   exact nxt (by rw [ht,decide_eq_false e];rfl)
theorem yzD {l:List Ck} (hl:l.length≤9223372036854775807):yfC (cks l) (fun b=>b=true):=by
 unfold yfC yhl
 rw [yJG hl]
 by_cases hf:(!ysp l&&(decide (l.length=3)&&decide (yik l 0=0)))=true
 case neg =>
  rw [show (!ysp l&&(decide (l.length=3)&&decide (yik l 0=0)))=false by simpa using hf]
  show yaR _
  rw [ygr]
 rw [hf,show (!true)=false from rfl,yae]
 simp only [qAc,qAv,decide_eq_true_eq] at hf
 obtain ⟨hg,h3,hz⟩:=hf
 have hd:=(yne hz).1
 have h0:0<l.length:=by omega
 have h1:1<l.length:=by omega
 have hp:=ypw l
 obtain ⟨D0,g⟩:=g3 hd h3
 obtain ⟨D,hD,V⟩:=S3VQ hd h3
 have hlen:=yJF l
 have pcr:-1≤pc3 l∧pc3 l≤2:=by unfold pc3;cases tr3 l <;> simp <;> omega
 rw [yLB hd h3]
 dsimp only [Go.Pf.jn,lt]
 rw [cnF rfl,cbF (by omega),cbF (by omega),ylX]
 have e8:∀ P Q:Prop,cbr ((((log3 l).length:Nat):Int) != 7) (cbr ((((log3 l).length:Nat):Int) != 8) (cbr true P Q) (cbr (decide (pc3 l≥0) !=((((log3 l).length:Nat):Int) == 8)) P Q)) (cbr (decide (pc3 l≥0) !=((((log3 l).length:Nat):Int) == 8)) P Q)=Q:=fun P Q=>by
  rw [hlen]
  unfold pc3
  cases tr3 l with
  | false=>rfl
  | true =>
   rw [cond_true,cond_true,decide_eq_true (show (((p3 l:Nat):Int))≥0 by omega)]
   rfl
 rw [e8,of10]
 refine ⟨4,?_⟩
 refine ((hA0 (n:=3) ..).trans (rA3 hd h3 (i:=0) (by decide) (u:=0) rfl)).mpr ?_
 refine ((hA1 (n:=2) ..).trans (rA3 hd h3 (i:=1) (by decide) (u:=(s3 l 0).2) (yGQ hd h3 (by decide)).2)).mpr ?_
 refine ((hA2 (n:=1) ..).trans (rA3 hd h3 (i:=2) (by decide) (u:=(s3 l 1).2) (yGQ hd h3 (by decide)).2)).mpr ?_
 refine (hA3 (n:=0) ..).mpr ?_
 have hs:∀ i,i<3→VQ l (s3 l i):=fun i hi=>(V i hi).1
 have lenq:(s3 l 2).2=lenR l:=by rw [(yGQ hd h3 (by decide)).2];rfl
 have lnum:(lenR l).num=(l.getD 0 default).len:=Rat.num_intCast _
 have lden:(((lenR l).den:Nat):Int)=1:=by unfold lenR;rw [Rat.den_intCast];rfl
 have t0:=tot0 hd h0
 have t12:=yt0 hd h0
 have sT:small (totR l 0 / 3):=sm3 (D:=3) ⟨totC (l.getD 0 default).cuts (l.getD 0 default).dens,rfl⟩ ⟨by decide,by decide⟩ (by grind) (by grind)
 have own:=yJD hd h3
 have best:=fun i (hi:i<3)=>yKw hd h3 hi
 have sv:∀ i,i<3→small (vS l 1 (s3 l i)):=fun i hi=>by
  have v:=hs i hi
  obtain ⟨b1,b2⟩:=ypv hd h1 v.z v.le v.len
  have:=yt0 hd h1
  exact sm3 (yvW hD.1 (V i hi).2) ⟨hD.1,by omega⟩ (by grind) (by grind)
 have npc:((((o0 l:Nat):Int)) == pc3 l)=false:=by
  unfold pc3
  cases ht:tr3 l with
  | false=>rw [cond_false];exact beq_eq_false_iff_ne.2 (by omega)
  | true =>
   rw [cond_true]
   have h:=(yMf ht).2.2
   have h:o0 l≠p3 l:=h
   exact beq_eq_false_iff_ne.2 (by omega)
 have hc3:∃ c0 c1 c2:Ck,l=[c0,c1,c2]:=by
  match l,h3 with
  | [a,b,c],_=>exact ⟨a,b,c,rfl⟩
 have whole:∀ K,yaY (l.getD 0 default).len (ints (l.getD 0 default).cuts) (ints (l.getD 0 default).dens) K=K (totC (l.getD 0 default).cuts (l.getD 0 default).dens):=fun K=>yHK (hd.ok 0 h0) K
 have make:∀ K,ya9 (totC (l.getD 0 default).cuts (l.getD 0 default).dens) 3 K=K (totR l 0 / 3).num (totR l 0 / 3).den 0:=fun K=>by
  have e:totR l 0=((totC (l.getD 0 default).cuts (l.getD 0 default).dens:Int):Rat):=rfl
  have b:totC (l.getD 0 default).cuts (l.getD 0 default).dens≤12000:=qAw.1 (by rw [← e];exact t12)
  have p:0<totC (l.getD 0 default).cuts (l.getD 0 default).dens:=yEc (hd.ok 0 h0)
  rw [yI5 ⟨by omega,by omega⟩ ⟨by omega,by omega⟩ (by decide)]
  show fitK (totR l 0 / 3) K=_
  rw [ycw,if_pos sT]
 have perm:(o0 l=0∧o1 l=1∧o2 l=2)∨(o0 l=0∧o1 l=2∧o2 l=1)∨(o0 l=1∧o1 l=0∧o2 l=2)∨(o0 l=1∧o1 l=2∧o2 l=0)∨(o0 l=2∧o1 l=0∧o2 l=1)∨(o0 l=2∧o1 l=1∧o2 l=0):=by
  have a:=ynj l
  have b:=ypx l
  have c:=yvX l
  omega
 rcases perm with ⟨e0,e1,e2⟩ | ⟨e0,e1,e2⟩ | ⟨e0,e1,e2⟩ | ⟨e0,e1,e2⟩ | ⟨e0,e1,e2⟩ | ⟨e0,e1,e2⟩
 ·rw [e0,e1,e2]
  rw [e0] at own npc
  rw [e1] at best
  refine ⟨4,?_⟩
  refine (yMg ..).mpr ?_
  rw [ybD,asT (by omega),ycS h0,asCk,ck0,of10]
  have eA:(!((((s3 l 2).2.num) ==(l.getD 0 default).len)&&(((((s3 l 2).2.den:Nat):Int) == 1)&&true)))=false:=by
   rw [lenq,lnum,lden];simp
  rw [eA,yae]
  have eB:∀ P Q:Prop,cbr (decide (pc3 l≥0)) (cbr ((0:Int) == pc3 l) P Q) (cbr false P Q)=Q:=fun P Q=>by
   rw [show (((0:Int)) == pc3 l)=false from npc]
   cases decide (pc3 l≥0) <;> rfl
  rw [eB]
  rw [asT (by omega),asCk,ck1,ck2,whole,make]
  rw [asT (by omega),asCk,cbT (show (0:Int)=0 from rfl),cbT (show (0:Int)=0 from rfl),yhw hd h0 (hs 0 (by decide)),own]
  rw [cnF rfl,cnF rfl,yq3,decide_eq_true rfl,qA2,yae]
  rw [asT (by omega),ycS h1,asCk,ck0,ck1,ck2,cbF (show ¬(1:Int)=0 by decide),cbT (show (1:Int)=1 from rfl),cbF (show ¬(1:Int)=0 by decide),cbT (show (1:Int)=1 from rfl),yhw hd h1 (hs 1 (by decide))]
  obtain ⟨k0,k1,k2,ek⟩:=hc3
  have ec:cks l=[encC k0,encC k1,encC k2]:=by rw [ek];rfl
  have e1':k1=l.getD 1 default:=by rw [ek];rfl
  rw [ec]
  refine ⟨4,?_⟩
  have stp:∀ (i:Nat),i<3→∀ P Q:Prop,(yaN k1.len (ints k1.cuts) (ints k1.dens) (s3 l i).1.num (s3 l i).1.den (s3 l i).2.num (s3 l i).2.den fun a b e=>cbr (e != 0) P (yaG (vS l 1 (s3 l 1)).num (vS l 1 (s3 l 1)).den a b fun w=>cbr w P Q))=Q:=fun i hi P Q=>by
   rw [e1',yhw hd h1 (hs i hi),cnF rfl,yd0 (sv 1 (by decide)) (sv i hi),decide_eq_false (Rat.not_lt.2 (best i hi)),yae]
  refine ((hC0 (n:=3) ..).trans (stp 0 (by decide) _ _)).mpr ?_
  refine ((hC1 (n:=2) ..).trans (stp 1 (by decide) _ _)).mpr ?_
  refine ((hC2 (n:=1) ..).trans (stp 2 (by decide) _ _)).mpr ?_
  refine (hC3 (n:=0) ..).mpr ?_
  show yaR _
  rw [ygr]
 ·rw [e0,e1,e2]
  rw [e0] at own npc
  rw [e1] at best
  refine ⟨4,?_⟩
  refine (yMh ..).mpr ?_
  rw [ybD,asT (by omega),ycS h0,asCk,ck0,of10]
  have eA:(!((((s3 l 2).2.num) ==(l.getD 0 default).len)&&(((((s3 l 2).2.den:Nat):Int) == 1)&&true)))=false:=by
   rw [lenq,lnum,lden];simp
  rw [eA,yae]
  have eB:∀ P Q:Prop,cbr (decide (pc3 l≥0)) (cbr ((0:Int) == pc3 l) P Q) (cbr false P Q)=Q:=fun P Q=>by
   rw [show (((0:Int)) == pc3 l)=false from npc]
   cases decide (pc3 l≥0) <;> rfl
  rw [eB]
  rw [asT (by omega),asCk,ck1,ck2,whole,make]
  rw [asT (by omega),asCk,cbT (show (0:Int)=0 from rfl),cbT (show (0:Int)=0 from rfl),yhw hd h0 (hs 0 (by decide)),own]
  rw [cnF rfl,cnF rfl,yq3,decide_eq_true rfl,qA2,yae]
  rw [asT (by omega),ycS h1,asCk,ck0,ck1,ck2,cbF (show ¬(2:Int)=0 by decide),cbF (show ¬(2:Int)=1 by decide),cbT (show (2:Int)=2 from rfl),cbF (show ¬(2:Int)=0 by decide),cbF (show ¬(2:Int)=1 by decide),cbT (show (2:Int)=2 from rfl),yhw hd h1 (hs 2 (by decide))]
  obtain ⟨k0,k1,k2,ek⟩:=hc3
  have ec:cks l=[encC k0,encC k1,encC k2]:=by rw [ek];rfl
  have e1':k1=l.getD 1 default:=by rw [ek];rfl
  rw [ec]
  refine ⟨4,?_⟩
  have stp:∀ (i:Nat),i<3→∀ P Q:Prop,(yaN k1.len (ints k1.cuts) (ints k1.dens) (s3 l i).1.num (s3 l i).1.den (s3 l i).2.num (s3 l i).2.den fun a b e=>cbr (e != 0) P (yaG (vS l 1 (s3 l 2)).num (vS l 1 (s3 l 2)).den a b fun w=>cbr w P Q))=Q:=fun i hi P Q=>by
   rw [e1',yhw hd h1 (hs i hi),cnF rfl,yd0 (sv 2 (by decide)) (sv i hi),decide_eq_false (Rat.not_lt.2 (best i hi)),yae]
  refine ((hC0 (n:=3) ..).trans (stp 0 (by decide) _ _)).mpr ?_
  refine ((hC1 (n:=2) ..).trans (stp 1 (by decide) _ _)).mpr ?_
  refine ((hC2 (n:=1) ..).trans (stp 2 (by decide) _ _)).mpr ?_
  refine (hC3 (n:=0) ..).mpr ?_
  show yaR _
  rw [ygr]
 ·rw [e0,e1,e2]
  rw [e0] at own npc
  rw [e1] at best
  refine ⟨4,?_⟩
  refine (yMi ..).mpr ?_
  rw [ybD,asT (by omega),ycS h0,asCk,ck0,of10]
  have eA:(!((((s3 l 2).2.num) ==(l.getD 0 default).len)&&(((((s3 l 2).2.den:Nat):Int) == 1)&&true)))=false:=by
   rw [lenq,lnum,lden];simp
  rw [eA,yae]
  have eB:∀ P Q:Prop,cbr (decide (pc3 l≥0)) (cbr ((1:Int) == pc3 l) P Q) (cbr false P Q)=Q:=fun P Q=>by
   rw [show (((1:Int)) == pc3 l)=false from npc]
   cases decide (pc3 l≥0) <;> rfl
  rw [eB]
  rw [asT (by omega),asCk,ck1,ck2,whole,make]
  rw [asT (by omega),asCk,cbF (show ¬(1:Int)=0 by decide),cbT (show (1:Int)=1 from rfl),cbF (show ¬(1:Int)=0 by decide),cbT (show (1:Int)=1 from rfl),yhw hd h0 (hs 1 (by decide)),own]
  rw [cnF rfl,cnF rfl,yq3,decide_eq_true rfl,qA2,yae]
  rw [asT (by omega),ycS h1,asCk,ck0,ck1,ck2,cbT (show (0:Int)=0 from rfl),cbT (show (0:Int)=0 from rfl),yhw hd h1 (hs 0 (by decide))]
  obtain ⟨k0,k1,k2,ek⟩:=hc3
  have ec:cks l=[encC k0,encC k1,encC k2]:=by rw [ek];rfl
  have e1':k1=l.getD 1 default:=by rw [ek];rfl
  rw [ec]
  refine ⟨4,?_⟩
  have stp:∀ (i:Nat),i<3→∀ P Q:Prop,(yaN k1.len (ints k1.cuts) (ints k1.dens) (s3 l i).1.num (s3 l i).1.den (s3 l i).2.num (s3 l i).2.den fun a b e=>cbr (e != 0) P (yaG (vS l 1 (s3 l 0)).num (vS l 1 (s3 l 0)).den a b fun w=>cbr w P Q))=Q:=fun i hi P Q=>by
   rw [e1',yhw hd h1 (hs i hi),cnF rfl,yd0 (sv 0 (by decide)) (sv i hi),decide_eq_false (Rat.not_lt.2 (best i hi)),yae]
  refine ((hC0 (n:=3) ..).trans (stp 0 (by decide) _ _)).mpr ?_
  refine ((hC1 (n:=2) ..).trans (stp 1 (by decide) _ _)).mpr ?_
  refine ((hC2 (n:=1) ..).trans (stp 2 (by decide) _ _)).mpr ?_
  refine (hC3 (n:=0) ..).mpr ?_
  show yaR _
  rw [ygr]
 ·rw [e0,e1,e2]
  rw [e0] at own npc
  rw [e1] at best
  refine ⟨4,?_⟩
  refine (yMj ..).mpr ?_
  rw [ybD,asT (by omega),ycS h0,asCk,ck0,of10]
  have eA:(!((((s3 l 2).2.num) ==(l.getD 0 default).len)&&(((((s3 l 2).2.den:Nat):Int) == 1)&&true)))=false:=by
   rw [lenq,lnum,lden];simp
  rw [eA,yae]
  have eB:∀ P Q:Prop,cbr (decide (pc3 l≥0)) (cbr ((1:Int) == pc3 l) P Q) (cbr false P Q)=Q:=fun P Q=>by
   rw [show (((1:Int)) == pc3 l)=false from npc]
   cases decide (pc3 l≥0) <;> rfl
  rw [eB]
  rw [asT (by omega),asCk,ck1,ck2,whole,make]
  rw [asT (by omega),asCk,cbF (show ¬(1:Int)=0 by decide),cbT (show (1:Int)=1 from rfl),cbF (show ¬(1:Int)=0 by decide),cbT (show (1:Int)=1 from rfl),yhw hd h0 (hs 1 (by decide)),own]
  rw [cnF rfl,cnF rfl,yq3,decide_eq_true rfl,qA2,yae]
  rw [asT (by omega),ycS h1,asCk,ck0,ck1,ck2,cbF (show ¬(2:Int)=0 by decide),cbF (show ¬(2:Int)=1 by decide),cbT (show (2:Int)=2 from rfl),cbF (show ¬(2:Int)=0 by decide),cbF (show ¬(2:Int)=1 by decide),cbT (show (2:Int)=2 from rfl),yhw hd h1 (hs 2 (by decide))]
  obtain ⟨k0,k1,k2,ek⟩:=hc3
  have ec:cks l=[encC k0,encC k1,encC k2]:=by rw [ek];rfl
  have e1':k1=l.getD 1 default:=by rw [ek];rfl
  rw [ec]
  refine ⟨4,?_⟩
  have stp:∀ (i:Nat),i<3→∀ P Q:Prop,(yaN k1.len (ints k1.cuts) (ints k1.dens) (s3 l i).1.num (s3 l i).1.den (s3 l i).2.num (s3 l i).2.den fun a b e=>cbr (e != 0) P (yaG (vS l 1 (s3 l 2)).num (vS l 1 (s3 l 2)).den a b fun w=>cbr w P Q))=Q:=fun i hi P Q=>by
   rw [e1',yhw hd h1 (hs i hi),cnF rfl,yd0 (sv 2 (by decide)) (sv i hi),decide_eq_false (Rat.not_lt.2 (best i hi)),yae]
  refine ((hC0 (n:=3) ..).trans (stp 0 (by decide) _ _)).mpr ?_
  refine ((hC1 (n:=2) ..).trans (stp 1 (by decide) _ _)).mpr ?_
  refine ((hC2 (n:=1) ..).trans (stp 2 (by decide) _ _)).mpr ?_
  refine (hC3 (n:=0) ..).mpr ?_
  show yaR _
  rw [ygr]
 ·rw [e0,e1,e2]
  rw [e0] at own npc
  rw [e1] at best
  refine ⟨4,?_⟩
  refine (yMk ..).mpr ?_
  rw [ybD,asT (by omega),ycS h0,asCk,ck0,of10]
  have eA:(!((((s3 l 2).2.num) ==(l.getD 0 default).len)&&(((((s3 l 2).2.den:Nat):Int) == 1)&&true)))=false:=by
   rw [lenq,lnum,lden];simp
  rw [eA,yae]
  have eB:∀ P Q:Prop,cbr (decide (pc3 l≥0)) (cbr ((2:Int) == pc3 l) P Q) (cbr false P Q)=Q:=fun P Q=>by
   rw [show (((2:Int)) == pc3 l)=false from npc]
   cases decide (pc3 l≥0) <;> rfl
  rw [eB]
  rw [asT (by omega),asCk,ck1,ck2,whole,make]
  rw [asT (by omega),asCk,cbF (show ¬(2:Int)=0 by decide),cbF (show ¬(2:Int)=1 by decide),cbT (show (2:Int)=2 from rfl),cbF (show ¬(2:Int)=0 by decide),cbF (show ¬(2:Int)=1 by decide),cbT (show (2:Int)=2 from rfl),yhw hd h0 (hs 2 (by decide)),own]
  rw [cnF rfl,cnF rfl,yq3,decide_eq_true rfl,qA2,yae]
  rw [asT (by omega),ycS h1,asCk,ck0,ck1,ck2,cbT (show (0:Int)=0 from rfl),cbT (show (0:Int)=0 from rfl),yhw hd h1 (hs 0 (by decide))]
  obtain ⟨k0,k1,k2,ek⟩:=hc3
  have ec:cks l=[encC k0,encC k1,encC k2]:=by rw [ek];rfl
  have e1':k1=l.getD 1 default:=by rw [ek];rfl
  rw [ec]
  refine ⟨4,?_⟩
  have stp:∀ (i:Nat),i<3→∀ P Q:Prop,(yaN k1.len (ints k1.cuts) (ints k1.dens) (s3 l i).1.num (s3 l i).1.den (s3 l i).2.num (s3 l i).2.den fun a b e=>cbr (e != 0) P (yaG (vS l 1 (s3 l 0)).num (vS l 1 (s3 l 0)).den a b fun w=>cbr w P Q))=Q:=fun i hi P Q=>by
   rw [e1',yhw hd h1 (hs i hi),cnF rfl,yd0 (sv 0 (by decide)) (sv i hi),decide_eq_false (Rat.not_lt.2 (best i hi)),yae]
  refine ((hC0 (n:=3) ..).trans (stp 0 (by decide) _ _)).mpr ?_
  refine ((hC1 (n:=2) ..).trans (stp 1 (by decide) _ _)).mpr ?_
  refine ((hC2 (n:=1) ..).trans (stp 2 (by decide) _ _)).mpr ?_
  refine (hC3 (n:=0) ..).mpr ?_
  show yaR _
  rw [ygr]
 ·rw [e0,e1,e2]
  rw [e0] at own npc
  rw [e1] at best
  refine ⟨4,?_⟩
  refine (yMl ..).mpr ?_
  rw [ybD,asT (by omega),ycS h0,asCk,ck0,of10]
  have eA:(!((((s3 l 2).2.num) ==(l.getD 0 default).len)&&(((((s3 l 2).2.den:Nat):Int) == 1)&&true)))=false:=by
   rw [lenq,lnum,lden];simp
  rw [eA,yae]
  have eB:∀ P Q:Prop,cbr (decide (pc3 l≥0)) (cbr ((2:Int) == pc3 l) P Q) (cbr false P Q)=Q:=fun P Q=>by
   rw [show (((2:Int)) == pc3 l)=false from npc]
   cases decide (pc3 l≥0) <;> rfl
  rw [eB]
  rw [asT (by omega),asCk,ck1,ck2,whole,make]
  rw [asT (by omega),asCk,cbF (show ¬(2:Int)=0 by decide),cbF (show ¬(2:Int)=1 by decide),cbT (show (2:Int)=2 from rfl),cbF (show ¬(2:Int)=0 by decide),cbF (show ¬(2:Int)=1 by decide),cbT (show (2:Int)=2 from rfl),yhw hd h0 (hs 2 (by decide)),own]
  rw [cnF rfl,cnF rfl,yq3,decide_eq_true rfl,qA2,yae]
  rw [asT (by omega),ycS h1,asCk,ck0,ck1,ck2,cbF (show ¬(1:Int)=0 by decide),cbT (show (1:Int)=1 from rfl),cbF (show ¬(1:Int)=0 by decide),cbT (show (1:Int)=1 from rfl),yhw hd h1 (hs 1 (by decide))]
  obtain ⟨k0,k1,k2,ek⟩:=hc3
  have ec:cks l=[encC k0,encC k1,encC k2]:=by rw [ek];rfl
  have e1':k1=l.getD 1 default:=by rw [ek];rfl
  rw [ec]
  refine ⟨4,?_⟩
  have stp:∀ (i:Nat),i<3→∀ P Q:Prop,(yaN k1.len (ints k1.cuts) (ints k1.dens) (s3 l i).1.num (s3 l i).1.den (s3 l i).2.num (s3 l i).2.den fun a b e=>cbr (e != 0) P (yaG (vS l 1 (s3 l 1)).num (vS l 1 (s3 l 1)).den a b fun w=>cbr w P Q))=Q:=fun i hi P Q=>by
   rw [e1',yhw hd h1 (hs i hi),cnF rfl,yd0 (sv 1 (by decide)) (sv i hi),decide_eq_false (Rat.not_lt.2 (best i hi)),yae]
  refine ((hC0 (n:=3) ..).trans (stp 0 (by decide) _ _)).mpr ?_
  refine ((hC1 (n:=2) ..).trans (stp 1 (by decide) _ _)).mpr ?_
  refine ((hC2 (n:=1) ..).trans (stp 2 (by decide) _ _)).mpr ?_
  refine (hC3 (n:=0) ..).mpr ?_
  show yaR _
  rw [ygr]
end
end Go.Pf.Vc
