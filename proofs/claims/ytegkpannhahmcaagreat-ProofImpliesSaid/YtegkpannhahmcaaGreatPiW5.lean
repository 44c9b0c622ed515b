/- Part 5 of what the statement rests on: a verified evaluator over pure values, the conditions of the program's functions, and their plain laws. -/
import Derived.Test.YtegkpannhahmcaaGreatPiW4
namespace Go.Pf.Vc
open Go Go.Pf
section
variable {l:List Ck}
theorem yKv (hf:finC l) (hl:l.length<4611686018427387904) (lg:List PV) (K:Int→Prop):ycG (cks l) lg K=K (deskE l lg.length):=by
 refine yCf _ _ _ (fun K k=>?_) K
 unfold ycG yp9
 unfold deskE at k
 rw [yba]
 by_cases a1:l.length>6
 · rw [cbT (by omega)];rw [if_pos a1] at k;exact k
 rw [cbF (by omega)];rw [if_neg a1] at k
 by_cases a2:lg.length>2000
 · rw [cbT (by omega)];rw [if_pos a2] at k;exact k
 rw [cbF (by omega)];rw [if_neg a2] at k
 by_cases a3:l.length=0
 · rw [ceT (by omega)];rw [if_pos a3] at k;exact k
 rw [ceF (by omega)];rw [if_neg a3] at k
 refine ⟨l.length+1,?_⟩
 have h0:=aCheck0 hf hl (fun yi1=>K yi1) (fun yl2 yl3 yl4 yi5 yi6 yb7=>(∃ n12157601:Nat,ycu yan (fun yi8=>(K yi8)) (fun yl9 yl10 yl11 yi12 yi13 yb14=>(K (0:Int))) n12157601 yl2 yl3 yl2 (((List.length yl2):Nat):Int) (0:Int))) lg l.length 0 (l.length+1) (by omega) (by omega)
 rw [show ((0:Nat):Int)=0 from rfl,List.drop_zero] at h0
 rw [h0]
 by_cases a4:firstE l=0
 · rw [if_pos a4] at k ⊢
   refine ⟨l.length+1,?_⟩
   have h1:=aCheck1 hl (fun yi8=>(K yi8)) (fun yl9 yl10 yl11 yi12 yi13 yb14=>(K (0:Int))) lg yan l.length 0 (l.length+1) (by omega) (by omega)
   rw [show ((0:Nat):Int)=0 from rfl,List.drop_zero] at h1
   rw [yba,h1]
   split at k <;> rename_i h <;> simp only [h] <;> exact k
 · rw [if_neg a4] at k ⊢;exact k
theorem fCheck0 (hf:finC l) (hl:l.length<4611686018427387904) (x0:Int→Prop) (x1:List PV→List PV→Int→Bool→Prop) (lg:List PV) :
   ∀ (r i n:Nat),i+r=l.length→r<n→yc5 ybO x0 x1 n (cks l) lg i =
     if firstE (l.drop i)=0 then x1 (cks l) lg l.length false else x0 (firstE (l.drop i))
 | 0,i,n+1,hi,hn=>by
   unfold yc5
   rw [yba,cbF (by omega),List.drop_of_length_le (by omega),show (i:Int)=l.length by omega];rfl
 | r+1,i,n+1,hi,hn=>by
   unfold yc5
   have e1:=wib (n:=(i:Int)+1) (by omega) (by omega)
   obtain ⟨f1,f2⟩:=hf i (by omega)
   rw [yba,cbT (by omega),Int.toNat_natCast,yf1 (by omega),asT (by omega),asT (by omega),asCk,ck0,ck1,ck2,yDl (by omega) (by omega),ybT default (by omega),firstE,e1,cast1]
   show cbr ((l.getD i default).err != 0) _ _=_
   by_cases h:(l.getD i default).err=0
   · rw [cnF h,if_pos h];exact fCheck0 hf hl x0 x1 lg r (i+1) n (by omega) (by omega)
   · rw [cnT h,if_neg h,if_neg h,asT (by omega),asT (by omega),asCk,yDl (by omega) (by omega)];rfl
theorem fCheck1 (hl:l.length<4611686018427387904) (x0:Int→Prop) (x1:List PV→List PV→Int→Bool→Prop) (lg:List PV) (W) :
   ∀ (r i n:Nat),i+r=l.length→r<n→ycw W x0 x1 n (cks l) lg i =
     if lensOk (l.getD 0 default).len (l.drop i) then x1 (cks l) lg l.length false else x0 8
 | 0,i,n+1,hi,hn=>by
   unfold ycw
   rw [yba,cbF (by omega),List.drop_of_length_le (by omega),show (i:Int)=l.length by omega];rfl
 | r+1,i,n+1,hi,hn=>by
   unfold ycw
   have e1:=wib (n:=(i:Int)+1) (by omega) (by omega)
   rw [yba,cbT (by omega),Int.toNat_natCast,yf1 (by omega),yf1 (by omega),asT (by omega),asT (by omega),asCk,asT (by omega),asCk,ck0,ck0,ybT default (by omega),lensOk,e1,cast1]
   by_cases h:(l.getD i default).len=(l.getD 0 default).len
   · rw [cnF h,decide_eq_true h,Bool.true_and];exact fCheck1 hl x0 x1 lg W r (i+1) n (by omega) (by omega)
   · rw [cnT h,decide_eq_false h,Bool.false_and,if_neg (by simp)]
theorem yKw (hf:finC l) (hl:l.length<4611686018427387904) (lg:List PV) (K:Int→Prop):ycH (cks l) lg K=K (deskE l lg.length):=by
 refine yCq _ _ _ (fun K k=>?_) K
 unfold ycH yqt
 unfold deskE at k
 rw [yba]
 by_cases a1:l.length>6
 · rw [cbT (by omega)];rw [if_pos a1] at k;exact k
 rw [cbF (by omega)];rw [if_neg a1] at k
 by_cases a2:lg.length>2000
 · rw [cbT (by omega)];rw [if_pos a2] at k;exact k
 rw [cbF (by omega)];rw [if_neg a2] at k
 by_cases a3:l.length=0
 · rw [ceT (by omega)];rw [if_pos a3] at k;exact k
 rw [ceF (by omega)];rw [if_neg a3] at k
 refine ⟨l.length+1,?_⟩
 have h0:=fCheck0 hf hl (fun yi1=>K yi1) (fun yl3 yl4 yi5 yb6=>(∃ n6981301:Nat,ycw ybO (fun yi7=>(K yi7)) (fun yl8 yl9 yi10 yb11=>(K (0:Int))) n6981301 yl3 yl4 (0:Int))) lg l.length 0 (l.length+1) (by omega) (by omega)
 rw [show ((0:Nat):Int)=0 from rfl,List.drop_zero] at h0
 rw [h0]
 by_cases a4:firstE l=0
 · rw [if_pos a4] at k ⊢
   refine ⟨l.length+1,?_⟩
   have h1:=fCheck1 hl (fun yi7=>(K yi7)) (fun yl8 yl9 yi10 yb11=>(K (0:Int))) lg ybO l.length 0 (l.length+1) (by omega) (by omega)
   rw [show ((0:Nat):Int)=0 from rfl,List.drop_zero] at h1
   rw [h1]
   split at k <;> rename_i h <;> simp only [h] <;> exact k
 · rw [if_neg a4] at k ⊢;exact k
def Ck.low (c:Ck):Prop:=c.cuts.length≤1000∧c.dens.length≤1000
def lowC (l:List Ck):Prop:=∀ i,i<l.length→(l.getD i default).low
end
end Go.Pf.Vc
namespace Go.Pf.Vc
open Go Go.Pf
section
variable {l:List Ck}
theorem yyE:∀ (l:List Ck),firstE l=0→∀ i,i<l.length→(l.getD i default).ok
 | c::t,h,0,_=>by
   unfold firstE at h
   split at h
   · rename_i h1;exact yA5 h1
   · rename_i h1;exact absurd h h1
 | c::t,h,i+1,hi=>by
   unfold firstE at h
   split at h
   · exact yyE t h i (by simpa using hi)
   · rename_i h1;exact absurd h h1
theorem yA9 {n:Int}:∀ (l:List Ck),lensOk n l=true→∀ i,i<l.length→(l.getD i default).len=n
 | c::t,h,0,_=>by
   unfold lensOk at h
   simp only [Bool.and_eq_true,decide_eq_true_eq] at h
   exact h.1
 | c::t,h,i+1,hi=>by
   unfold lensOk at h
   simp only [Bool.and_eq_true,decide_eq_true_eq] at h
   exact yA9 t h.2 i (by simpa using hi)
structure DK (l:List Ck):Prop where
 n6:l.length≤6
 n0:1≤l.length
 ok:∀ i,i<l.length→(l.getD i default).ok
 len:∀ i,i<l.length→(l.getD i default).len=(l.getD 0 default).len
theorem yBa {m:Nat} (h:deskE l m=0):DK l∧m≤2000:=by
 unfold deskE at h
 split at h
 · omega
 split at h
 · omega
 split at h
 · omega
 split at h
 · rename_i h0 h1 h2 h3
   split at h
   · rename_i h4
     exact ⟨⟨by omega,by omega,yyE l h3,yA9 l h4⟩,by omega⟩
   · omega
 · rename_i h3;exact absurd h h3
theorem DK.err {l:List Ck} (h:DK l) {m:Nat} (hm:m≤2000):deskE l m=0:=by
 have f:∀ l:List Ck,(∀ i,i<l.length→(l.getD i default).ok)→firstE l=0:=by
   intro l
   induction l with
   | nil=>intro _;rfl
   | cons c t ih =>
     intro h
     unfold firstE
     rw [if_pos (show c.err=0 from (h 0 (Nat.zero_lt_succ _)).ck)]
     exact ih fun i hi=>h (i+1) (by simpa using hi)
 have g:∀ (n:Int) (l:List Ck),(∀ i,i<l.length→(l.getD i default).len=n)→lensOk n l=true:=by
   intro n l
   induction l with
   | nil=>intro _;rfl
   | cons c t ih =>
     intro h
     unfold lensOk
     rw [Bool.and_eq_true,decide_eq_true_eq]
     exact ⟨h 0 (Nat.zero_lt_succ _),ih fun i hi=>h (i+1) (by simpa using hi)⟩
 have:=h.n6;have:=h.n0
 unfold deskE
 rw [if_neg (by omega),if_neg (by omega),if_neg (by omega),if_pos (f l h.ok),if_pos (g _ l h.len)]
theorem DK.low {l:List Ck} (h:DK l):lowC l:=fun i hi=>by
 have h1:=(h.ok i hi).l1;have h2:=(h.ok i hi).l2
 exact ⟨by omega,by omega⟩
theorem DK.fin {l:List Ck} (h:DK l):finC l:=fun i hi=>by
 have h1:=(h.ok i hi).l1;have h2:=(h.ok i hi).l2
 exact ⟨by omega,by omega⟩
def Ck.value (an ad bn bd:Int) (c:Ck):Except Int Rat:=valR c.len c.cuts c.dens an ad bn bd
end
end Go.Pf.Vc
namespace Go.Pf.Vc
open Go Go.Pf
section
variable {l:List Ck}
def greatC (l:List Ck):Bool:=l.any (fun c=>decide (c.cuts.length>60)||decide (c.dens.length>60))||decide (l.length>10)
theorem yKx {len:Int} {cuts dens:List Int} (K:Bool→Prop):yeM len (ints cuts) (ints dens) K=K (decide (cuts.length>60)||decide (dens.length>60)):=by
 unfold yeM yqm
 rw [ycs,ycs]
 by_cases h:cuts.length>60
 · rw [cbT (by omega),decide_eq_true h];rfl
 · rw [cbF (by omega),decide_eq_false h,Bool.false_or]
   congr 1;rw [decide_eq_decide];omega
theorem yrg (hl:l.length≤9223372036854775807) (K:Bool→Prop) :
   ∀ (r i n:Nat),i+r=l.length→r<n→ybA yeM (fun yb1=>(K yb1)) (fun yl2 _ _=>(K (decide ((((List.length yl2):Nat):Int)>(10:Int))))) n (cks l) i =
     K ((l.drop i).any (fun c=>decide (c.cuts.length>60)||decide (c.dens.length>60))||decide (l.length>10))
 | 0,i,n+1,hi,hn=>by
   unfold ybA
   rw [yba,cbF (by omega),List.drop_of_length_le (by omega)]
   show K _=K (false||_)
   rw [Bool.false_or]
   congr 1;rw [decide_eq_decide];omega
 | r+1,i,n+1,hi,hn=>by
   unfold ybA
   have e1:=wib (n:=(i:Int)+1) (by omega) (by omega)
   rw [yba,cbT (by omega),Int.toNat_natCast,yf1 (by omega),asT (by omega),asT (by omega),asCk,ck0,ck1,ck2,yKx,ybT default (by omega),List.any_cons,e1,cast1]
   cases hb:(decide ((l.getD i default).cuts.length>60)||decide ((l.getD i default).dens.length>60)) with
   | true=>rw [yaf];rfl
   | false=>rw [yaa,Bool.false_or];exact yrg hl K r (i+1) n (by omega) (by omega)
theorem yCD (hl:l.length≤9223372036854775807) (K:Bool→Prop):ybf (cks l) K=K (greatC l):=by
 refine yu6 _ _ (fun K k=>?_) K
 unfold ybf yjy
 refine ⟨l.length+1,?_⟩
 have:=yrg hl K l.length 0 (l.length+1) (by omega) (by omega)
 rw [show ((0:Nat):Int)=0 from rfl,List.drop_zero] at this
 rw [this];exact k
theorem yIL (h:greatC l=false):l.length≤10∧lowC l∧finC l:=by
 unfold greatC at h
 simp only [Bool.or_eq_false_iff,decide_eq_false_iff_not,List.any_eq_false,Bool.not_eq_true,Nat.not_lt] at h
 have hh:∀ i,i<l.length→(l.getD i default).cuts.length≤60∧(l.getD i default).dens.length≤60:=by
   intro i hi
   have hm:l.getD i default∈l:=by rw [List.getD_eq_getElem?_getD,List.getElem?_eq_getElem hi];exact List.getElem_mem hi
   have:=h.1 _ hm
   omega
 exact ⟨by omega,fun i hi=>⟨by have:=hh i hi;omega,by have:=hh i hi;omega⟩,fun i hi=>⟨by have:=hh i hi;omega,by have:=hh i hi;omega⟩⟩
def shr (c:Ck) (n:Int):Rat:=(totC c.cuts c.dens:Rat) / (n:Rat)
theorem yDn {n d:Int} (hn:-1000000000000000000≤n∧n≤1000000000000000000) (hd:1≤d∧d≤1000000000000000000):small ((n:Rat) / (d:Rat)):=by
 have e:(n:Rat) / (d:Rat)=mkRat n d.toNat:=by
   rw [Rat.mkRat_eq_div]
   have h1:((d.toNat:Nat):Int)=d:=by omega
   have h2:((d.toNat:Nat):Rat)=(d:Rat):=by rw [← Rat.intCast_natCast,h1]
   rw [h2]
 rw [e]
 unfold small
 rw [Rat.num_mkRat,Rat.den_mkRat,if_neg (by omega),if_neg (by omega)]
 have g0:0<d.toNat.gcd n.natAbs:=Nat.gcd_pos_of_pos_left _ (by omega)
 have h1:(n / (d.toNat.gcd n.natAbs:Nat)).natAbs≤n.natAbs:=by
   rw [Int.natAbs_ediv_of_dvd,Int.natAbs_natCast]
   · exact Nat.div_le_self _ _
   · rw [← Int.dvd_natAbs,Int.ofNat_dvd];exact Nat.gcd_dvd_right _ _
 have h2:d.toNat / d.toNat.gcd n.natAbs≤d.toNat:=Nat.div_le_self _ _
 generalize n / (d.toNat.gcd n.natAbs:Nat)=x at *
 generalize d.toNat / d.toNat.gcd n.natAbs=y at *
 omega
end
end Go.Pf.Vc
namespace Go.Pf.Vc
open Go Go.Pf
def Fr (D B:Int) (q:Rat):Prop:=∃ n:Int,-B≤n∧n≤B∧q=(n:Rat) / (D:Rat)
theorem Fr.small {D B:Int} {q:Rat} (h:Fr D B q) (hD:1≤D∧D≤1000000000000000000) (hB:B≤1000000000000000000):small q:=by
 obtain ⟨n,h1,h2,rfl⟩:=h
 exact yDn ⟨by omega,by omega⟩ hD
theorem rne {D:Int} (h:1≤D):(D:Rat)≠0:=fun e=>by have:=Rat.intCast_eq_zero_iff.1 e;omega
theorem Fr.add {D B1 B2:Int} {q r:Rat} (h:Fr D B1 q) (k:Fr D B2 r):Fr D (B1+B2) (q+r):=by
 obtain ⟨n,h1,h2,rfl⟩:=h
 obtain ⟨m,k1,k2,rfl⟩:=k
 exact ⟨n+m,by omega,by omega,by rw [Rat.intCast_add];grind⟩
theorem Fr.sub {D B1 B2:Int} {q r:Rat} (h:Fr D B1 q) (k:Fr D B2 r):Fr D (B1+B2) (q-r):=by
 obtain ⟨n,h1,h2,rfl⟩:=h
 obtain ⟨m,k1,k2,rfl⟩:=k
 exact ⟨n-m,by omega,by omega,by rw [Rat.intCast_sub];grind⟩
theorem Fr.mono {D B1 B2:Int} {q:Rat} (h:Fr D B1 q) (hb:B1≤B2):Fr D B2 q:=by
 obtain ⟨n,h1,h2,e⟩:=h
 exact ⟨n,by omega,by omega,e⟩
theorem yM9 {n d B:Int} (h:-B≤n∧n≤B) (hd:0≤d∧d≤12):-(12*B)≤n*d∧n*d≤12*B:=by
 have a1:=Int.mul_le_mul_of_nonneg_right h.1 hd.1
 have a2:=Int.mul_le_mul_of_nonneg_right h.2 hd.1
 have a3:=Int.mul_le_mul_of_nonneg_left hd.2 (show 0≤B by omega)
 rw [Int.neg_mul] at a1
 omega
theorem Fr.mulI {D B:Int} {q:Rat} (h:Fr D B q) {d:Int} (hd:0≤d∧d≤12):Fr D (12*B) (q*(d:Rat)):=by
 obtain ⟨n,h1,h2,rfl⟩:=h
 obtain ⟨a1,a2⟩:=yM9 ⟨h1,h2⟩ hd
 exact ⟨n*d,a1,a2,by rw [Rat.intCast_mul];grind⟩
section
variable {len:Int} {cuts dens:List Int}
def rem (cuts dens:List Int):Nat→Nat→Int
 | 0,_=>0
 | r+1,i=>dens.getD i 0*(cuts.getD (i+1) 0-cuts.getD i 0)+rem cuts dens r (i+1)
theorem yBb (cuts dens:List Int):∀ (r i:Nat) (s:Int),totS cuts dens r i s=s+rem cuts dens r i
 | 0,i,s=>by unfold totS rem;omega
 | r+1,i,s=>by unfold totS rem;rw [yBb cuts dens r (i+1)];omega
theorem yDo (h:VC len cuts dens):∀ (r i:Nat),i+r=dens.length→0≤rem cuts dens r i∧rem cuts dens r i≤12*(len-cuts.getD i 0)
 | 0,i,hi=>by
   have:=h.l1
   have:=h.hi (i:=i) (by omega)
   unfold rem;omega
 | r+1,i,hi=>by
   unfold rem
   have l1:=h.l1
   have h2:=h.step (i:=i) (by omega)
   have h3:=mul12 (h.den (i:=i) (by omega)) (x:=cuts.getD (i+1) 0-cuts.getD i 0) (by omega)
   have:=yDo h r (i+1) (by omega)
   omega
theorem yJy (h:VC len cuts dens):∀ (r i:Nat),i+r=dens.length→(∃ j,i≤j∧j<dens.length∧0<dens.getD j 0)→0<rem cuts dens r i
 | 0,i,hi,⟨j,h1,h2,_⟩=>by omega
 | r+1,i,hi,⟨j,h1,h2,h3⟩=>by
   unfold rem
   have l1:=h.l1
   have s:=h.step (i:=i) (by omega)
   have m:=mul12 (h.den (i:=i) (by omega)) (x:=cuts.getD (i+1) 0-cuts.getD i 0) (by omega)
   have b:=yDo h r (i+1) (by omega)
   by_cases e:j=i
   · subst e
     have:=Int.mul_pos h3 (show 0<cuts.getD (j+1) 0-cuts.getD j 0 by omega)
     omega
   · have:=yJy h r (i+1) (by omega) ⟨j,by omega,h2,h3⟩
     omega
theorem yGN (h:VC len cuts dens):0<totC cuts dens:=by
 unfold totC
 rw [yBb]
 obtain ⟨d,hd,h0⟩:=h.2.2.2.2.2.2.2.2.2
 obtain ⟨j,hj,e⟩:=List.mem_iff_getElem.1 hd
 have:=yJy h dens.length 0 (by omega) ⟨j,by omega,hj,by rw [List.getD_eq_getElem?_getD,List.getElem?_eq_getElem hj];simpa [e] using h0⟩
 omega
end
end Go.Pf.Vc
namespace Go.Pf.Vc
open Go Go.Pf
structure Qy where
 agent:Int
 kind:Int
 an:Int
 ad:Int
 bn:Int
 bd:Int
 cn:Int
 cd:Int
 deriving DecidableEq
instance:Inhabited Qy:=⟨⟨0,0,0,0,0,0,0,0⟩⟩
structure Sp where
 a:Int
 b:Int
 c:Int
 d:Int
 deriving DecidableEq
instance:Inhabited Sp:=⟨⟨0,0,0,0⟩⟩
def encS (s:Sp):PV:=.agg [.int .i64 s.a,.int .i64 s.b,.int .i64 s.c,.int .i64 s.d]
def spans (l:List Sp):List PV:=l.map encS
def pieces (l:List (List Sp)):List PV:=l.map fun s=>.data (spans s)
theorem yfv (l:List Sp):(spans l).length=l.length:=List.length_map ..
theorem ypF {l:List Sp} {i:Nat} (h:i<l.length):List.getD (spans l) i .nils=encS (l.getD i default):=by
 unfold spans
 rw [List.getD_eq_getElem?_getD,List.getD_eq_getElem?_getD,List.getElem?_map,List.getElem?_eq_getElem h]
 rfl
theorem yf2 (l:List (List Sp)):(pieces l).length=l.length:=List.length_map ..
theorem yx5 {l:List (List Sp)} {i:Nat} (h:i<l.length):List.getD (pieces l) i .nils=.data (spans (l.getD i [])):=by
 unfold pieces
 rw [List.getD_eq_getElem?_getD,List.getD_eq_getElem?_getD,List.getElem?_map,List.getElem?_eq_getElem h]
 rfl
theorem asS {s:Sp} {P:Prop}:asr (conf (.agg [.i .i64,.i .i64,.i .i64,.i .i64]) (encS s)) P=P:=rfl
theorem asD {r:List PV} {P:Prop}:asr (conf (.one .d) (.data r)) P=P:=rfl
end Go.Pf.Vc
namespace Go.Pf.Vc
open Go Go.Pf
section
variable {l:List Ck}
theorem yNa (x y:Rat):decide (cmpQ x y≥0)=!decide (x<y):=by
 unfold cmpQ
 by_cases h:x<y
 · simp [h]
 · by_cases h2:y<x <;> simp [h,h2]
end
end Go.Pf.Vc
namespace Go.Pf.Vc
open Go Go.Pf
def dsR:DS:=.a [.i .i64,.i .i64]
def dsC:DS:=.a [.i .i64,.s (.i .i64),.s (.i .i64)]
theorem ys7 {n:Int} (h:inK .i64 n):I64 n:=by
 have e1:IntKind.i64.min=-9223372036854775808:=by decide
 have e2:IntKind.i64.max=9223372036854775807:=by decide
 unfold inK at h
 rw [e1,e2] at h
 exact h
theorem F_i {c:List PV} (h:HasF (.i .i64) c):∃ n,c=[.int .i64 n]∧I64 n:=by
 simp only [HasF] at h
 obtain ⟨n,e,k⟩:=h
 exact ⟨n,e,ys7 k⟩
theorem yE9:∀ (rows:List PV),(∀ x∈rows,x.isAgg=(DS.i .i64).isA∧HasF (.i .i64) x.cells)→∃ l:List Int,rows=ints l∧∀ n∈l,I64 n
 | [],_=>⟨[],rfl,by simp⟩
 | x::r,h=>by
   obtain ⟨l,e,hl⟩:=yE9 r (fun y hy=>h y (List.mem_cons_of_mem _ hy))
   obtain ⟨h1,h2⟩:=h x (List.mem_cons_self ..)
   obtain ⟨n,e2,hn⟩:=F_i h2
   have ex:x=.int .i64 n:=by
     cases x <;> first | (simp only [PV.cells,List.cons.injEq,and_true] at e2;exact e2) | (cases h1)
   refine ⟨n::l,by rw [ex,e];rfl,?_⟩
   intro m hm
   rcases List.mem_cons.1 hm with rfl | hm
   · exact hn
   · exact hl m hm
def Ck.i64 (c:Ck):Prop:=I64 c.len∧(∀ n∈c.cuts,I64 n)∧∀ n∈c.dens,I64 n
theorem F_c {c:List PV} (h:HasF dsC c):∃ k:Ck,c=[.int .i64 k.len,.data (ints k.cuts),.data (ints k.dens)]∧k.i64∧k.cuts.length≤9223372036854775807∧k.dens.length≤9223372036854775807:=by
 simp only [dsC,HasF,HasL] at h
 obtain ⟨c1,c2,rfl,⟨n,rfl,hn⟩,c3,c4,rfl,⟨r1,rfl,l1,h1⟩,c5,c6,rfl,⟨r2,rfl,l2,h2⟩,rfl⟩:=h
 obtain ⟨a,rfl,ha⟩:=yE9 r1 (fun x hx=>⟨(h1 x hx).1,by simp only [HasF];exact (h1 x hx).2⟩)
 obtain ⟨b,rfl,hb⟩:=yE9 r2 (fun x hx=>⟨(h2 x hx).1,by simp only [HasF];exact (h2 x hx).2⟩)
 rw [ycs] at l1 l2
 exact ⟨⟨n,a,b⟩,rfl,⟨ys7 hn,ha,hb⟩,l1,l2⟩
theorem yIM {x:PV} {l:List DS} (h:x.isAgg=(DS.a l).isA):x=.agg x.cells:=by
 cases x <;> first | rfl | cases h
theorem yLJ:∀ (rows:List PV),(∀ x∈rows,x.isAgg=dsC.isA∧HasF dsC x.cells)→∃ l:List Ck,rows=cks l∧∀ c∈l,c.i64
 | [],_=>⟨[],rfl,by simp⟩
 | x::r,h=>by
   obtain ⟨l,e,hl⟩:=yLJ r (fun y hy=>h y (List.mem_cons_of_mem _ hy))
   obtain ⟨h1,h2⟩:=h x (List.mem_cons_self ..)
   obtain ⟨k,e2,hk,_⟩:=F_c h2
   have ex:x=encC k:=by rw [yIM h1,e2];rfl
   refine ⟨k::l,by rw [ex,e];rfl,?_⟩
   intro m hm
   rcases List.mem_cons.1 hm with rfl | hm
   · exact hk
   · exact hl m hm
theorem F_cks {c:List PV} (h:HasF (.s dsC) c):∃ l:List Ck,c=[.data (cks l)]∧l.length≤9223372036854775807∧∀ k∈l,k.i64:=by
 simp only [HasF] at h
 obtain ⟨rows,rfl,hl,hr⟩:=h
 obtain ⟨l,rfl,hi⟩:=yLJ rows hr
 rw [yba] at hl
 exact ⟨l,rfl,hl,hi⟩
theorem yDp {x y:PV} (h:x.isAgg=false) (e:x.cells=[y]):x=y:=by
 cases x <;> first | (simp only [PV.cells,List.cons.injEq,and_true] at e;exact e) | cases h
end Go.Pf.Vc
namespace Go.Pf.Vc
open Go Go.Pf
section
variable {l:List Ck}
theorem getD_mem {bk:List Nat} {i:Nat} (h:i<bk.length):bk.getD i 0∈bk:=by
 rw [List.getD_eq_getElem?_getD,List.getElem?_eq_getElem h]
 exact List.getElem_mem h
end
end Go.Pf.Vc
namespace Go.Pf.Vc
abbrev RS:Type:=Rat×Rat
def inS (s:RS) (p:Rat):Prop:=s.1≤p∧p<s.2
def memP (l:List RS) (p:Rat):Prop:=∃ s∈l,inS s p
def canon:List RS→Prop
 | []=>True
 | s::r=>s.1<s.2∧(∀ t∈r,s.2<t.1)∧canon r
theorem yjW {p:Rat}:¬memP [] p:=fun ⟨s,h,_⟩=>by cases h
theorem ydl {s:RS} {r:List RS} {p:Rat}:memP (s::r) p↔inS s p∨memP r p:=by
 constructor
 · rintro ⟨t,h,hp⟩
   rcases List.mem_cons.1 h with rfl | h
   · exact .inl hp
   · exact .inr ⟨t,h,hp⟩
 · rintro (h | ⟨t,h,hp⟩)
   · exact ⟨s,List.mem_cons_self,h⟩
   · exact ⟨t,List.mem_cons_of_mem _ h,hp⟩
theorem yDq {s:RS} {r:List RS} (h:canon (s::r)) {p:Rat} (hp:memP (s::r) p):s.1≤p:=by
 obtain ⟨h1,h2,_⟩:=h
 rcases ydl.1 hp with h | ⟨t,h,hp,_⟩
 · exact h.1
 · have:=h2 t h
   grind
theorem yvl {s:RS} {r:List RS} (h:canon (s::r)) {p:Rat} (hp:memP r p):s.2<p:=by
 obtain ⟨t,ht,h1,_⟩:=hp
 have:=h.2.1 t ht
 grind
theorem yqW {s:RS} {r:List RS} (h:canon (s::r)):memP (s::r) s.1:=ydl.2 (.inl ⟨Rat.le_refl,h.1⟩)
theorem ymU:∀ (a b:List RS),canon a→canon b→(∀ p,memP a p↔memP b p)→a=b
 | [],[],_,_,_=>rfl
 | [],t::b,_,hb,h=>(yjW ((h t.1).2 (yqW hb))).elim
 | s::a,[],ha,_,h=>(yjW ((h s.1).1 (yqW ha))).elim
 | s::a,t::b,ha,hb,h=>by
   have e1:s.1=t.1:=by
     have h1:=yDq hb ((h s.1).1 (yqW ha))
     have h2:=yDq ha ((h t.1).2 (yqW hb))
     grind
   have key:∀ (s t:RS) (a b:List RS),canon (s::a)→canon (t::b)→s.1=t.1→(∀ p,memP (s::a) p↔memP (t::b) p)→¬s.2<t.2:=by
     intro s t a b ha hb e h hlt
     have h1:=(h s.2).2 (ydl.2 (.inl ⟨by have:=ha.1;grind,hlt⟩))
     rcases ydl.1 h1 with h2 | h2
     · have:=h2.2;grind
     · have:=yvl ha h2;grind
   have e2:s.2=t.2:=by
     have h1:=key s t a b ha hb e1 h
     have h2:=key t s b a hb ha e1.symm fun p=>(h p).symm
     grind
   have e:s=t:=Prod.ext e1 e2
   subst e
   have hab:a=b:=by
     refine ymU a b ha.2.2 hb.2.2 fun p=>⟨fun hp=>?_,fun hp=>?_⟩
     · have h1:=yvl ha hp
       rcases ydl.1 ((h p).1 (ydl.2 (.inr hp))) with h2 | h2
       · have:=h2.2;grind
       · exact h2
     · have h1:=yvl hb hp
       rcases ydl.1 ((h p).2 (ydl.2 (.inr hp))) with h2 | h2
       · have:=h2.2;grind
       · exact h2
   rw [hab]
end Go.Pf.Vc
namespace Go.Pf.Vc
def maxR (a b:Rat):Rat:=if a<b then b else a
def byFrom:List RS→Prop
 | []=>True
 | s::r=>(∀ t∈r,s.1≤t.1)∧byFrom r
end Go.Pf.Vc
namespace Go.Pf.Vc
def incrR:List Rat→Prop
 | []=>True
 | x::r=>(∀ y∈r,x<y)∧incrR r
def jn (f:Rat→Bool):List Rat→Option RS→List RS
 | x::y::r,none=>if f x then jn f (y::r) (some (x,y)) else jn f (y::r) none
 | x::y::r,some c=>if f x then (if c.2=x then jn f (y::r) (some (c.1,y)) else c::jn f (y::r) (some (x,y))) else jn f (y::r) (some c)
 | _,none=>[]
 | _,some c=>[c]
def segP (f:Rat→Bool):List Rat→Rat→Prop
 | x::y::r,p=>(f x=true∧x≤p∧p<y)∨segP f (y::r) p
 | _,_=>False
def curP:Option RS→Rat→Prop
 | none,_=>False
 | some c,p=>inS c p
def curOk (pts:List Rat):Option RS→Prop
 | none=>True
 | some c=>c.1<c.2∧∀ x∈pts,c.2≤x
def lowOk (pts:List Rat):Option RS→Rat→Prop
 | none,q=>∃ x∈pts,x≤q
 | some c,q=>c.1≤q
theorem jn_ok (f:Rat→Bool):∀ (pts:List Rat) (cur:Option RS),incrR pts→curOk pts cur →
   canon (jn f pts cur)∧(∀ t∈jn f pts cur,lowOk pts cur t.1)∧∀ p,memP (jn f pts cur) p↔(curP cur p∨segP f pts p)
 | [],none,_,_=>by
   unfold jn
   refine ⟨trivial,fun t h=>(by cases h),fun p=>?_⟩
   simp only [curP,segP]
   exact ⟨fun h=>(yjW h).elim,fun h=>h.elim (fun h=>h.elim) (fun h=>h.elim)⟩
 | [],some c,_,hc=>by
   unfold jn
   refine ⟨⟨hc.1,by simp,trivial⟩,fun t h=>?_,fun p=>?_⟩
   · rw [List.mem_singleton] at h;rw [h];exact Rat.le_refl
   · rw [ydl]
     simp only [curP,segP]
     exact ⟨fun h=>h.elim .inl (fun h=>(yjW h).elim),fun h=>h.elim .inl (fun h=>h.elim)⟩
 | [x],none,_,_=>by
   unfold jn
   refine ⟨trivial,fun t h=>(by cases h),fun p=>?_⟩
   simp only [curP,segP]
   exact ⟨fun h=>(yjW h).elim,fun h=>h.elim (fun h=>h.elim) (fun h=>h.elim)⟩
 | [x],some c,_,hc=>by
   unfold jn
   refine ⟨⟨hc.1,by simp,trivial⟩,fun t h=>?_,fun p=>?_⟩
   · rw [List.mem_singleton] at h;rw [h];exact Rat.le_refl
   · rw [ydl]
     simp only [curP,segP]
     exact ⟨fun h=>h.elim .inl (fun h=>(yjW h).elim),fun h=>h.elim .inl (fun h=>h.elim)⟩
 | x::y::r,none,hi,_=>by
   have hxy:=hi.1 y List.mem_cons_self
   unfold jn
   cases hf:f x with
   | true =>
     rw [if_pos rfl]
     obtain ⟨i1,i2,i3⟩:=jn_ok f (y::r) (some (x,y)) hi.2 ⟨hxy,fun z hz=>by
       rcases List.mem_cons.1 hz with rfl | hz
       · exact Rat.le_refl
       · have:=hi.2.1 z hz;show y≤z;grind⟩
     refine ⟨i1,fun t ht=>⟨x,List.mem_cons_self,i2 t ht⟩,fun p=>?_⟩
     rw [i3 p]
     simp only [curP,segP,inS,hf,true_and,false_or]
   | false =>
     rw [if_neg (by decide)]
     obtain ⟨i1,i2,i3⟩:=jn_ok f (y::r) none hi.2 trivial
     refine ⟨i1,fun t ht=>?_,fun p=>?_⟩
     · obtain ⟨z,hz,hzt⟩:=i2 t ht
       exact ⟨z,List.mem_cons_of_mem _ hz,hzt⟩
     · rw [i3 p]
       simp [curP,segP,hf]
 | x::y::r,some c,hi,hc=>by
   have hxy:=hi.1 y List.mem_cons_self
   have hcx:=hc.2 x List.mem_cons_self
   have hyr:∀ z∈y::r,y≤z:=fun z hz=>by
     rcases List.mem_cons.1 hz with rfl | hz
     · exact Rat.le_refl
     · have:=hi.2.1 z hz;grind
   unfold jn
   cases hf:f x with
   | true =>
     rw [if_pos rfl]
     by_cases he:c.2=x
     · rw [if_pos he]
       obtain ⟨i1,i2,i3⟩:=jn_ok f (y::r) (some (c.1,y)) hi.2 ⟨by have:=hc.1;show c.1<y;grind,hyr⟩
       refine ⟨i1,i2,fun p=>?_⟩
       rw [i3 p]
       simp only [curP,segP,inS,hf,true_and]
       have:=hc.1
       constructor
       · rintro (⟨h1,h2⟩ | h)
         · by_cases h3:p<c.2
           · exact .inl ⟨h1,h3⟩
           · exact .inr (.inl ⟨by grind,h2⟩)
         · exact .inr (.inr h)
       · rintro (⟨h1,h2⟩ | ⟨h1,h2⟩ | h)
         · exact .inl ⟨h1,by grind⟩
         · exact .inl ⟨by grind,h2⟩
         · exact .inr h
     · rw [if_neg he]
       obtain ⟨i1,i2,i3⟩:=jn_ok f (y::r) (some (x,y)) hi.2 ⟨hxy,hyr⟩
       refine ⟨⟨hc.1,fun t ht=>?_,i1⟩,fun t ht=>?_,fun p=>?_⟩
       · have:x≤t.1:=i2 t ht
         grind
       · rcases List.mem_cons.1 ht with rfl | ht
         · exact Rat.le_refl
         · have:x≤t.1:=i2 t ht
           have:=hc.1
           show c.1≤t.1
           grind
       · rw [ydl,i3 p]
         simp only [curP,segP,inS,hf,true_and]
   | false =>
     rw [if_neg (by decide)]
     obtain ⟨i1,i2,i3⟩:=jn_ok f (y::r) (some c) hi.2 ⟨hc.1,fun z hz=>by have:=hyr z hz;grind⟩
     refine ⟨i1,i2,fun p=>?_⟩
     rw [i3 p]
     simp [curP,segP,hf]
end Go.Pf.Vc
namespace Go.Pf.Vc
def minR (a b:Rat):Rat:=if a<b then a else b
theorem ymV (a b:Rat):a≤maxR a b∧b≤maxR a b∧(maxR a b=a∨maxR a b=b):=by unfold maxR;split <;> grind
theorem yqX (a b:Rat):minR a b≤a∧minR a b≤b∧(minR a b=a∨minR a b=b):=by unfold minR;split <;> grind
end Go.Pf.Vc
namespace Go.Pf.Vc
def gapOk (full:List Rat):List Rat→Prop
 | x::y::r=>(∀ z∈full,z≤x∨y≤z)∧gapOk full (y::r)
 | _=>True
theorem yLK (full:List Rat):∀ (pts:List Rat),incrR pts→(∀ z∈full,z∈pts∨∀ w∈pts,z<w)→gapOk full pts
 | [],_,_=>trivial
 | [_],_,_=>trivial
 | x::y::r,hi,h=>by
   refine ⟨fun z hz=>?_,yLK full (y::r) hi.2 fun z hz=>?_⟩
   · rcases h z hz with k | k
     · rcases List.mem_cons.1 k with rfl | k
       · exact .inl Rat.le_refl
       · rcases List.mem_cons.1 k with rfl | k
         · exact .inr Rat.le_refl
         · have:=hi.2.1 z k
           exact .inr (by grind)
     · have:=k x List.mem_cons_self
       exact .inl (by grind)
   · rcases h z hz with k | k
     · rcases List.mem_cons.1 k with rfl | k
       · exact .inr fun w hw=>hi.1 w hw
       · exact .inl k
     · exact .inr fun w hw=>k w (List.mem_cons_of_mem _ hw)
def endsIn (pts:List Rat) (a:List RS):Prop:=∀ s∈a,s.1∈pts∧s.2∈pts
theorem yx6 {full:List Rat} {a:List RS} (h:endsIn full a) {x y p:Rat} (hg:∀ z∈full,z≤x∨y≤z) (h1:x≤p) (h2:p<y):memP a p↔memP a x:=by
 constructor
 · rintro ⟨s,hs,k1,k2⟩
   obtain ⟨e1,e2⟩:=h s hs
   have:=hg _ e1
   exact ⟨s,hs,by grind,by grind⟩
 · rintro ⟨s,hs,k1,k2⟩
   obtain ⟨e1,e2⟩:=h s hs
   have:=hg _ e2
   exact ⟨s,hs,by grind,by grind⟩
def inHull (pts:List Rat) (p:Rat):Prop:=(∃ x∈pts,x≤p)∧∃ y∈pts,p<y
theorem yFa {pts:List Rat} {a:List RS} (h:endsIn pts a) {p:Rat} (hp:memP a p):inHull pts p:=by
 obtain ⟨s,hs,k1,k2⟩:=hp
 obtain ⟨e1,e2⟩:=h s hs
 exact ⟨⟨_,e1,k1⟩,⟨_,e2,k2⟩⟩
theorem yJz {full:List Rat} {f:Rat→Bool} {P:Rat→Prop} (hc:∀ x y p,(∀ z∈full,z≤x∨y≤z)→x≤p→p<y→(P p↔P x)):∀ (pts:List Rat),incrR pts→gapOk full pts→(∀ x∈pts,f x=true↔P x)→∀ p,segP f pts p↔(P p∧inHull pts p)
 | [],_,_,_,p=>by
   simp only [segP]
   exact ⟨fun h=>h.elim,fun h=>by obtain ⟨x,hx,_⟩:=h.2.1;cases hx⟩
 | [x],_,_,_,p=>by
   simp only [segP]
   refine ⟨fun h=>h.elim,fun h=>?_⟩
   obtain ⟨u,hu,k1⟩:=h.2.1
   obtain ⟨v,hv,k2⟩:=h.2.2
   rw [List.mem_singleton] at hu hv
   grind
 | x::y::r,hi,hg,hf,p=>by
   have ih:=yJz hc (y::r) hi.2 hg.2 (fun z hz=>hf z (List.mem_cons_of_mem _ hz)) p
   have hxy:=hi.1 y List.mem_cons_self
   simp only [segP]
   rw [ih,hf x List.mem_cons_self]
   constructor
   · rintro (⟨h1,h2,h3⟩ | ⟨h1,⟨u,hu,k1⟩,⟨v,hv,k2⟩⟩)
     · exact ⟨(hc x y p hg.1 h2 h3).2 h1,⟨x,List.mem_cons_self,h2⟩,⟨y,List.mem_cons_of_mem _ List.mem_cons_self,h3⟩⟩
     · exact ⟨h1,⟨u,List.mem_cons_of_mem _ hu,k1⟩,⟨v,List.mem_cons_of_mem _ hv,k2⟩⟩
   · rintro ⟨h1,⟨u,hu,k1⟩,⟨v,hv,k2⟩⟩
     have hxp:x≤p:=by
       rcases List.mem_cons.1 hu with rfl | hu
       · exact k1
       · have:=hi.1 u hu;grind
     by_cases hpy:p<y
     · exact .inl ⟨(hc x y p hg.1 hxp hpy).1 h1,hxp,hpy⟩
     · refine .inr ⟨h1,⟨y,List.mem_cons_self,by grind⟩,?_⟩
       rcases List.mem_cons.1 hv with rfl | hv
       · exact absurd k2 (by grind)
       · exact ⟨v,hv,k2⟩
theorem yLL {pts:List Rat} {f:Rat→Bool} {P:Rat→Prop} (hi:incrR pts) (hc:∀ x y p,(∀ z∈pts,z≤x∨y≤z)→x≤p→p<y→(P p↔P x)) (hf:∀ x∈pts,f x=true↔P x) (hh:∀ p,P p→inHull pts p) :
   canon (jn f pts none)∧∀ p,memP (jn f pts none) p↔P p:=by
 obtain ⟨i1,_,i3⟩:=jn_ok f pts none hi trivial
 refine ⟨i1,fun p=>?_⟩
 rw [i3 p,yJz hc pts hi (yLK pts pts hi fun z hz=>.inl hz) hf p]
 simp only [curP,false_or]
 exact ⟨fun h=>h.1,fun h=>⟨h,hh p h⟩⟩
end Go.Pf.Vc
namespace Go.Pf.Vc
def insR (p:Rat):List Rat→List Rat
 | []=>[p]
 | x::r=>if p=x then x::r else if p<x then p::x::r else x::insR p r
theorem ynY {p z:Rat}:∀ (l:List Rat),z∈insR p l↔(z=p∨z∈l)
 | []=>by unfold insR;simp
 | x::r=>by
   unfold insR
   by_cases h:p=x
   · rw [if_pos h]
     subst h
     simp
   · rw [if_neg h]
     by_cases h2:p<x
     · rw [if_pos h2];simp
     · rw [if_neg h2,List.mem_cons,ynY r,List.mem_cons]
       constructor
       · rintro (h | h | h)
         · exact .inr (.inl h)
         · exact .inl h
         · exact .inr (.inr h)
       · rintro (h | h | h)
         · exact .inr (.inl h)
         · exact .inl h
         · exact .inr (.inr h)
theorem yx7 {p:Rat}:∀ (l:List Rat),incrR l→incrR (insR p l)
 | [],_=>⟨by simp,trivial⟩
 | x::r,h=>by
   unfold insR
   by_cases h1:p=x
   · rw [if_pos h1];exact h
   · rw [if_neg h1]
     by_cases h2:p<x
     · rw [if_pos h2]
       refine ⟨fun y hy=>?_,h⟩
       rcases List.mem_cons.1 hy with rfl | hy
       · exact h2
       · have:=h.1 y hy;grind
     · rw [if_neg h2]
       refine ⟨fun y hy=>?_,yx7 r h.2⟩
       rcases (ynY r).1 hy with rfl | hy
       · grind
       · exact h.1 y hy
def endsR:List RS→List Rat→List Rat
 | [],out=>out
 | s::a,out=>endsR a (insR s.2 (insR s.1 out))
theorem ynZ:∀ (a:List RS) (out:List Rat),incrR out→incrR (endsR a out)
 | [],_,h=>h
 | _::a,_,h=>ynZ a _ (yx7 _ (yx7 _ h))
theorem yir:∀ (a:List RS) (out:List Rat) (z:Rat),z∈out→z∈endsR a out
 | [],_,_,h=>h
 | _::a,_,z,h=>yir a _ z ((ynY _).2 (.inr ((ynY _).2 (.inr h))))
theorem ykQ:∀ (a:List RS) (out:List Rat),endsIn (endsR a out) a
 | [],_=>fun s h=>by cases h
 | t::a,out=>by
   intro s hs
   rcases List.mem_cons.1 hs with rfl | hs
   · exact ⟨yir a _ _ ((ynY _).2 (.inr ((ynY _).2 (.inl rfl)))),yir a _ _ ((ynY _).2 (.inl rfl))⟩
   · exact ykQ a _ s hs
def joinR (f:Rat→Bool) (a b:List RS):List RS:=jn f (endsR b (endsR a [])) none
theorem yw1 {a b:List RS} {f:Rat→Bool} {c:Prop→Prop→Prop} (hf:∀ x,f x=true↔c (memP a x) (memP b x)) (h0:¬c False False) :
   canon (joinR f a b)∧∀ p,memP (joinR f a b) p↔c (memP a p) (memP b p):=by
 have ea:endsIn (endsR b (endsR a [])) a:=fun s hs=>⟨yir b _ _ (ykQ a [] s hs).1,yir b _ _ (ykQ a [] s hs).2⟩
 have eb:endsIn (endsR b (endsR a [])) b:=ykQ b _
 refine yLL (ynZ b _ (ynZ a _ trivial)) (fun x y p hg h1 h2=>?_) (fun x _=>hf x) (fun p hp=>?_)
 · rw [yx6 ea hg h1 h2,yx6 eb hg h1 h2]
 · by_cases h1:memP a p
   · exact yFa ea h1
   · by_cases h2:memP b p
     · exact yFa eb h2
     · rw [eq_false h1,eq_false h2] at hp
       exact (h0 hp).elim
end Go.Pf.Vc
namespace Go.Pf.Vc
open Go Go.Pf
def Sp.rs (s:Sp):RS:=(rt s.a s.b,rt s.c s.d)
def Sp.ok (s:Sp):Prop:=RV s.a s.b∧RV s.c s.d∧rt s.a s.b<rt s.c s.d
instance (s:Sp):Decidable s.ok:=by unfold Sp.ok;infer_instance
def Sp.i64 (s:Sp):Prop:=I64 s.a∧I64 s.b∧I64 s.c∧I64 s.d
theorem yBc {q r:Rat} (hq:small q) (hr:small r) (K:Int→Prop):yaB q.num q.den r.num r.den K=K (cmpQ q r):=by
 unfold yaB ynF
 rw [yzA hq hr]
theorem yLM {a b c d:Int} (h:RV a b) (k:RV c d) (K:Int→Prop):yaB a b c d K=K (cmpQ (rt a b) (rt c d)):=by
 obtain ⟨h1,h2,h3⟩:=rt_of h
 obtain ⟨k1,k2,k3⟩:=rt_of k
 have:=yBc h1 k1 K
 rw [h2,h3,k2,k3] at this
 exact this
theorem yGO (q r:Rat):decide (cmpQ q r<0)=decide (q<r):=by
 unfold cmpQ
 by_cases h:q<r
 · rw [if_pos h];simp [h]
 · rw [if_neg h]
   split <;> simp [h]
theorem yNb (q r:Rat):decide (cmpQ q r≤0)=!decide (r<q):=by
 unfold cmpQ
 by_cases h:q<r
 · have:¬r<q:=by grind
   rw [if_pos h];simp [this]
 · rw [if_neg h]
   by_cases h2:r<q
   · rw [if_pos h2];simp [h2]
   · rw [if_neg h2];simp [h2]
theorem yLN {s:Sp} (h:s.i64) (K:Bool→Prop):yca s.a s.b s.c s.d K=K (decide s.ok):=by
 refine yy2 _ _ _ _ _ (fun K k=>?_) K
 unfold yca ynD
 refine yLs h.1 h.2.1 h.2.2.1 h.2.2.2 ?_
 by_cases h1:RV s.a s.b
 · by_cases h2:RV s.c s.d
   · have e:chk2 s.a s.b s.c s.d=0:=ydG.2 ⟨h1,h2⟩
     obtain ⟨_,n1,n2⟩:=rt_of h1
     obtain ⟨_,n3,n4⟩:=rt_of h2
     have e2:=yJw (rt s.a s.b) (rt s.c s.d)
     rw [n1,n2,n3,n4] at e2
     rw [e,if_pos rfl,ceT rfl,e2,yGO]
     have e3:decide s.ok=decide (rt s.a s.b<rt s.c s.d):=by rw [decide_eq_decide];exact ⟨fun k=>k.2.2,fun k=>⟨h1,h2,k⟩⟩
     rw [← e3];exact k
   · have e:chk2 s.a s.b s.c s.d≠0:=fun e=>h2 (ydG.1 e).2
     rw [ceF e]
     have e3:decide s.ok=false:=decide_eq_false fun k=>h2 k.2.1
     rw [← e3];exact k
 · have e:chk2 s.a s.b s.c s.d≠0:=fun e=>h1 (ydG.1 e).1
   rw [ceF e]
   have e3:decide s.ok=false:=decide_eq_false fun k=>h1 k.1
   rw [← e3];exact k
end Go.Pf.Vc
namespace Go.Pf.Vc
open Go Go.Pf
theorem asSp {s:Sp} {P:Prop}:asr (conf (.agg [.i .i64,.i .i64,.i .i64,.i .i64]) (encS s)) P=P:=rfl
def allOkB (l:List Sp):Bool:=l.all fun s=>decide s.ok
theorem yLO {l:List Sp} (h64:∀ s∈l,s.i64) (hl:l.length<4611686018427387904) :
   ∀ x0 x1,∀ (r i n:Nat),i+r=l.length→r<n→yc3 yca x0 x1 n (spans l) l.length i=if allOkB (l.drop i) then x1 (spans l) l.length l.length false else x0 8:=by
 intro x0 x1 r
 induction r with
 | zero =>
   intro i n hi hn
   obtain ⟨n,rfl⟩:∃ m,n=m+1:=⟨n-1,by omega⟩
   obtain rfl:i=l.length:=by omega
   rw [yc3,cbF (by omega),List.drop_length]
   rfl
 | succ r ih =>
   intro i n hi hn
   obtain ⟨n,rfl⟩:∃ m,n=m+1:=⟨n-1,by omega⟩
   have hil:i<l.length:=by omega
   have e1:=wib (n:=(i:Int)+1) (by omega) (by omega)
   have hm:l.getD i default∈l:=by
     rw [List.getD_eq_getElem?_getD,List.getElem?_eq_getElem hil]
     exact List.getElem_mem hil
   have hd:allOkB (l.drop i)=(decide (l.getD i default).ok&&allOkB (l.drop (i+1))):=by
     rw [ybT default hil];rfl
   rw [yc3,cbT (by omega),asT (by omega),yfv,asT (by omega),Int.toNat_natCast,ypF hil,asSp,e1,cast1]
   change yca (l.getD i default).a (l.getD i default).b (l.getD i default).c (l.getD i default).d _=_
   rw [yLN (h64 _ hm),hd]
   cases hv:decide (l.getD i default).ok with
   | true =>
     rw [show (!true)=false from rfl,yaa,Bool.true_and]
     exact ih (i+1) n (by omega) (by omega)
   | false =>
     rw [show (!false)=true from rfl,yaf,Bool.false_and]
     rfl
def allE (l:List Sp):Int:=if l.length>60 then 4 else if allOkB l then 0 else 8
theorem yOk {l:List Sp} (h64:∀ s∈l,s.i64) (hl:l.length<4611686018427387904) (K:Int→Prop):yds (spans l) K=K (allE l):=by
 refine yCe _ _ (fun K k=>?_) K
 unfold yds yp6
 unfold allE at k
 rw [yfv]
 by_cases h:l.length>60
 · rw [cbT (by omega)];rw [if_pos h] at k;exact k
 · rw [cbF (by omega)]
   rw [if_neg h] at k
   refine ⟨l.length+1,?_⟩
   refine (yLO h64 hl _ _ l.length 0 (l.length+1) (by omega) (by omega)).mpr ?_
   rw [List.drop_zero]
   split
   · rename_i h2;rw [if_pos h2] at k;exact k
   · rename_i h2;rw [if_neg h2] at k;exact k
end Go.Pf.Vc
namespace Go.Pf.Vc
open Go Go.Pf
def gapB:Sp→List Sp→Bool
 | _,[]=>true
 | s,t::r=>decide (s.rs.2<t.rs.1)&&gapB t r
theorem yIN {l:List Sp} (hok:∀ s∈l,s.ok) (hl:l.length<4611686018427387904) :
   ∀ x0 x1,∀ (r i n:Nat),i+1+r=l.length→r<n→ybR yds yaB x0 x1 n (spans l) ((i+1:Nat):Int)=if gapB (l.getD i default) (l.drop (i+1)) then x1 (spans l) l.length false else x0 8:=by
 intro x0 x1 r
 induction r with
 | zero =>
   intro i n hi hn
   obtain ⟨n,rfl⟩:∃ m,n=m+1:=⟨n-1,by omega⟩
   rw [ybR,yfv,cbF (by omega),List.drop_eq_nil_of_le (by omega),show i+1=l.length by omega]
   rfl
 | succ r ih =>
   intro i n hi hn
   obtain ⟨n,rfl⟩:∃ m,n=m+1:=⟨n-1,by omega⟩
   have e0:=wib (n:=((i+1:Nat):Int)-1) (by omega) (by omega)
   have e2:((i+1:Nat):Int)-1=(i:Int):=by omega
   have e1:=wib (n:=((i+1:Nat):Int)+1) (by omega) (by omega)
   have hm1:l.getD i default∈l:=by
     rw [List.getD_eq_getElem?_getD,List.getElem?_eq_getElem (by omega)]
     exact List.getElem_mem (by omega)
   have hm2:l.getD (i+1) default∈l:=by
     rw [List.getD_eq_getElem?_getD,List.getElem?_eq_getElem (by omega)]
     exact List.getElem_mem (by omega)
   rw [ybR,yfv,cbT (by omega),e0,e2,asT (by omega),asT (by omega),Int.toNat_natCast,ypF (by omega),asSp,asT (by omega),asT (by omega),Int.toNat_natCast,ypF (by omega),asSp]
   change yaB (l.getD i default).c (l.getD i default).d (l.getD (i+1) default).a (l.getD (i+1) default).b _=_
   rw [yLM (hok _ hm1).2.1 (hok _ hm2).1,e1,cast1,ybT default (by omega)]
   unfold gapB
   have e3:decide (cmpQ (rt (l.getD i default).c (l.getD i default).d) (rt (l.getD (i+1) default).a (l.getD (i+1) default).b)≥0)=!decide ((l.getD i default).rs.2<(l.getD (i+1) default).rs.1):=yNa _ _
   rw [e3]
   cases decide ((l.getD i default).rs.2<(l.getD (i+1) default).rs.1) with
   | true =>
     rw [show (!true)=false from rfl,yaa,Bool.true_and]
     exact ih (i+1) n (by omega) (by omega)
   | false =>
     rw [show (!false)=true from rfl,yaf,Bool.false_and]
     rfl
def rsL (l:List Sp):List RS:=l.map Sp.rs
def pieceE (l:List Sp):Int:=if allE l=0 then (match l with | []=>0 | s::r=>if gapB s r then 0 else 8) else allE l
theorem yDr {l:List Sp} (h:allE l=0):l.length≤60∧∀ s∈l,s.ok:=by
 unfold allE at h
 split at h
 · cases h
 · split at h
   · rename_i h1 h2
     exact ⟨by omega,fun s hs=>by simpa using List.all_eq_true.1 h2 s hs⟩
   · cases h
theorem yKy {l:List Sp} (h64:∀ s∈l,s.i64) (hl:l.length<4611686018427387904) (K:Int→Prop):yaw (spans l) K=K (pieceE l):=by
 refine yy3 _ _ (fun K k=>?_) K
 unfold yaw ynH
 unfold pieceE at k
 rw [yOk h64 hl]
 by_cases h:allE l=0
 · rw [if_pos h] at k
   rw [cnF h]
   obtain ⟨h1,h2⟩:=yDr h
   cases l with
   | nil =>
     refine ⟨1,?_⟩
     rw [ybR,yfv,cbF (by simp)]
     exact k
   | cons s r =>
     refine ⟨r.length+1,?_⟩
     refine (yIN h2 hl _ _ r.length 0 (r.length+1) (by simp;omega) (by omega)).mpr ?_
     dsimp only at k
     show if gapB s r then _ else _
     split
     · rename_i hg;rw [if_pos hg] at k;exact k
     · rename_i hg;rw [if_neg hg] at k;exact k
 · rw [if_neg h] at k
   rw [cnT h];exact k
end Go.Pf.Vc
namespace Go.Pf.Vc
open Go Go.Pf
theorem yx8:∀ (r:List Sp) (s:Sp),s.ok→(∀ t∈r,t.ok)→(gapB s r=true↔canon (rsL (s::r)))
 | [],s,hs,_=>⟨fun _=>⟨hs.2.2,by simp,trivial⟩,fun _=>rfl⟩
 | t::r,s,hs,h=>by
   have ht:=h t List.mem_cons_self
   have ih:=yx8 r t ht fun u hu=>h u (List.mem_cons_of_mem _ hu)
   unfold gapB
   rw [Bool.and_eq_true,decide_eq_true_eq,ih]
   constructor
   · rintro ⟨h1,h2⟩
     refine ⟨hs.2.2,fun u hu=>?_,h2⟩
     rcases List.mem_cons.1 hu with rfl | hu
     · exact h1
     · have:=h2.2.1 u hu
       have:=h2.1
       show s.rs.2<u.1
       grind
   · rintro ⟨_,h2,h3⟩
     exact ⟨h2 _ List.mem_cons_self,h3⟩
theorem yGP {l:List Sp} (h:pieceE l=0):l.length≤60∧(∀ s∈l,s.ok)∧canon (rsL l):=by
 unfold pieceE at h
 split at h
 · rename_i h0
   obtain ⟨h1,h2⟩:=yDr h0
   refine ⟨h1,h2,?_⟩
   cases l with
   | nil=>trivial
   | cons s r =>
     dsimp only at h
     split at h
     · rename_i hg
       exact (yx8 r s (h2 s List.mem_cons_self) fun t ht=>h2 t (List.mem_cons_of_mem _ ht)).1 hg
     · cases h
 · rename_i h0;exact absurd h h0
end Go.Pf.Vc
namespace Go.Pf.Vc
open Go Go.Pf
def bothE (a b:List Sp):Int:=if pieceE a=0 then pieceE b else pieceE a
end Go.Pf.Vc
namespace Go.Pf.Vc
open Go Go.Pf Go.Sort
theorem yzB {n d:Int}:rvB n d=true↔RV n d:=by
 unfold rvB RV
 simp only [Bool.and_eq_true,decide_eq_true_eq]
theorem yNc {a b c d:Int} (h:RV a b) (k:RV c d):cmpI a b c d<0↔rt a b<rt c d:=by
 obtain ⟨_,h2,h3⟩:=rt_of h
 obtain ⟨_,k2,k3⟩:=rt_of k
 rw [Rat.lt_iff,h2,h3,k2,k3]
 unfold cmpI
 by_cases h:a*d<c*b
 · rw [if_pos h];simp [h]
 · rw [if_neg h]
   split <;> simp [h]
def ratOf:PV→Rat
 | .agg (.int _ a::.int _ b::_)=>rt a b
 | _=>0
theorem yw2 {x y:PV} (hx:spGood x=true) (hy:spGood y=true):spCmp x y<0↔ratOf x<ratOf y:=by
 unfold spGood at hx hy
 split at hx
 · split at hy
   · simp only [spCmp,ratOf]
     exact yNc (yzB.1 hx) (yzB.1 hy)
   · cases hy
 · cases hx
theorem you {n g:Nat} (x:(spSrt n g).s.El):spGood x.1=true:=by
 have:=x.2
 simp only [Srt.gd,Bool.and_eq_true] at this
 exact this.2
theorem yIO (n g:Nat):SWO (fun x y:(spSrt n g).s.El=>decide ((spSrt n g).cf x y<0)) where
 irrefl x:=by
   have:=yw2 (you x) (you x)
   show decide (spCmp x.1 x.1<0)=false
   rw [decide_eq_false_iff_not,this]
   exact Rat.lt_irrefl
 trans x y z h1 h2:=by
   have h1:decide (spCmp x.1 y.1<0)=true:=h1
   have h2:decide (spCmp y.1 z.1<0)=true:=h2
   show decide (spCmp x.1 z.1<0)=true
   rw [decide_eq_true_eq,yw2 (you _) (you _)] at *
   grind
 ntrans x y z h1 h2:=by
   have h1:decide (spCmp x.1 y.1<0)=false:=h1
   have h2:decide (spCmp y.1 z.1<0)=false:=h2
   show decide (spCmp x.1 z.1<0)=false
   rw [decide_eq_false_iff_not,yw2 (you _) (you _)] at *
   grind
theorem yx9 {s:Srt}:∀ {l:List PV},(∀ x∈l,s.gd x=true)→∃ d,s.rows? l=some d
 | [],_=>⟨[],rfl⟩
 | x::r,h=>by
   obtain ⟨d,hd⟩:=yx9 (s:=s) (l:=r) fun y hy=>h y (List.mem_cons_of_mem _ hy)
   refine ⟨⟨x,h x List.mem_cons_self⟩::d,?_⟩
   simp only [Srt.rows?]
   rw [dif_pos (h x List.mem_cons_self),hd]
theorem RV.i1 {n d:Int} (h:RV n d):I64 n:=by obtain ⟨h1,h2,h3,h4,_⟩:=h;exact ⟨by omega,by omega⟩
theorem RV.i2 {n d:Int} (h:RV n d):I64 d:=by obtain ⟨h1,h2,h3,h4,_⟩:=h;exact ⟨by omega,by omega⟩
theorem Sp.ok.i64 {s:Sp} (h:s.ok):s.i64:=⟨h.1.i1,h.1.i2,h.2.1.i1,h.2.1.i2⟩
theorem yLP (n g:Nat) {s:Sp} (h:s.ok):(spSrt n g).s.gd (encS s)=true:=by
 obtain ⟨h1,h2,h3,h4⟩:=h.i64
 have e1:IntKind.i64.min=-9223372036854775808:=by decide
 have e2:IntKind.i64.max=9223372036854775807:=by decide
 simp only [Srt.gd,spSrt,okI,encS,okL,spGood,Bool.and_eq_true,decide_eq_true_eq,e1,e2]
 unfold I64 at h1 h2 h3 h4
 exact ⟨⟨trivial,h1.1,h1.2,trivial,h2.1,h2.2,trivial,h3.1,h3.2,trivial,h4.1,h4.2,trivial⟩,yzB.2 h.1⟩
def decS:PV→Sp
 | .agg [.int _ a,.int _ b,.int _ c,.int _ d]=>⟨a,b,c,d⟩
 | _=>default
theorem yGQ (s:Sp):decS (encS s)=s:=rfl
theorem yKz (n g:Nat) {l:List Sp} (h:∀ s∈l,s.ok):∃ l':List Sp,l'.Perm l∧l'.Pairwise (fun s t=>¬t.rs.1<s.rs.1)∧Srt.sorted (spSrt n g).s (spSrt n g).srt (spans l)=spans l':=by
 obtain ⟨d,hd⟩:=yx9 (s:=(spSrt n g).s) (l:=spans l) fun x hx=>by
   obtain ⟨s,hs,rfl⟩:=List.mem_map.1 hx
   exact yLP n g (h s hs)
 obtain ⟨d',h1,h2,h3⟩:=(spSrt n g).sorted_is (yIO n g) hd
 have hv:=Srt.rows?_val hd
 have hp:(d'.map (·.1)).Perm (spans l):=by rw [← hv];exact h1.map _
 have hm:∀ x∈d'.map (·.1),∃ s∈l,encS s=x:=fun x hx=>List.mem_map.1 (hp.mem_iff.1 hx)
 refine ⟨(d'.map (·.1)).map decS,?_,?_,?_⟩
 · have this:(List.map decS (d'.map (·.1))).Perm (List.map decS (l.map encS)):=hp.map decS
   have e:List.map decS (l.map encS)=l:=by rw [List.map_map,show decS ∘ encS=id from funext yGQ,List.map_id]
   rw [e] at this
   exact this
 · rw [List.map_map,List.pairwise_map]
   refine h2.imp_of_mem fun {x y} hx hy hxy=>?_
   have hxy:¬spCmp y.1 x.1<0:=hxy
   rw [yw2 (you _) (you _)] at hxy
   obtain ⟨s,_,es⟩:=hm x.1 (List.mem_map_of_mem hx)
   obtain ⟨t,_,et⟩:=hm y.1 (List.mem_map_of_mem hy)
   show ¬(decS y.1).rs.1<(decS x.1).rs.1
   rw [← es,← et] at hxy ⊢
   exact hxy
 · rw [h3]
   have key:∀ (xs:List PV),(∀ x∈xs,∃ s∈l,encS s=x)→(xs.map decS).map encS=xs:=by
     intro xs
     induction xs with
     | nil=>intro _;rfl
     | cons x r ih =>
       intro h
       obtain ⟨s,_,es⟩:=h x List.mem_cons_self
       rw [List.map_cons,List.map_cons,ih fun y hy=>h y (List.mem_cons_of_mem _ hy),← es,yGQ]
   exact (key _ hm).symm
end Go.Pf.Vc
namespace Go.Pf.Vc
open Go Go.Pf
def spOf (r:RS):Sp:=⟨r.1.num,r.1.den,r.2.num,r.2.den⟩
def rsp (l:List RS):List PV:=spans (l.map spOf)
def smallS (r:RS):Prop:=small r.1∧small r.2
theorem ycf (l:List RS):(rsp l).length=l.length:=by unfold rsp;rw [yfv,List.length_map]
def encR (r:RS):PV:=encS (spOf r)
theorem ymk {l:List RS} {i:Nat} (h:i<l.length):List.getD (rsp l) i .nils=encR (l.getD i default):=by
 unfold rsp
 rw [ypF (by rw [List.length_map];exact h)]
 unfold encR
 congr 1
 rw [List.getD_eq_getElem?_getD,List.getD_eq_getElem?_getD,List.getElem?_map,List.getElem?_eq_getElem h]
 rfl
theorem encR0 (r:RS):intOfV (cellAt (encR r) 0)=r.1.num:=rfl
theorem encR1 (r:RS):intOfV (cellAt (encR r) 1)=r.1.den:=rfl
theorem encR2 (r:RS):intOfV (cellAt (encR r) 2)=r.2.num:=rfl
theorem encR3 (r:RS):intOfV (cellAt (encR r) 3)=r.2.den:=rfl
theorem asR (r:RS) (P:Prop):asr (conf (.agg [.i .i64,.i .i64,.i .i64,.i .i64]) (encR r)) P=P:=rfl
theorem yNd (a b:List RS):rsp a++rsp b=rsp (a++b):=by unfold rsp spans;rw [List.map_append,List.map_append]
theorem asE {α:Type} [DecidableEq α] (a:α) (P:Prop):asr (decide (a=a)) P=P:=by rw [decide_eq_true rfl,yay]
theorem asTr (P:Prop):asr (decide True) P=P:=by rw [decide_true];rfl
theorem yqY {l:List RS} (h:∀ s∈l,smallS s) {i:Nat} (hi:i<l.length):smallS (l.getD i default):=by
 rw [List.getD_eq_getElem?_getD,List.getElem?_eq_getElem hi]
 exact h _ (List.getElem_mem hi)
theorem yJA {s:Sp} (h:s.ok):spOf s.rs=s:=by
 obtain ⟨_,h2,h3⟩:=rt_of h.1
 obtain ⟨_,k2,k3⟩:=rt_of h.2.1
 unfold spOf Sp.rs
 cases s
 simp only at h2 h3 k2 k3 ⊢
 rw [h2,h3,k2,k3]
theorem yJB {r:RS} (_:smallS r):(spOf r).rs=r:=by
 show (rt r.1.num r.1.den,rt r.2.num r.2.den)=r
 rw [yf0,yf0]
theorem yzC {r:RS} (h:smallS r) (hv:r.1<r.2):(spOf r).ok:=⟨h.1.rv,h.2.rv,by
 show rt r.1.num r.1.den<rt r.2.num r.2.den
 rw [yf0,yf0];exact hv⟩
theorem yLQ {s:Sp} (h:s.ok):smallS s.rs:=⟨(rt_of h.1).1,(rt_of h.2.1).1⟩
theorem yDs {l:List Sp} (h:∀ s∈l,s.ok):spans l=rsp (rsL l):=by
 unfold rsp rsL
 rw [List.map_map]
 congr 1
 conv=>lhs;rw [← List.map_id l]
 exact List.map_congr_left fun s hs=>(yJA (h s hs)).symm
theorem yDt:∀ {l:List RS},l.Pairwise (fun s t=>¬t.1<s.1)→byFrom l
 | [],_=>trivial
 | s::r,h=>by
   rw [List.pairwise_cons] at h
   exact ⟨fun t ht=>by have:=h.1 t ht;grind,yDt h.2⟩
end Go.Pf.Vc
namespace Go.Pf.Vc
open Go Go.Pf
theorem yGR {a b c d:Int} (h:RV a b) (k:RV c d) (K:Bool→Prop):ycx a b c d K=K (decide (rt a b<rt c d)):=by
 obtain ⟨h1,h2,h3⟩:=rt_of h
 obtain ⟨k1,k2,k3⟩:=rt_of k
 have:=yGL h1 k1 K
 rw [h2,h3,k2,k3] at this
 exact this
theorem yKA {s:Sp} (h:s.i64) (K:Bool→Prop):yea s.a s.b s.c s.d K=K (decide s.ok):=by
 unfold yea yqA
 dsimp only [Go.Pf.jn]
 rw [yGJ h.1 h.2.1 h.2.2.1 h.2.2.2]
 by_cases h1:RV s.a s.b∧RV s.c s.d
 · rw [ceT (ydG.2 h1),yGR h1.1 h1.2]
   have e3:decide s.ok=decide (rt s.a s.b<rt s.c s.d):=by rw [decide_eq_decide];exact ⟨fun k=>k.2.2,fun k=>⟨h1.1,h1.2,k⟩⟩
   rw [e3]
 · rw [ceF fun e=>h1 (ydG.1 e)]
   have e3:decide s.ok=false:=decide_eq_false fun k=>h1 ⟨k.1,k.2.1⟩
   rw [e3]
theorem Sp.getD_mem {l:List Sp} {i:Nat} (h:i<l.length):l.getD i default∈l:=by
 rw [List.getD_eq_getElem?_getD,List.getElem?_eq_getElem h]
 exact List.getElem_mem h
def chkB:Option Sp→List Sp→Bool
 | _,[]=>true
 | none,t::r=>decide t.ok&&chkB (some t) r
 | some s,t::r=>decide t.ok&&(decide (s.rs.2<t.rs.1)&&chkB (some t) r)
theorem yDu (t:Sp) (r:List Sp):chkB none (t::r)=(decide t.ok&&chkB (some t) r):=rfl
theorem yya (s t:Sp) (r:List Sp):chkB (some s) (t::r)=(decide t.ok&&(decide (s.rs.2<t.rs.1)&&chkB (some t) r)):=rfl
theorem yGS {l:List Sp} (h64:∀ s∈l,s.i64) (hl:l.length<4611686018427387904) {x0:List PV→Int→Bool→Prop} {x1:Int→Prop} :
   ∀ (r i n:Nat) (p:Option Sp),i+r=l.length→r<n→(p=if i=0 then none else some (l.getD (i-1) default))→(∀ s,p=some s→s.ok) →
     yc7 yea ycx x0 x1 n (spans l) (i:Int)=if chkB p (l.drop i) then x0 (spans l) (l.length:Int) false else x1 8:=by
 intro r
 induction r with
 | zero =>
   intro i n p hi hn _ _
   obtain ⟨n,rfl⟩:∃ m,n=m+1:=⟨n-1,by omega⟩
   obtain rfl:i=l.length:=by omega
   rw [yc7,yfv,cbF (by omega),List.drop_length]
   unfold chkB
   rfl
 | succ r ih =>
   intro i n p hi hn hp hpo
   obtain ⟨n,rfl⟩:∃ m,n=m+1:=⟨n-1,by omega⟩
   have hil:i<l.length:=by omega
   have e1:=wib (n:=(i:Int)+1) (by omega) (by omega)
   have hd:l.drop i=l.getD i default::l.drop (i+1):=ybT default hil
   have hx:=h64 _ (Sp.getD_mem hil)
   have IH:=fun (ho:(l.getD i default).ok)=>ih (i+1) n (some (l.getD i default)) (by omega) (by omega) (by rw [if_neg (by omega)];rfl) (fun s hs=>by cases hs;exact ho)
   rw [yc7,yfv,cbT (by omega)]
   dsimp only [lt,Go.Pf.jn]
   rw [asT (by omega),asT (by omega),Int.toNat_natCast,ypF hil,asSp,e1,hd]
   change yea (l.getD i default).a (l.getD i default).b (l.getD i default).c (l.getD i default).d _=_
   rw [yKA hx]
   by_cases ho:(l.getD i default).ok
   · rw [decide_eq_true ho,show (!true)=false from rfl,yaa]
     by_cases h0:i=0
     · subst h0
       rw [if_pos rfl] at hp
       subst hp
       rw [cbF (by omega),yaa,cast1]
       have:=IH ho
       rw [this,yDu,decide_eq_true ho,Bool.true_and]
     · rw [if_neg h0] at hp
       have e2:=wib (n:=(i:Int)-1) (by omega) (by omega)
       have e3:((i:Int)-1).toNat=i-1:=by omega
       rw [cbT (by omega),e2,asT (by omega),asT (by omega),e3,ypF (by omega),asSp,asT (by omega),asT (by omega),asSp]
       subst hp
       have hpo:=hpo _ rfl
       change ycx (l.getD (i-1) default).c (l.getD (i-1) default).d (l.getD i default).a (l.getD i default).b _=_
       rw [yGR hpo.2.1 ho.1]
       rw [yya,decide_eq_true ho,Bool.true_and]
       show cbr (!decide ((l.getD (i-1) default).rs.2<(l.getD i default).rs.1)) _ _=_
       cases decide ((l.getD (i-1) default).rs.2<(l.getD i default).rs.1) with
       | true =>
         rw [show (!true)=false from rfl,yaa,cast1,Bool.true_and]
         exact IH ho
       | false =>
         rw [show (!false)=true from rfl,yaf,Bool.false_and]
         rfl
   · rw [decide_eq_false ho,show (!false)=true from rfl,yaf,yaf]
     cases p with
     | none=>rw [yDu,decide_eq_false ho,Bool.false_and];rfl
     | some s=>rw [yya,decide_eq_false ho,Bool.false_and];rfl
theorem yGT:∀ (r:List Sp) (s:Sp),chkB (some s) r=(allOkB r&&gapB s r)
 | [],s=>rfl
 | t::r,s=>by
   rw [yya,yGT r t]
   rw [show gapB s (t::r)=(decide (s.rs.2<t.rs.1)&&gapB t r) from rfl]
   show _=((decide t.ok&&allOkB r)&&_)
   cases decide t.ok <;> cases decide (s.rs.2<t.rs.1) <;> cases allOkB r <;> cases gapB t r <;> rfl
theorem yIP {l:List Sp} (h64:∀ s∈l,s.i64) (hl:l.length<4611686018427387904) (K:Int→Prop):ybX (spans l) K=K (pieceE l):=by
 refine yCv _ _ (fun K k=>?_) K
 unfold ybX yqC
 rw [yfv]
 unfold pieceE allE at k
 by_cases h:l.length>60
 · rw [cbT (by omega)]
   rw [if_pos h,if_neg (by omega)] at k
   exact k
 · rw [cbF (by omega)]
   rw [if_neg h] at k
   refine ⟨l.length+1,?_⟩
   refine (yGS h64 hl l.length 0 (l.length+1) none (by omega) (by omega) rfl (fun s h=>by cases h)).mpr ?_
   rw [List.drop_zero]
   cases l with
   | nil=>exact k
   | cons s r =>
     have e:chkB none (s::r)=(allOkB (s::r)&&gapB s r):=by
       show (decide s.ok&&chkB (some s) r)=_
       rw [yGT]
       show _=((decide s.ok&&allOkB r)&&_)
       rw [Bool.and_assoc]
     rw [e]
     dsimp only at k
     cases h1:allOkB (s::r) with
     | true =>
       rw [h1,if_pos rfl,if_pos rfl] at k
       rw [Bool.true_and]
       split
       · rename_i h2;rw [if_pos h2] at k;exact k
       · rename_i h2;rw [if_neg h2] at k;exact k
     | false =>
       rw [h1,if_neg (by simp)] at k
       rw [Bool.false_and,if_neg (by simp)]
       rw [if_neg (by decide)] at k
       exact k
def inB (l:List RS) (p:Rat):Bool:=l.any fun s=>!decide (p<s.1)&&decide (p<s.2)
theorem yw3 {l:List RS} {p:Rat}:inB l p=true↔memP l p:=by
 unfold inB memP inS
 rw [List.any_eq_true]
 constructor
 · rintro ⟨s,h1,h2⟩
   simp only [Bool.and_eq_true,Bool.not_eq_true',decide_eq_false_iff_not,decide_eq_true_eq] at h2
   exact ⟨s,h1,by grind,h2.2⟩
 · rintro ⟨s,h1,h2,h3⟩
   refine ⟨s,h1,?_⟩
   simp only [Bool.and_eq_true,Bool.not_eq_true',decide_eq_false_iff_not,decide_eq_true_eq]
   exact ⟨by grind,h3⟩
end Go.Pf.Vc
namespace Go.Pf.Vc
open Go Go.Pf
def encW (q:Rat):PV:=.agg [.int .i64 q.num,.int .i64 q.den]
def rts (l:List Rat):List PV:=l.map encW
theorem ygX (l:List Rat):(rts l).length=l.length:=List.length_map ..
theorem yn2 {l:List Rat} {i:Nat} (h:i<l.length):List.getD (rts l) i .nils=encW (l.getD i 0):=by
 unfold rts
 rw [List.getD_eq_getElem?_getD,List.getD_eq_getElem?_getD,List.getElem?_map,List.getElem?_eq_getElem h]
 rfl
theorem encW0 (q:Rat):intOfV (cellAt (encW q) 0)=q.num:=rfl
theorem encW1 (q:Rat):intOfV (cellAt (encW q) 1)=q.den:=rfl
theorem asW (q:Rat) (P:Prop):asr (conf (.agg [.i .i64,.i .i64]) (encW q)) P=P:=rfl
theorem yJC (q:Rat):([.agg [.int .i64 q.num,.int .i64 q.den]]:List PV)=rts [q]:=rfl
theorem yJD (a b:List Rat):rts a++rts b=rts (a++b):=by unfold rts;rw [List.map_append]
theorem ratEq (a b:Rat):((a.num == b.num)&&(((a.den:Int) ==(b.den:Int))&&true))=decide (a=b):=by
 rw [Bool.and_true,Bool.eq_iff_iff]
 simp only [Bool.and_eq_true,beq_iff_eq,decide_eq_true_eq]
 constructor
 · rintro ⟨h1,h2⟩;exact Rat.ext h1 (by omega)
 · rintro rfl;exact ⟨rfl,rfl⟩
theorem yyF {l:List Rat} {i:Nat} (h:i<l.length):l.getD i 0∈l:=by
 rw [List.getD_eq_getElem?_getD,List.getElem?_eq_getElem h]
 exact List.getElem_mem h
end Go.Pf.Vc
namespace Go.Pf.Vc
open Go Go.Pf
def selB (how:Int) (x y:Bool):Bool:=bif how == 2 then (x&&!y) else (bif how == 1 then (x&&y) else (x||y))
section
variable {a b:List RS} {pts:List Rat} {how:Int}
def selF (a b:List RS) (how:Int) (q:Rat):Bool:=selB how (inB a q) (inB b q)
end
end Go.Pf.Vc
namespace Go.Pf.Vc
open Go Go.Pf
theorem yGU (l:List RS):headOk 4 (rsp l)=true:=by cases l <;> rfl
theorem yBd {a b:List RS} {q:Rat}:selF a b 0 q=true↔(memP a q∨memP b q):=by
 show (inB a q||inB b q)=true↔_
 rw [Bool.or_eq_true,yw3,yw3]
theorem yDv {a b:List RS} {q:Rat}:selF a b 1 q=true↔(memP a q∧memP b q):=by
 show (inB a q&&inB b q)=true↔_
 rw [Bool.and_eq_true,yw3,yw3]
theorem yn3 {l:List RS} (h:canon l):∀ s∈l,s.1<s.2:=by
 induction l with
 | nil=>intro s hs;cases hs
 | cons t r ih =>
   intro s hs
   rcases List.mem_cons.1 hs with rfl | hs
   · exact h.1
   · exact ih h.2.2 s hs
def setR (a b:List RS) (how:Int):List RS:=joinR (selF a b how) a b
end Go.Pf.Vc
namespace Go.Pf.Vc
open Go Go.Pf
def dsS:DS:=.a [dsR,dsR]
theorem F_s {c:List PV} (h:HasF dsS c):∃ s:Sp,c=[.int .i64 s.a,.int .i64 s.b,.int .i64 s.c,.int .i64 s.d]∧s.i64:=by
 simp only [dsS,dsR,HasF,HasL] at h
 obtain ⟨_,_,rfl,⟨_,_,rfl,⟨a,rfl,ha⟩,_,_,rfl,⟨b,rfl,hb⟩,rfl⟩,_,_,rfl,⟨_,_,rfl,⟨c,rfl,hc⟩,_,_,rfl,⟨d,rfl,hd⟩,rfl⟩,rfl⟩:=h
 exact ⟨⟨a,b,c,d⟩,rfl,ys7 ha,ys7 hb,ys7 hc,ys7 hd⟩
theorem yGV:∀ (rows:List PV),(∀ x∈rows,x.isAgg=dsS.isA∧HasF dsS x.cells)→∃ l:List Sp,rows=spans l∧∀ s∈l,s.i64
 | [],_=>⟨[],rfl,by simp⟩
 | x::r,h=>by
   obtain ⟨l,e,hl⟩:=yGV r (fun y hy=>h y (List.mem_cons_of_mem _ hy))
   obtain ⟨h1,h2⟩:=h x (List.mem_cons_self ..)
   obtain ⟨k,e2,hk⟩:=F_s h2
   have ex:x=encS k:=by rw [yIM h1,e2];rfl
   refine ⟨k::l,by rw [ex,e];rfl,?_⟩
   intro m hm
   rcases List.mem_cons.1 hm with rfl | hm
   · exact hk
   · exact hl m hm
theorem yNe {c:List PV} (h:HasF (.s dsS) c):∃ l:List Sp,c=[.data (spans l)]∧l.length≤9223372036854775807∧∀ s∈l,s.i64:=by
 simp only [HasF] at h
 obtain ⟨rows,rfl,hl,hr⟩:=h
 obtain ⟨l,rfl,hi⟩:=yGV rows hr
 rw [yfv] at hl
 exact ⟨l,rfl,hl,hi⟩
def greatS (l:List Sp):Bool:=decide (l.length>20∧l.length≤60∨l.length>70)
theorem yKB (l:List Sp) (K:Bool→Prop):yd9 (spans l) K=K (greatS l):=by
 unfold yd9 yqv greatS
 dsimp only [Go.Pf.jn]
 rw [yfv]
 by_cases h:l.length>20
 · rw [cbT (by omega)]
   by_cases h2:l.length≤60
   · rw [cbT (by omega),decide_eq_true (by omega)]
   · rw [cbF (by omega)]
     congr 1
     rw [decide_eq_decide];omega
 · rw [cbF (by omega)]
   congr 1
   rw [decide_eq_decide];omega
theorem yBe {l:List Sp} (h:greatS l=false):l.length≤70∧(l.length≤60→l.length≤20):=by
 unfold greatS at h
 rw [decide_eq_false_iff_not] at h
 omega
end Go.Pf.Vc
namespace Go.Pf.Vc
open Go Go.Pf
theorem yOl {a b c d:Int} (h:RV a b) (k:RV c d):cmpI a b c d=cmpQ (rt a b) (rt c d):=by
 obtain ⟨_,h2,h3⟩:=rt_of h
 obtain ⟨_,k2,k3⟩:=rt_of k
 unfold cmpI cmpQ
 simp only [Rat.lt_iff,h2,h3,k2,k3]
theorem yLR:∀ {cs:List PV},okL [.i64,.i64,.i64,.i64] cs=true→∃ a b c d,cs=[.int .i64 a,.int .i64 b,.int .i64 c,.int .i64 d]
 | [],h=>by cases h
 | [x],h=>by cases x <;> simp [okL] at h
 | [x,y],h=>by cases x <;> cases y <;> simp [okL] at h
 | [x,y,z],h=>by cases x <;> cases y <;> cases z <;> simp [okL] at h
 | x::y::z::u::w,h=>by
   cases x <;> first | (simp [okL] at h;done) | skip
   cases y <;> first | (simp [okL] at h;done) | skip
   cases z <;> first | (simp [okL] at h;done) | skip
   cases u <;> first | (simp [okL] at h;done) | skip
   simp only [okL,Bool.and_eq_true,decide_eq_true_eq] at h
   obtain ⟨rfl,_,_,rfl,_,_,rfl,_,_,rfl,_,_,h⟩:=h
   cases w with
   | nil=>exact ⟨_,_,_,_,rfl⟩
   | cons p q=>simp [okL] at h
theorem gd_sp {n g:Nat} {x:PV} (h:(spSrt n g).s.gd x=true):∃ a b c d,x=.agg [.int .i64 a,.int .i64 b,.int .i64 c,.int .i64 d]∧RV a b:=by
 simp only [Srt.gd,Bool.and_eq_true] at h
 have h1:okI [.i64,.i64,.i64,.i64] x=true:=h.1
 have h2:spGood x=true:=h.2
 clear h
 cases x <;> first | (simp [okI] at h1;done) | skip
 obtain ⟨a,b,c,d,rfl⟩:=yLR (h1:okL _ _=true)
 exact ⟨a,b,c,d,rfl,yzB.1 h2⟩
end Go.Pf.Vc
namespace Go.Pf.Vc
open Go Go.Pf
structure Pc (l:List RS):Prop where
 c:canon l
 s:∀ s∈l,smallS s
 n:l.length≤60
theorem yKC {a b:List RS} {p:Rat}:memP (setR a b 0) p↔(memP a p∨memP b p):=(yw1 (c:=Or) (fun x=>yBd) (by simp)).2 p
theorem yLS {a b:List RS} {p:Rat}:memP (setR a b 1) p↔(memP a p∧memP b p):=(yw1 (c:=And) (fun x=>yDv) (by simp)).2 p
theorem yLT {l:List RS} (h:∀ s∈l,smallS s):rsL (l.map spOf)=l:=by
 induction l with
 | nil=>rfl
 | cons s r ih =>
   show (spOf s).rs::rsL (r.map spOf)=_
   rw [yJB (h s List.mem_cons_self),ih fun t ht=>h t (List.mem_cons_of_mem _ ht)]
theorem Pc.ok {l:List RS} (h:Pc l):∀ s∈l.map spOf,s.ok:=fun s hs=>by
 obtain ⟨t,ht,rfl⟩:=List.mem_map.1 hs
 exact yzC (h.s t ht) (yn3 h.c t ht)
theorem Pc.i64 {l:List RS} (h:Pc l):∀ s∈l.map spOf,s.i64:=fun s hs=>by
 obtain ⟨t,ht,rfl⟩:=List.mem_map.1 hs
 have:=h.s t ht
 exact ⟨this.1.i1,this.1.i2,this.2.i1,this.2.i2⟩
theorem Pc.e {l:List RS} (h:Pc l):pieceE (l.map spOf)=0:=by
 have hl:=h.n
 have ho:=h.ok
 have hc:=h.c
 rw [← yLT h.s] at hc
 have h1:allOkB (l.map spOf)=true:=List.all_eq_true.2 fun s hs=>decide_eq_true (ho s hs)
 have h2:allE (l.map spOf)=0:=by
   unfold allE
   rw [if_neg (by rw [List.length_map];omega),h1,if_pos rfl]
 unfold pieceE
 rw [h2]
 cases l with
 | nil=>rfl
 | cons s r =>
   have hg:gapB (spOf s) (r.map spOf)=true:=(yx8 _ _ (ho _ (by simp)) (fun t ht=>ho t (List.mem_cons_of_mem _ ht))).2 hc
   show (if (0:Int)=0 then (if gapB (spOf s) (r.map spOf) then 0 else 8) else _)=_
   rw [if_pos rfl,hg,if_pos rfl]
theorem pc_of {l:List Sp} (h:pieceE l=0):Pc (rsL l)∧spans l=rsp (rsL l)∧l=(rsL l).map spOf:=by
 obtain ⟨h1,h2,h3⟩:=yGP h
 refine ⟨⟨h3,fun s hs=>by obtain ⟨t,ht,rfl⟩:=List.mem_map.1 hs;exact yLQ (h2 t ht),by unfold rsL;rw [List.length_map];exact h1⟩,yDs h2,?_⟩
 unfold rsL
 rw [List.map_map]
 have:∀ s∈l,(spOf ∘ Sp.rs) s=id s:=fun s hs=>yJA (h2 s hs)
 rw [List.map_congr_left this,List.map_id]
theorem Pc.check {l:List RS} (h:Pc l) (K:Int→Prop):yaw (rsp l) K=K 0:=by
 unfold rsp
 rw [yKy h.i64 (by rw [List.length_map];have:=h.n;omega),h.e]
theorem Pc.both {a b:List RS} (ha:Pc a) (hb:Pc b):bothE (a.map spOf) (b.map spOf)=0:=by
 unfold bothE
 rw [ha.e,if_pos rfl,hb.e]
end Go.Pf.Vc
namespace Go.Pf.Vc
open Go Go.Pf
def sumO (v:RS→Rat):List RS→Rat→Option Rat
 | [],q=>some q
 | s::r,q=>if small (v s)∧small (q+v s) then sumO v r (q+v s) else none
def sumV (v:RS→Rat):List RS→Rat
 | []=>0
 | s::r=>v s+sumV v r
def optK (o:Option Rat) (K:Int→Int→Int→Prop):Prop:=match o with | some q=>K q.num q.den 0 | none=>K 0 0 16
theorem yis:small 0:=by decide +kernel
end Go.Pf.Vc
namespace Go.Pf.Vc
open Go Go.Pf
theorem yNf {x:PV} (h1:x.isAgg=(DS.s dsS).isA) (h2:HasF (.s dsS) x.cells):∃ l:List Sp,x=.data (spans l)∧∀ s∈l,s.i64:=by
 obtain ⟨l,e,_,h⟩:=yNe h2
 exact ⟨l,yDp h1 e,h⟩
theorem nz (P Q:Prop):cbr ((0:Int) != 0) P Q=Q:=rfl
theorem ez (P Q:Prop):cbr ((0:Int) == 0) P Q=P:=rfl
end Go.Pf.Vc
namespace Go.Pf.Vc
open Go Go.Pf
section
variable (V:Rat→Rat)
def dV (s:RS):Rat:=V s.2-V s.1
def csum (f:Rat→Bool):List Rat→Rat
 | x::y::r=>(bif f x then V y-V x else 0)+csum f (y::r)
 | _=>0
theorem yBf (f:Rat→Bool):∀ (pts:List Rat),sumV (dV V) (jn f pts none)=csum V f pts∧∀ c,sumV (dV V) (jn f pts (some c))=dV V c+csum V f pts
 | []=>by
   unfold jn csum
   exact ⟨rfl,fun c=>rfl⟩
 | [x]=>by
   unfold jn csum
   exact ⟨rfl,fun c=>rfl⟩
 | x::y::r=>by
   obtain ⟨i1,i2⟩:=yBf f (y::r)
   unfold jn csum
   cases hf:f x with
   | true =>
     rw [if_pos rfl]
     refine ⟨?_,fun c=>?_⟩
     · rw [i2];rfl
     · rw [if_pos rfl]
       split
       · rename_i hc
         rw [i2]
         unfold dV
         rw [cond_true,hc]
         dsimp only
         grind
       · show dV V c+sumV (dV V) (jn f (y::r) (some (x,y)))=_
         rw [i2]
         unfold dV
         rw [cond_true]
   | false =>
     rw [if_neg (by decide)]
     refine ⟨?_,fun c=>?_⟩
     · rw [i1,cond_false];grind
     · rw [if_neg (by decide),i2,cond_false];grind
theorem yGW (f g:Rat→Bool):∀ pts:List Rat,csum V f pts+csum V g pts=csum V (fun x=>f x||g x) pts+csum V (fun x=>f x&&g x) pts
 | []=>rfl
 | [x]=>rfl
 | x::y::r=>by
   have ih:=yGW f g (y::r)
   unfold csum
   cases f x <;> cases g x <;> simp only [cond_true,cond_false,Bool.or_self,Bool.and_self,Bool.or_true,Bool.and_true,Bool.and_false,Bool.or_false] <;> grind
theorem yJE {pts:List Rat} {A:List RS} (hA:canon A) (hi:incrR pts) (he:endsIn pts A):jn (inB A) pts none=A:=by
 obtain ⟨h1,h2⟩:=yLL (P:=memP A) hi (fun x y p hg h1 h2=>yx6 he hg h1 h2) (fun x _=>yw3) (fun p hp=>yFa he hp)
 exact ymU _ _ h1 hA h2
theorem yLU {A B:List RS} (hA:canon A) (hB:canon B):sumV (dV V) A+sumV (dV V) B=sumV (dV V) (setR A B 0)+sumV (dV V) (setR A B 1):=by
 have ea:endsIn (endsR B (endsR A [])) A:=fun s hs=>⟨yir B _ _ (ykQ A [] s hs).1,yir B _ _ (ykQ A [] s hs).2⟩
 have eb:endsIn (endsR B (endsR A [])) B:=ykQ B _
 have hi:incrR (endsR B (endsR A [])):=ynZ B _ (ynZ A _ trivial)
 have h1:=(yBf V (inB A) (endsR B (endsR A []))).1
 have h2:=(yBf V (inB B) (endsR B (endsR A []))).1
 have h3:=(yBf V (selF A B 0) (endsR B (endsR A []))).1
 have h4:=(yBf V (selF A B 1) (endsR B (endsR A []))).1
 rw [yJE hA hi ea] at h1
 rw [yJE hB hi eb] at h2
 show _=sumV (dV V) (jn (selF A B 0) (endsR B (endsR A [])) none)+sumV (dV V) (jn (selF A B 1) (endsR B (endsR A [])) none)
 rw [h1,h2,h3,h4,yGW]
 rfl
end
def outW (w:(Int→Int→Int→Prop)→Prop) (t:Rat):Prop:=(∃ c,c=16∧∀ K,w K=K 0 0 c)∨(small t∧∀ K,w K=K t.num t.den 0)
theorem outW.const {w:(Int→Int→Int→Prop)→Prop} {t:Rat} (h:outW w t) (P:Prop):w (fun _ _ _=>P)=P:=by
 rcases h with ⟨c,_,q⟩ | ⟨_,q⟩ <;> rw [q]
end Go.Pf.Vc
namespace Go.Pf.Vc
open Go Go.Pf
section
variable {len:Int} {cuts dens:List Int}
def uC (cuts:List Int) (i:Nat) (x:Rat):Rat:=minR (maxR x (cuts.getD i 0:Int)) (cuts.getD (i+1) 0:Int)
def vu (cuts dens:List Int) (x:Rat):Nat→Nat→Rat
 | 0,_=>0
 | r+1,i=>(dens.getD i 0:Int)*uC cuts i x+vu cuts dens x r (i+1)
theorem yIQ (h:VC len cuts dens):∀ (r i:Nat) {x y:Rat},i+r=dens.length→x≤(cuts.getD i 0:Int)→y≤(cuts.getD i 0:Int)→vu cuts dens x r i=vu cuts dens y r i
 | 0,_,_,_,_,_,_=>rfl
 | r+1,i,x,y,hi,hx,hy=>by
   have l1:=h.l1
   have hst:((cuts.getD i 0:Int):Rat)<((cuts.getD (i+1) 0:Int):Rat):=Rat.intCast_lt_intCast.2 (h.step (i:=i) (by omega))
   have ih:=yIQ h r (i+1) (x:=x) (y:=y) (by omega) (by grind) (by grind)
   unfold vu
   rw [ih]
   have e:uC cuts i x=uC cuts i y:=by
     unfold uC
     have a1:=ymV x (cuts.getD i 0:Int)
     have a2:=ymV y (cuts.getD i 0:Int)
     have e1:maxR x (cuts.getD i 0:Int)=(cuts.getD i 0:Int):=by grind
     have e2:maxR y (cuts.getD i 0:Int)=(cuts.getD i 0:Int):=by grind
     rw [e1,e2]
   rw [e]
theorem yFb {α:Type} {q:Rat} {k:Rat→Except Int α} {v:α} (h:fit q k=.ok v):k q=.ok v:=by
 unfold fit at h
 split at h
 · exact h
 · cases h
theorem yzD (h:VC len cuts dens) {b:Rat}:∀ (r i:Nat) (p sum v:Rat),i+r=dens.length→p≤b→(p=b∨((cuts.getD i 0:Int):Rat)≤p)→valS cuts dens b r i p sum=.ok v→v=sum+(vu cuts dens b r i-vu cuts dens p r i)
 | 0,i,p,sum,v,hi,hp,hc,hv=>by
   unfold valS at hv
   cases hv
   unfold vu
   grind
 | r+1,i,p,sum,v,hi,hp,hc,hv=>by
   have l1:=h.l1
   have hst:((cuts.getD i 0:Int):Rat)<((cuts.getD (i+1) 0:Int):Rat):=Rat.intCast_lt_intCast.2 (h.step (i:=i) (by omega))
   unfold valS at hv
   dsimp only at hv
   have hen:∃ en:Rat,(if b<((cuts.getD (i+1) 0:Int):Rat) then b else ((cuts.getD (i+1) 0:Int):Rat))=en∧en≤b∧en≤((cuts.getD (i+1) 0:Int):Rat)∧(en=b∨en=((cuts.getD (i+1) 0:Int):Rat)):=by
     refine ⟨_,rfl,?_⟩
     split <;> grind
   obtain ⟨en,e0,he1,he2,he3⟩:=hen
   rw [e0] at hv
   have low:=yIQ h r (i+1) (x:=en) (y:=p) (by omega)
   have m1:=ymV b (cuts.getD i 0:Int)
   have m2:=ymV p (cuts.getD i 0:Int)
   have n1:=yqX (maxR b (cuts.getD i 0:Int)) (cuts.getD (i+1) 0:Int)
   have n2:=yqX (maxR p (cuts.getD i 0:Int)) (cuts.getD (i+1) 0:Int)
   unfold vu uC
   generalize ((cuts.getD i 0:Int):Rat)=c0 at *
   generalize hc1:((cuts.getD (i+1) 0:Int):Rat)=c1 at *
   by_cases hlt:p<en
   · have hb:minR (maxR b c0) c1=en:=by grind
     have hq:minR (maxR p c0) c1=p:=by grind
     by_cases hd:dens.getD i 0=0
     · rw [if_pos (.inl hd),if_pos hlt] at hv
       have ih:=yzD h r (i+1) en sum v (by omega) he1 (by rw [hc1];grind) hv
       rw [ih,hd,low (by grind) (by grind)]
       grind
     · rw [if_neg (by intro k;rcases k with k | k;exact hd k;exact k hlt)] at hv
       have hv:=yFb (yFb (yFb hv))
       have ih:=yzD h r (i+1) en _ v (by omega) he1 (by rw [hc1];grind) hv
       rw [ih,low (by grind) (by grind),hb,hq]
       grind
   · rw [if_pos (.inr hlt),if_neg hlt] at hv
     have ih:=yzD h r (i+1) p sum v (by omega) hp (by rw [hc1];grind) hv
     have:minR (maxR b c0) c1=minR (maxR p c0) c1:=by grind
     rw [ih,this]
     grind
end
end Go.Pf.Vc
namespace Go.Pf.Vc
open Go Go.Pf
section
variable {len:Int} {cuts dens:List Int}
def vX (cuts dens:List Int) (x:Rat):Rat:=vu cuts dens x dens.length 0
theorem yJF (h:VC len cuts dens) {a b v:Rat} (h0:0≤a) (hab:a≤b) (hv:valC cuts dens a b=.ok v):v=vX cuts dens b-vX cuts dens a:=by
 have c0:cuts.getD 0 0=0:=h.2.2.2.2.2.1
 have:=yzD h dens.length 0 a 0 v (by omega) hab (.inr (by rw [c0];exact h0)) hv
 unfold vX
 rw [this];grind
def Wi (len:Int) (l:List RS):Prop:=∀ s∈l,0≤s.1∧s.2≤(len:Rat)
theorem yIR (cuts dens:List Int) (b:Rat):∀ (r i:Nat) (p sum v:Rat),small sum→valS cuts dens b r i p sum=.ok v→small v:=by
 intro r
 induction r with
 | zero=>intro i p sum v hs e;unfold valS at e;cases e;exact hs
 | succ r ih =>
   intro i p sum v hs e
   unfold valS fit at e
   repeat' (first | split at e | dsimp only at e)
   all_goals first | exact ih _ _ _ _ hs e | (rename_i h;exact ih _ _ _ _ h e) | cases e
theorem yLV (cuts dens:List Int) (b:Rat):∀ (r i:Nat) (p v:Rat) (c:Int),valS cuts dens b r i p v=.error c→c=16:=by
 intro r
 induction r with
 | zero=>intro i p v c e;unfold valS at e;cases e
 | succ r ih =>
   intro i p v c e
   unfold valS fit at e
   repeat' (first | split at e | dsimp only at e)
   all_goals first | exact ih _ _ _ _ e | (cases e;rfl)
theorem yGX (h:VC len cuts dens) {s:RS} (hs:smallS s) (hv:s.1<s.2) (hw:0≤s.1∧s.2≤(len:Rat)) :
   outW (fun K=>yaF len (ints cuts) (ints dens) s.1.num s.1.den s.2.num s.2.den K) (dV (vX cuts dens) s):=by
 have l1:=h.l1;have l2:=h.l2
 have e:∀ K,yaF len (ints cuts) (ints dens) s.1.num s.1.den s.2.num s.2.den K=exK (valC cuts dens s.1 s.2) K:=fun K=>by
   rw [yDk (by omega) (by omega) hs.1.i1 hs.1.i2 hs.2.i1 hs.2.i2]
   unfold valR
   rw [if_pos h.ck,if_pos ⟨PT_of hs.1 hw.1 (by grind),PT_of hs.2 (by grind) hw.2,by rw [yf0,yf0];grind⟩,yf0,yf0]
 cases hc:valC cuts dens s.1 s.2 with
 | error c =>
   refine .inl ⟨c,yLV _ _ _ _ _ _ _ _ hc,fun K=>?_⟩
   show yaF _ _ _ _ _ _ _ K=_
   rw [e,hc];rfl
 | ok v =>
   have hv2:=yJF h hw.1 (by grind) hc
   have hsm:small v:=yIR _ _ _ _ _ _ _ _ yis hc
   have ev:dV (vX cuts dens) s=v:=hv2.symm
   rw [ev]
   refine .inr ⟨hsm,fun K=>?_⟩
   show yaF _ _ _ _ _ _ _ K=_
   rw [e,hc];rfl
theorem yIS (h:VC len cuts dens) {l:List RS} (hs:∀ s∈l,smallS s) (hv:∀ s∈l,s.1<s.2) (hw:Wi len l) (hl:l.length<1000) (z z':Int) :
   ∀ (r i n:Nat) (q:Rat),i+r=l.length→r<n→small q →
     outW (fun K=>yax yan yaw yaB yaF yaE (fun _ _ _ _ _ a b _ _ _ _=>K a b 0) (fun _ _ _ a b e=>K a b e) n len (ints cuts) (ints dens) z z' q.num q.den (rsp l) (l.length:Int) (i:Int)) (q+sumV (dV (vX cuts dens)) (l.drop i)):=by
 intro r
 induction r with
 | zero =>
   intro i n q hi hn hq
   obtain ⟨n,rfl⟩:∃ m,n=m+1:=⟨n-1,by omega⟩
   obtain rfl:i=l.length:=by omega
   rw [List.drop_length]
   have e:q+sumV (dV (vX cuts dens)) []=q:=Rat.add_zero q
   rw [e]
   refine .inr ⟨hq,fun K=>?_⟩
   dsimp only
   rw [yax,cbF (by omega)]
 | succ r ih =>
   intro i n q hi hn hq
   obtain ⟨n,rfl⟩:∃ m,n=m+1:=⟨n-1,by omega⟩
   have hil:i<l.length:=by omega
   have e1:=wib (n:=(i:Int)+1) (by omega) (by omega)
   have hd:l.drop i=l.getD i default::l.drop (i+1):=ybT default hil
   have hm:l.getD i default∈l:=by
     rw [List.getD_eq_getElem?_getD,List.getElem?_eq_getElem hil]
     exact List.getElem_mem hil
   have hx:=hs _ hm
   have hx2:=hv _ hm
   have hx3:=hw _ hm
   rw [hd]
   have step:∀ K:Int→Int→Int→Prop,yax yan yaw yaB yaF yaE (fun _ _ _ _ _ a b _ _ _ _=>K a b 0) (fun _ _ _ a b e=>K a b e) (n+1) len (ints cuts) (ints dens) z z' q.num q.den (rsp l) (l.length:Int) (i:Int) =
       yaF len (ints cuts) (ints dens) (l.getD i default).1.num (l.getD i default).1.den (l.getD i default).2.num (l.getD i default).2.den (fun a b e=>cbr (e != 0) (K 0 0 e) (yaE q.num q.den a b (fun a b e=>cbr (e != 0) (K 0 0 e) (yax yan yaw yaB yaF yaE (fun _ _ _ _ _ a b _ _ _ _=>K a b 0) (fun _ _ _ a b e=>K a b e) n len (ints cuts) (ints dens) z z' a b (rsp l) (l.length:Int) ((i+1:Nat):Int))))):=fun K=>by
     rw [yax,cbT (by omega)]
     dsimp only [lt]
     rw [ycf,asT (by omega),asT (by omega),Int.toNat_natCast,ymk hil,asR,encR0,encR1,encR2,encR3,e1,cast1]
   generalize hq1:l.getD i default=t at hx hx2 hx3 step
   have es:q+sumV (dV (vX cuts dens)) (t::l.drop (i+1))=(q+dV (vX cuts dens) t)+sumV (dV (vX cuts dens)) (l.drop (i+1)):=by
     show q+(dV (vX cuts dens) t+sumV (dV (vX cuts dens)) (l.drop (i+1)))=_
     grind
   rw [es]
   rcases yGX h hx hx2 hx3 with ⟨c,hc,ec⟩ | ⟨sc,ec⟩
   · dsimp only at ec
     refine .inl ⟨c,hc,fun K=>?_⟩
     show yax _ _ _ _ _ _ _ _ _ _ _ _ _ _ _ _ _ _=_
     rw [step,ec,cnT (show c≠0 by omega)]
   · dsimp only at ec
     by_cases hsm:small (q+dV (vX cuts dens) t)
     · rcases ih (i+1) n _ (by omega) (by omega) hsm with ⟨c,hc,e2⟩ | ⟨s2,e2⟩
       · refine .inl ⟨c,hc,fun K=>?_⟩
         show yax _ _ _ _ _ _ _ _ _ _ _ _ _ _ _ _ _ _=_
         rw [step,ec,nz,ys5 hq sc]
         unfold fitK
         rw [if_pos hsm]
         dsimp only
         rw [nz]
         exact e2 K
       · refine .inr ⟨s2,fun K=>?_⟩
         show yax _ _ _ _ _ _ _ _ _ _ _ _ _ _ _ _ _ _=_
         rw [step,ec,nz,ys5 hq sc]
         unfold fitK
         rw [if_pos hsm]
         dsimp only
         rw [nz]
         exact e2 K
     · refine .inl ⟨16,by decide,fun K=>?_⟩
       show yax _ _ _ _ _ _ _ _ _ _ _ _ _ _ _ _ _ _=_
       rw [step,ec,nz,ys5 hq sc]
       unfold fitK
       rw [if_neg hsm]
       rfl
theorem yNg {w w':(Int→Int→Int→Prop)→Prop} {t:Rat} (det:∀ r0 r1 r2,(∀ K:Int→Int→Int→Prop,K r0 r1 r2→w K)→∀ K,w K=K r0 r1 r2) (key:∀ K,w' K→w K) (h:outW w' t):outW w t:=by
 rcases h with ⟨c,hc,e⟩ | ⟨s,e⟩
 · exact .inl ⟨c,hc,det _ _ _ fun K k=>key K (by rw [e];exact k)⟩
 · exact .inr ⟨s,det _ _ _ fun K k=>key K (by rw [e];exact k)⟩
theorem yJG (q r:Rat):decide (cmpQ q r>0)=decide (r<q):=by
 rw [← Bool.not_eq_not,← yNb,Bool.eq_iff_iff]
 simp only [decide_eq_true_eq]
 omega
theorem Pc.outWorth {l:List RS} (p:Pc l) (h:VC len cuts dens) (hw:Wi len l):outW (fun K=>yar len (ints cuts) (ints dens) (rsp l) K) (sumV (dV (vX cuts dens)) l):=by
 have l1:=h.l1;have l2:=h.l2;have l0:=h.len0;have hn:=p.n
 have hl:=yIS h p.s (yn3 p.c) hw (by omega) 0 0 l.length 0 (l.length+1) 0 (by omega) (by omega) yis
 rw [List.drop_zero,Rat.zero_add] at hl
 refine yNg (fun r0 r1 r2 h K=>yrf _ _ _ _ _ _ _ h K) (fun K k=>?_) hl
 unfold yar yjr
 rw [ymZ (by omega) (by omega),h.ck,nz,p.check,nz]
 dsimp only [Go.Pf.jn,lt]
 rw [ycf]
 have fin:∃ n,yax yan yaw yaB yaF yaE (fun _ _ _ _ _ a b _ _ _ _=>K a b 0) (fun _ _ _ a b e=>K a b e) n len (ints cuts) (ints dens) 0 0 0 1 (rsp l) (l.length:Int) 0:=⟨l.length+1,k⟩
 by_cases hl0:l.length=0
 · rw [cbF (by omega),yaa]
   exact fin
 · have h0:0<l.length:=by omega
   have m0:l.getD 0 default∈l:=by
     rw [List.getD_eq_getElem?_getD,List.getElem?_eq_getElem h0]
     exact List.getElem_mem h0
   have m1:l.getD (l.length-1) default∈l:=by
     rw [List.getD_eq_getElem?_getD,List.getElem?_eq_getElem (by omega)]
     exact List.getElem_mem (by omega)
   have w0:=hw _ m0
   have w1:=hw _ m1
   have s1:=p.s _ m1
   have n0:0≤(l.getD 0 default).1.num:=Rat.num_nonneg.2 w0.1
   have e1:=wib (n:=(l.length:Int)-1) (by omega) (by omega)
   have et:((l.length:Int)-1).toNat=l.length-1:=by omega
   rw [cbT (by omega),asT (by omega),ymk h0,asR,encR0,cbF (by omega),e1,asT (by omega),asT (by omega),et,ymk (by omega),asR,encR2,encR3]
   have sl:small (len:Rat):=ygF (by omega)
   show yaB (l.getD (l.length-1) default).2.num (l.getD (l.length-1) default).2.den (len:Rat).num ((len:Rat).den:Int) _
   rw [yBc s1.2 sl,yJG,cbF (by grind)]
   exact fin
end
end Go.Pf.Vc
namespace Go.Pf.Vc
open Go Go.Pf
def withB (len:Int) (l:List RS):Bool:=l.all fun s=>decide (PT len s.1.num s.1.den)&&decide (PT len s.2.num s.2.den)
theorem yLW {len:Int} {l:List RS} (h:withB len l=true):Wi len l:=fun s hs=>by
 have:=List.all_eq_true.1 h s hs
 simp only [Bool.and_eq_true,decide_eq_true_eq] at this
 obtain ⟨h1,h2⟩:=this
 have p1:=h1.pt
 have p2:=h2.pt
 rw [yf0] at p1 p2
 exact ⟨p1.2.2.2.1,p2.2.2.2.2⟩
theorem yGY {len:Int} (h0:-1000000000000000000≤len∧len≤1000000000000000000) {l:List RS} (hs:∀ s∈l,smallS s) (hl:l.length<1000) {K:Bool→Prop} :
   ∀ (r i n:Nat),i+r=l.length→r<n→ycI yeN (fun _ _ _ _=>K true) (fun b=>K b) n len (rsp l) (i:Int)=K (withB len (l.drop i)):=by
 intro r
 induction r with
 | zero =>
   intro i n hi hn
   obtain ⟨n,rfl⟩:∃ m,n=m+1:=⟨n-1,by omega⟩
   obtain rfl:i=l.length:=by omega
   rw [ycI,ycf,cbF (by omega),List.drop_length]
   rfl
 | succ r ih =>
   intro i n hi hn
   obtain ⟨n,rfl⟩:∃ m,n=m+1:=⟨n-1,by omega⟩
   have hil:i<l.length:=by omega
   have e1:=wib (n:=(i:Int)+1) (by omega) (by omega)
   have hd:l.drop i=l.getD i default::l.drop (i+1):=ybT default hil
   have hx:=yqY hs hil
   have IH:=ih (i+1) n (by omega) (by omega)
   generalize hq:l.getD i default=t at hx hd
   have e:withB len (t::l.drop (i+1))=((decide (PT len t.1.num t.1.den)&&decide (PT len t.2.num t.2.den))&&withB len (l.drop (i+1))):=rfl
   rw [ycI,hd,e]
   dsimp only [lt,Go.Pf.jn]
   simp (discharger:=omega) only [ycf,cbT,asT,Int.toNat_natCast,ymk,hq,asR,encR0,encR1,encR2,encR3,e1,yDm h0 hx.1.i1 hx.1.i2,yDm h0 hx.2.i1 hx.2.i2]
   cases decide (PT len t.1.num t.1.den) with
   | false=>rfl
   | true =>
     rw [Bool.not_true,yaa,Bool.true_and]
     cases decide (PT len t.2.num t.2.den) with
     | false=>rfl
     | true =>
       rw [Bool.not_true,yaa,Bool.true_and,cast1]
       exact IH
theorem Pc.within {len:Int} (h0:-1000000000000000000≤len∧len≤1000000000000000000) {l:List RS} (h:Pc l) (K:Bool→Prop):ybC len (rsp l) K=K (withB len l):=by
 refine yAK _ _ _ (fun K k=>?_) K
 unfold ybC yoV
 refine ⟨l.length+1,?_⟩
 have:=yGY h0 h.s (by have:=h.n;omega) (K:=K) l.length 0 (l.length+1) (by omega) (by omega)
 rw [List.drop_zero] at this
 exact this.mpr k
end Go.Pf.Vc
namespace Go.Pf.Vc
open Go Go.Pf
abbrev Rl:Type:=Nat×Nat×Int
def hAt (h:List Int) (i:Nat):Int:=h.getD i 0
def relax (r:Rl) (h:List Int):List Int:=if hAt h r.1+r.2.2>hAt h r.2.1 then h.set r.2.1 (hAt h r.1+r.2.2) else h
def pass (R:List Rl) (h:List Int):List Int:=R.foldl (fun h r=>relax r h) h
def leH (h x:List Int):Prop:=∀ i,hAt h i≤hAt x i
theorem leH.refl (h:List Int):leH h h:=fun _=>Int.le_refl _
theorem leH.trans {a b c:List Int} (h:leH a b) (k:leH b c):leH a c:=fun i=>Int.le_trans (h i) (k i)
def iterR (R:List Rl):Nat→List Int→Option (List Int)
 | 0,_=>none
 | n+1,h=>if pass R h=h then some h else iterR R n (pass R h)
def zeros (k:Nat):List Int:=List.replicate k 0
theorem countP_lt {α:Type} {p q:α→Bool}:∀ {l:List α},(∀ a∈l,p a=true→q a=true)→(∃ a∈l,q a=true∧p a=false)→l.countP p<l.countP q
 | [],_,⟨_,h,_⟩=>by cases h
 | b::l,h1,⟨a,ha,hq,hp⟩=>by
   have hle:l.countP p≤l.countP q:=List.countP_mono_left fun c hc=>h1 c (List.mem_cons_of_mem _ hc)
   rw [List.countP_cons,List.countP_cons]
   rcases List.mem_cons.1 ha with rfl | ha
   · rw [hp,hq];simp;omega
   · have:=countP_lt (fun c hc=>h1 c (List.mem_cons_of_mem _ hc)) ⟨a,ha,hq,hp⟩
     have hb:=h1 b List.mem_cons_self
     cases hpb:p b with
     | false=>simp;split <;> omega
     | true=>rw [hb hpb];simp;omega
def bf (R:List Rl) (k:Nat):Option (List Int):=iterR R (k+1) (zeros k)
def bf0 (R:List Rl) (k:Nat):Option (List Int):=match bf R k with | some g=>if hAt g 0=0 then some g else none | none=>none
end Go.Pf.Vc
namespace Go.Pf.Vc
open Go Go.Pf
structure Cm where
 f:Rat
 t:Rat
 v:Rat
 m:Bool
instance:Inhabited Cm:=⟨⟨0,0,0,false⟩⟩
def Qy.i64 (q:Qy):Prop:=I64 q.an∧I64 q.ad∧I64 q.bn∧I64 q.bd∧I64 q.cn∧I64 q.cd
structure Cm.ok (n:Int) (c:Cm):Prop where
 f:small c.f
 t:small c.t
 v:small c.v
 f0:0≤c.f
 v0:0≤c.v
 ft:c.f≤c.t
 tn:c.t≤(n:Rat)
end Go.Pf.Vc
namespace Go.Pf.Vc
open Go Go.Pf Go.Sort
def Cm.rs (c:Cm):RS:=(c.f,c.t)
end Go.Pf.Vc
namespace Go.Pf.Vc
open Go Go.Pf Go.Sort
abbrev Rw:Type:=Int×Int
def Rw.ok (r:Rw):Prop:=RV r.1 r.2
instance (r:Rw):Decidable r.ok:=by unfold Rw.ok;infer_instance
def Rw.q (r:Rw):Rat:=rt r.1 r.2
def Rw.i64 (r:Rw):Prop:=I64 r.1∧I64 r.2
def gStep (P F:List Rw) (i:Nat):Prop:=(P.getD i default).ok∧(F.getD i default).ok∧(0<i→(P.getD (i-1) default).q<(P.getD i default).q∧(F.getD (i-1) default).q≤(F.getD i default).q)
instance (P F:List Rw) (i:Nat):Decidable (gStep P F i):=by unfold gStep;infer_instance
def gEnds (N:Int) (P F:List Rw):Prop:=(P.getD 0 default).1=0∧(F.getD 0 default).1=0∧P.getD (P.length-1) default=(N,1)
instance (N:Int) (P F:List Rw):Decidable (gEnds N P F):=by unfold gEnds;infer_instance
end Go.Pf.Vc
namespace Go.Pf.Vc
open Go Go.Pf Go.Sort
def bndT (h:List Int) (T:Int) (r:Nat):Prop:=∀ i,0≤hAt h i∧hAt h i+100000000000000*(r:Int)≤T
def conF (st:List Int) (i r:Nat):List Rl:=(List.range' i r).map fun j=>(j-1,j,hAt st j)
end Go.Pf.Vc
namespace Go.Pf.Vc
open Go Go.Pf Go.Sort
theorem yOm {α:Type} (f:α→Prop) (k:α):Go.Pf.jn f k=f k:=rfl
def vC (m s:Nat) (c:Cm):Int:=c.v.num*((m / c.v.den:Nat):Int)*(s:Int)
def clR (ps:List Rat) (m s:Nat) (L:List Cm):List Rl:=L.flatMap fun c=>[(ps.idxOf c.f,ps.idxOf c.t,vC m s c),(ps.idxOf c.t,ps.idxOf c.f,-vC m s c)]
def stF (ps:List Rat):List Cm→List Int→Option (List Int)
 | [],st=>some st
 | c::r,st=>if c.m then (if c.v=0 then (if c.f=c.t then stF ps r st else none) else stF ps r (st.set (ps.idxOf c.t) 1)) else stF ps r st
def hR (ps:List Rat) (m:Nat) (L:List Cm) (st:List Int):List Rl:=conF st 1 (ps.length-1)++clR ps m (ps.length+1) L
def hts (ps:List Rat) (m:Nat) (L:List Cm):Option (List Int):=match stF ps L (zeros ps.length) with
 | some st=>bf0 (hR ps m L st) ps.length
 | none=>none
theorem bndT.less {h:List Int} {T:Int} {r r':Nat} (hb:bndT h T r) (hr:r'≤r):bndT h T r':=fun i=>by
 have:=hb i
 omega
end Go.Pf.Vc
namespace Go.Pf.Vc
open Go Go.Pf Go.Sort
theorem smallF {x d:Int} (h0:0≤x) (h1:x≤1000000000000000000) (d0:1≤d) (d1:d≤1000000000000000000):small ((x:Rat) / (d:Rat)):=by
 have hd:(d:Rat)≠0:=by
   have:(0:Rat)<(d:Rat):=Rat.intCast_pos.2 (by omega)
   grind
 generalize hq:(x:Rat) / (d:Rat)=q
 have e1:(q.num:Rat)*(d:Rat)=(x:Rat)*(q.den:Rat):=by
   have h2:(q.den:Rat)≠0:=by
     have:(0:Rat)<(q.den:Rat):=Rat.natCast_pos.2 q.den_pos
     grind
   have h3:q=(q.num:Rat) / (q.den:Rat):=by rw [← Rat.mkRat_eq_div,Rat.mkRat_self]
   have h4:q*(q.den:Rat)=(q.num:Rat):=by
     have:(q.num:Rat) / (q.den:Rat)*(q.den:Rat)=(q.num:Rat):=Rat.div_mul_cancel h2
     rw [← h3] at this
     exact this
   have h5:q*(d:Rat)=(x:Rat):=by rw [← hq];exact Rat.div_mul_cancel hd
   grind
 have e2:q.num*d=x*(q.den:Int):=by
   rw [show (q.den:Rat)=(((q.den:Nat):Int):Rat) from (Rat.intCast_natCast _).symm,← Rat.intCast_mul,← Rat.intCast_mul] at e1
   exact Rat.intCast_inj.1 e1
 have hp:=q.den_pos
 have n0:0≤q.num:=by
   refine Int.not_lt.1 fun h=>?_
   have a1:q.num*d<0:=Int.mul_neg_of_neg_of_pos h (by omega)
   have a2:0≤x*(q.den:Int):=Int.mul_nonneg h0 (by omega)
   omega
 have hdv:q.den∣d.natAbs:=by
   have hc:Nat.Coprime q.den q.num.natAbs:=q.reduced.symm
   refine hc.dvd_of_dvd_mul_left (m:=q.num.natAbs) ?_
   have:(q.num*d).natAbs=(x*(q.den:Int)).natAbs:=by rw [e2]
   rw [Int.natAbs_mul,Int.natAbs_mul,Int.natAbs_natCast] at this
   rw [this]
   exact Nat.dvd_mul_left ..
 obtain ⟨t,ht⟩:=hdv
 have hd2:d=(q.den:Int)*(t:Int):=by
   rw [← Int.natCast_mul,← ht];omega
 have t1:1≤t:=by
   rcases Nat.eq_zero_or_pos t with h | h
   · rw [h] at hd2;omega
   · exact h
 have e3:q.num*(t:Int)=x:=by
   have:(q.num*(t:Int))*(q.den:Int)=x*(q.den:Int):=by rw [← e2,hd2,Int.mul_assoc,Int.mul_comm (t:Int)]
   exact Int.eq_of_mul_eq_mul_right (by omega) this
 have e4:q.num≤q.num*(t:Int):=by
   have:=Int.mul_le_mul_of_nonneg_left (show (1:Int)≤(t:Int) by omega) n0
   omega
 have e5:(q.den:Int)≤(q.den:Int)*(t:Int):=by
   have:=Int.mul_le_mul_of_nonneg_left (show (1:Int)≤(t:Int) by omega) (show (0:Int)≤(q.den:Int) by omega)
   omega
 exact ⟨by omega,by omega,by omega⟩
end Go.Pf.Vc
namespace Go.Pf.Vc
open Go Go.Pf
section
variable {len:Int} {cuts dens:List Int}
theorem yNh (h:VC len cuts dens) {i:Nat} (hi:i+1<cuts.length) {x y:Rat} (hxy:x≤y):uC cuts i x≤uC cuts i y:=by
 have hst:((cuts.getD i 0:Int):Rat)<((cuts.getD (i+1) 0:Int):Rat):=Rat.intCast_lt_intCast.2 (h.step (i:=i) hi)
 have m1:=ymV x (cuts.getD i 0:Int)
 have m2:=ymV y (cuts.getD i 0:Int)
 have n1:=yqX (maxR x (cuts.getD i 0:Int)) (cuts.getD (i+1) 0:Int)
 have n2:=yqX (maxR y (cuts.getD i 0:Int)) (cuts.getD (i+1) 0:Int)
 unfold uC
 grind
theorem yOn (h:VC len cuts dens) {i:Nat} (hi:i<dens.length):(0:Rat)≤((dens.getD i 0:Int):Rat):=Rat.intCast_nonneg.2 (h.den hi).1
theorem yJH (h:VC len cuts dens) {x y:Rat} (hxy:x≤y):∀ (r i:Nat),i+r=dens.length→vu cuts dens x r i≤vu cuts dens y r i
 | 0,_,_=>Rat.le_refl
 | r+1,i,hi=>by
   have l1:=h.l1
   have h1:=yNh h (i:=i) (by omega) hxy
   have h2:=yJH h hxy r (i+1) (by omega)
   have h3:=Rat.mul_le_mul_of_nonneg_left h1 (yOn h (i:=i) (by omega))
   unfold vu
   grind
theorem yFc (h:VC len cuts dens) {x y:Rat} (hxy:x≤y):vX cuts dens x≤vX cuts dens y:=yJH h hxy dens.length 0 (by omega)
theorem VC.last (h:VC len cuts dens):cuts.getD dens.length 0=len:=by
 have l1:=h.l1
 have:=h.2.2.2.2.2.2.1
 rw [show dens.length=cuts.length-1 by omega]
 exact this
end
end Go.Pf.Vc
namespace Go.Pf.Vc
open Go Go.Pf
def In (D:Int) (q:Rat):Prop:=∃ n:Int,q=(n:Rat) / (D:Rat)
theorem In.int {D:Int} (h:1≤D) (c:Int):In D (c:Rat):=⟨c*D,by rw [Rat.intCast_mul,Rat.mul_div_cancel (rne h)]⟩
theorem In.add {D:Int} {q r:Rat} (h:In D q) (k:In D r):In D (q+r):=by
 obtain ⟨n,rfl⟩:=h
 obtain ⟨m,rfl⟩:=k
 exact ⟨n+m,by rw [Rat.intCast_add];grind⟩
theorem In.sub {D:Int} {q r:Rat} (h:In D q) (k:In D r):In D (q-r):=by
 obtain ⟨n,rfl⟩:=h
 obtain ⟨m,rfl⟩:=k
 exact ⟨n-m,by rw [Rat.intCast_sub];grind⟩
theorem In.mulI {D:Int} {q:Rat} (h:In D q) (d:Int):In D (q*(d:Rat)):=by
 obtain ⟨n,rfl⟩:=h
 exact ⟨n*d,by rw [Rat.intCast_mul];grind⟩
theorem In.div {D d:Int} {q:Rat} (hD:1≤D) (hd:1≤d) (h:In D q):In (d*D) (q / (d:Rat)):=by
 obtain ⟨n,rfl⟩:=h
 have h1:=rne hD
 have h2:=rne hd
 refine ⟨n,?_⟩
 rw [Rat.intCast_mul]
 grind
theorem In.small {D M:Int} {q:Rat} (h:In D q) (hD:1≤D∧D≤1000000000000000000) (hM:M*D≤1000000000000000000) (h0:-(M:Rat)≤q) (h1:q≤(M:Rat)):small q:=by
 obtain ⟨n,rfl⟩:=h
 have hp:(0:Rat)<(D:Rat):=Rat.intCast_pos.2 (by omega)
 have e:(n:Rat) / (D:Rat)*(D:Rat)=(n:Rat):=Rat.div_mul_cancel (rne hD.1)
 have a:=Rat.mul_le_mul_of_nonneg_right h0 (Rat.le_of_lt hp)
 have b:=Rat.mul_le_mul_of_nonneg_right h1 (Rat.le_of_lt hp)
 rw [e] at a b
 have a':((-(M*D):Int):Rat)≤(n:Rat):=by rw [Rat.intCast_neg,Rat.intCast_mul];grind
 have b':(n:Rat)≤((M*D:Int):Rat):=by rw [Rat.intCast_mul];exact b
 have a2:=Rat.intCast_le_intCast.1 a'
 have b2:=Rat.intCast_le_intCast.1 b'
 exact yDn (d:=D) ⟨by omega,by omega⟩ ⟨by omega,by omega⟩
section
variable {len:Int} {cuts dens:List Int}
theorem yFd (h:VC len cuts dens) {i j:Nat} (hij:i≤j) (hj:j≤dens.length):((cuts.getD i 0:Int):Rat)≤((cuts.getD j 0:Int):Rat):=Rat.intCast_le_intCast.2 (h.mono hij (by have:=h.l1;omega))
theorem uC_In {D:Int} (hD:1≤D) {x:Rat} (hx:In D x) (i:Nat):In D (uC cuts i x):=by
 have n1:=yqX (maxR x (cuts.getD i 0:Int)) (cuts.getD (i+1) 0:Int)
 have m1:=ymV x (cuts.getD i 0:Int)
 unfold uC
 rcases n1.2.2 with e | e
 · rw [e]
   rcases m1.2.2 with e2 | e2
   · rw [e2];exact hx
   · rw [e2];exact In.int hD _
 · rw [e];exact In.int hD _
theorem vu_In {D:Int} (hD:1≤D) {x:Rat} (hx:In D x):∀ (r i:Nat),In D (vu cuts dens x r i)
 | 0,_=>In.int hD 0
 | r+1,i=>by
   unfold vu
   rw [Rat.mul_comm]
   exact ((uC_In hD hx i).mulI _).add (vu_In hD hx r (i+1))
theorem vX_In {D:Int} (hD:1≤D) {x:Rat} (hx:In D x):In D (vX cuts dens x):=vu_In hD hx _ _
theorem yLX (h:VC len cuts dens):∀ (r i:Nat),i+r=dens.length→vu cuts dens (len:Rat) r i-vu cuts dens ((cuts.getD i 0:Int):Rat) r i=((rem cuts dens r i:Int):Rat)
 | 0,_,_=>by unfold vu rem;show (0:Rat)-0=0;grind
 | r+1,i,hi=>by
   have ih:=yLX h r (i+1) (by omega)
   have hst:((cuts.getD i 0:Int):Rat)≤((cuts.getD (i+1) 0:Int):Rat):=yFd h (Nat.le_succ i) (by omega)
   have hl:((cuts.getD (i+1) 0:Int):Rat)≤(len:Rat):=by rw [← h.last];exact yFd h (by omega) (Nat.le_refl _)
   have low:=yIQ h r (i+1) (x:=((cuts.getD i 0:Int):Rat)) (y:=((cuts.getD (i+1) 0:Int):Rat)) (by omega) hst Rat.le_refl
   have m1:=ymV (len:Rat) (cuts.getD i 0:Int)
   have n1:=yqX (maxR (len:Rat) (cuts.getD i 0:Int)) (cuts.getD (i+1) 0:Int)
   have m2:=ymV ((cuts.getD i 0:Int):Rat) (cuts.getD i 0:Int)
   have n2:=yqX (maxR ((cuts.getD i 0:Int):Rat) (cuts.getD i 0:Int)) (cuts.getD (i+1) 0:Int)
   have e1:uC cuts i (len:Rat)=((cuts.getD (i+1) 0:Int):Rat):=by unfold uC;grind
   have e2:uC cuts i ((cuts.getD i 0:Int):Rat)=((cuts.getD i 0:Int):Rat):=by unfold uC;grind
   unfold vu rem
   rw [e1,e2,low,Rat.intCast_add,Rat.intCast_mul,Rat.intCast_sub,← ih]
   grind
theorem yFe (h:VC len cuts dens):vX cuts dens (len:Rat)-vX cuts dens 0=((totC cuts dens:Int):Rat):=by
 have c0:cuts.getD 0 0=0:=h.2.2.2.2.2.1
 have:=yLX h dens.length 0 (by omega)
 rw [c0] at this
 unfold totC
 rw [yBb,show (0:Int)+rem cuts dens dens.length 0=rem cuts dens dens.length 0 by omega]
 exact this
end
end Go.Pf.Vc
namespace Go.Pf.Vc
open Go Go.Pf
section
variable {len:Int} {cuts dens:List Int}
theorem yNi (h:VC len cuts dens):(1:Rat)≤(len:Rat)∧(len:Rat)≤1000:=by
 have:=h.len0
 exact ⟨Rat.intCast_le_intCast.2 this.1,Rat.intCast_le_intCast.2 this.2⟩
theorem yNj (h:VC len cuts dens) {i:Nat} (hi:i<dens.length):(0:Rat)≤((dens.getD i 0:Int):Rat)∧((dens.getD i 0:Int):Rat)≤12:=by
 have:=h.den hi
 exact ⟨Rat.intCast_le_intCast.2 this.1,Rat.intCast_le_intCast.2 this.2⟩
theorem yNk {x d:Rat} (h0:0≤x) (hd:0≤d∧d≤12):0≤x*d∧x*d≤12*x:=by
 have a:=Rat.mul_nonneg h0 hd.1
 have b:=Rat.mul_le_mul_of_nonneg_left hd.2 h0
 exact ⟨a,by grind⟩
theorem yyb (h:VC len cuts dens) {D:Int} (hD:1≤D∧D≤50000000000000) {b:Rat} (hb:In D b) (b1:b≤(len:Rat)) :
   ∀ (r i:Nat) (p sum:Rat),i+r=dens.length→In D p→In D sum→0≤p→p≤(len:Rat)→0≤sum→sum≤12*p→∃ v,valS cuts dens b r i p sum=.ok v
 | 0,i,p,sum,_,_,_,_,_,_,_=>⟨sum,rfl⟩
 | r+1,i,p,sum,hi,hp,hs,p0,p1,s0,s1=>by
   have l1:=h.l1
   have hl:=yNi h
   have hd:=yNj h (i:=i) (by omega)
   have hc1:((cuts.getD (i+1) 0:Int):Rat)≤(len:Rat):=by rw [← h.last];exact yFd h (by omega) (Nat.le_refl _)
   unfold valS
   have hen:∃ en:Rat,(if b<((cuts.getD (i+1) 0:Int):Rat) then b else ((cuts.getD (i+1) 0:Int):Rat))=en∧In D en∧en≤(len:Rat):=by
     refine ⟨_,rfl,?_,?_⟩
     · split
       · exact hb
       · exact In.int hD.1 _
     · split <;> grind
   obtain ⟨en,e0,e1,e2⟩:=hen
   rw [e0]
   dsimp only
   split
   · refine yyb h hD hb b1 r (i+1) _ sum (by omega) ?_ hs ?_ ?_ s0 ?_
     · split
       · exact e1
       · exact hp
     · split <;> grind
     · split <;> grind
     · split <;> grind
   · rename_i hn
     have hlt:p<en:=by
       refine Classical.byContradiction fun k=>hn (.inr k)
     have m:=yNk (x:=en-p) (by grind) hd
     have i1:=e1.sub hp
     have i2:=i1.mulI (dens.getD i 0)
     have i3:=hs.add i2
     rw [yIK (i1.small (M:=1000) ⟨by omega,by omega⟩ (by omega) (by show -(1000:Rat)≤_;grind) (by show _≤(1000:Rat);grind)),
       yIK (i2.small (M:=12000) ⟨by omega,by omega⟩ (by omega) (by show -(12000:Rat)≤_;grind) (by show _≤(12000:Rat);grind)),
       yIK (i3.small (M:=12000) ⟨by omega,by omega⟩ (by omega) (by show -(12000:Rat)≤_;grind) (by show _≤(12000:Rat);grind))]
     exact yyb h hD hb b1 r (i+1) en _ (by omega) e1 i3 (by grind) e2 (by grind) (by grind)
theorem yKD (h:VC len cuts dens) {D:Int} (hD:1≤D∧D≤50000000000000) {a b:Rat} (ha:In D a) (hb:In D b) (a0:0≤a) (hab:a≤b) (b1:b≤(len:Rat)):valC cuts dens a b=.ok (vX cuts dens b-vX cuts dens a):=by
 obtain ⟨v,e⟩:=yyb h hD hb b1 dens.length 0 a 0 (by omega) ha (In.int hD.1 0) a0 (by grind) (by grind) (by grind)
 have e:valC cuts dens a b=.ok v:=e
 rw [e,yJF h a0 hab e]
end
end Go.Pf.Vc
namespace Go.Pf.Vc
open Go Go.Pf
set_option maxRecDepth 100000
def UL (E:Env) (callK:CK) (lp:LP) (b:TCode):Nat→Frm→Hp→(Ex→Frm→Hp→Prop)→Prop
 | 0,_,_,_=>False
 | n+1,F,H,Q=>WC E callK lp b F H fun x F' H'=>match x with | .norm=>UL E callK lp b n F' H' Q | .exit i=>Q (.exit i) F' H' | .ret=>Q .ret F' H'
theorem UL_ok {E:Env} {callK:CK} {lp:LP} {b:TCode} (hG:Good E callK) (hl:LpOk E lp b) {n:Nat} {F:Frm} {H:Hp} {Q:Ex→Frm→Hp→Prop} (h:UL E callK lp b n F H Q):LoopT E b F H Q :=
 LoopT.intro hG hl (fun n F H=>UL E callK lp b n F H Q) (fun _ _ h=>h) (fun _ _ _ h=>h) n F H h
section
variable (e:List (Nat×EffF)) (fa fb fe:PV→PV→Int)
def WG (c p:PV):Prop:=Ans (E e) yby [c,p] (.tup [.agg [.int .i64 (fa c p),.int .i64 (fb c p)],.int .i64 (fe c p)])
def wpWr (as:List PV) (K:PV→Prop):Prop :=
 match as with
 | [c,p]=>WG e fa fb fe c p∧K (.tup [.agg [.int .i64 (fa c p),.int .i64 (fb c p)],.int .i64 (fe c p)])
 | _=>False
def wpCk (as:List PV) (K:PV→Prop):Prop:=Ans (E e) ycq as (.int .i64 0)∧K (.int .i64 0)
def sW0:SE:=⟨E e,lookS [(ycq,wpCk e),(yby,wpWr e fa fb fe)],lookI [],fun _ _ _ _=>False⟩
def lpW1:LP:=fun id F H Q=>bif Nat.beq id 14283600 then UL (E e) (callW (sW0 e fa fb fe) 1) (fun _ _ _ _=>False) ykf 8 F H Q else False
def lpW:LP:=fun id F H Q=>bif Nat.beq id 14283600 then UL (E e) (callW (sW0 e fa fb fe) 1) (fun _ _ _ _=>False) ykf 8 F H Q else
 bif Nat.beq id 14283601 then UL (E e) (callW (sW0 e fa fb fe) 1) (lpW1 e fa fb fe) ypQ 8 F H Q else False
def seqW (K:Option PV→Prop):List (PV×PV)→Prop→Prop
 | [],fin=>fin
 | q::r,fin=>WG e fa fb fe q.1 q.2∧cbr (fe q.1 q.2 != 0) (K (some (.tup [.data [],.int .i64 (fe q.1 q.2)]))) (seqW K r fin)
def prs (cs:List Ck) (ps:List (List PV)):List (PV×PV):=cs.flatMap fun c=>ps.map fun p=>(encC c,.data p)
def wtab (cs:List Ck) (ps:List (List PV)):List PV:=cs.map fun c=>.data (ps.map fun p=>.agg [.int .i64 (fa (encC c) (.data p)),.int .i64 (fb (encC c) (.data p))])
def pcsD (ps:List (List PV)):List PV:=ps.map fun p=>.data p
def wRun (cs:List Ck) (ps:List (List PV)) (K:Option PV→Prop):Prop :=
 WFn (E e) (callW (sW0 e fa fb fe) 1) (lpW e fa fb fe) ytS [.data (cks cs),.agg [.data (pcsD ps)]] [] fun r H=>K (purN true H r)
def wAns (cs:List Ck) (ps:List (List PV)) (K:Option PV→Prop):Prop :=
 Ans (E e) ycq [.data (cks cs),.agg [.data (pcsD ps)]] (.int .i64 0)∧seqW e fa fb fe K (prs cs ps) (K (some (.tup [.data (wtab fa fb cs ps),.int .i64 0])))
theorem wRun1 (c0:Ck) (p0:List PV) (K:Option PV→Prop):wRun e fa fb fe [c0] [p0] K=wAns e fa fb fe [c0] [p0] K:=by kernel_rfl
theorem wRun2 (c0 c1:Ck) (p0 p1:List PV) (K:Option PV→Prop):wRun e fa fb fe [c0,c1] [p0,p1] K=wAns e fa fb fe [c0,c1] [p0,p1] K:=by kernel_rfl
theorem wRun3 (c0 c1 c2:Ck) (p0 p1 p2:List PV) (K:Option PV→Prop):wRun e fa fb fe [c0,c1,c2] [p0,p1,p2] K=wAns e fa fb fe [c0,c1,c2] [p0,p1,p2] K:=by kernel_rfl
theorem wRun4 (c0 c1 c2 c3:Ck) (p0 p1 p2 p3:List PV) (K:Option PV→Prop):wRun e fa fb fe [c0,c1,c2,c3] [p0,p1,p2,p3] K=wAns e fa fb fe [c0,c1,c2,c3] [p0,p1,p2,p3] K:=by kernel_rfl
theorem wRun5 (c0 c1 c2 c3 c4:Ck) (p0 p1 p2 p3 p4:List PV) (K:Option PV→Prop):wRun e fa fb fe [c0,c1,c2,c3,c4] [p0,p1,p2,p3,p4] K=wAns e fa fb fe [c0,c1,c2,c3,c4] [p0,p1,p2,p3,p4] K:=by kernel_rfl
theorem wRun6 (c0 c1 c2 c3 c4 c5:Ck) (p0 p1 p2 p3 p4 p5:List PV) (K:Option PV→Prop):wRun e fa fb fe [c0,c1,c2,c3,c4,c5] [p0,p1,p2,p3,p4,p5] K=wAns e fa fb fe [c0,c1,c2,c3,c4,c5] [p0,p1,p2,p3,p4,p5] K:=by kernel_rfl
theorem sW_ok (he:EG e):SEOk (sW0 e fa fb fe) :=
 yam ⟨fun _ _ h=>⟨_,h.2,h.1⟩,fun as K h=>by
   unfold wpWr at h
   split at h
   · exact ⟨_,h.2,h.1⟩
   · exact h.elim,trivial⟩ trivial he.ok
theorem yOo (he:EG e):LpOk (E e) (lpW e fa fb fe) ytS.body:=by
 have hG:=yaC (sW_ok e fa fb fe he) 1
 have h0:LpOk (E e) (fun _ _ _ _=>False) ykf:=yag (by kernel_rfl)
 have h1:LpOk (E e) (lpW1 e fa fb fe) ypQ:=ya8 (l:=[(14283600,ykf)]) ⟨fun F H Q h=>UL_ok hG h0 h,trivial⟩ (by kernel_rfl)
 exact ya8 (l:=[(14283600,ykf),(14283601,ypQ)]) ⟨fun F H Q h=>UL_ok hG h0 h,fun F H Q h=>UL_ok hG h1 h,trivial⟩ (by kernel_rfl)
theorem yKE (he:EG e) {cs:List Ck} {ps:List (List PV)} {K:PV→Prop} (h:wRun e fa fb fe cs ps fun o=>∃ q,o=some q∧K q):∃ q,K q∧Ans (E e) yaY [.data (cks cs),.agg [.data (pcsD ps)]] q:=by
 have hf:(E e).fns yaY=some ytS.fn:=by kernel_rfl
 have hx:∀ as H,(E e).eff yaY as H=none:=he.num _ (by kernel_rfl)
 obtain ⟨r,H',⟨q,hp,hk⟩,m0,hm⟩:=yH5 (S:=⟨E e,fun _=>none,fun _=>none,lpW e fa fb fe⟩) (callK:=callW (sW0 e fa fb fe) 1) (yaC (sW_ok e fa fb fe he) 1) (fn:=ytS) (yOo e fa fb fe he) (n:=yaY) hf hx h
 refine ⟨q,hk,m0,fun m hle=>?_⟩
 have hs:(E e).sum yaY [.data (cks cs),.agg [.data (pcsD ps)]]=none:=yab (by kernel_rfl) _
 have hq:(E e).qui yaY=true:=by kernel_rfl
 have hn:(E e).nl yaY=true:=by kernel_rfl
 have hm':inline (E e) m yaY [.data (cks cs),.agg [.data (pcsD ps)]] []=some (r,H'):=hm m hle
 unfold pureRes
 rw [hs,hq,hm',hn]
 exact hp
end
theorem yaH {α:Type} {l:List α} {n:Nat} (h:l.length=n+1):∃ a r,l=a::r∧r.length=n:=by
 cases l with
 | nil=>cases h
 | cons a r=>exact ⟨a,r,rfl,by simpa using h⟩
theorem yLY (e:List (Nat×EffF)) (fa fb fe:PV→PV→Int) {cs:List Ck} {ps:List (List PV)} (hl:ps.length=cs.length) (h1:1≤cs.length) (h6:cs.length≤6) (K:Option PV→Prop):wRun e fa fb fe cs ps K=wAns e fa fb fe cs ps K:=by
 obtain ⟨n,hn⟩:∃ n,cs.length=n:=⟨_,rfl⟩
 rw [hn] at hl h1 h6
 obtain rfl | rfl | rfl | rfl | rfl | rfl:n=1∨n=2∨n=3∨n=4∨n=5∨n=6:=by omega
 · obtain ⟨c0,cr0,hc0,hn0⟩:=yaH hn
   subst hc0
   have hzc:=List.eq_nil_of_length_eq_zero hn0
   subst hzc
   obtain ⟨p0,pr0,hp0,hl0⟩:=yaH hl
   subst hp0
   have hzp:=List.eq_nil_of_length_eq_zero hl0
   subst hzp
   exact wRun1 e fa fb fe c0 p0 K
 · obtain ⟨c0,cr0,hc0,hn0⟩:=yaH hn
   subst hc0
   obtain ⟨c1,cr1,hc1,hn1⟩:=yaH hn0
   subst hc1
   have hzc:=List.eq_nil_of_length_eq_zero hn1
   subst hzc
   obtain ⟨p0,pr0,hp0,hl0⟩:=yaH hl
   subst hp0
   obtain ⟨p1,pr1,hp1,hl1⟩:=yaH hl0
   subst hp1
   have hzp:=List.eq_nil_of_length_eq_zero hl1
   subst hzp
   exact wRun2 e fa fb fe c0 c1 p0 p1 K
 · obtain ⟨c0,cr0,hc0,hn0⟩:=yaH hn
   subst hc0
   obtain ⟨c1,cr1,hc1,hn1⟩:=yaH hn0
   subst hc1
   obtain ⟨c2,cr2,hc2,hn2⟩:=yaH hn1
   subst hc2
   have hzc:=List.eq_nil_of_length_eq_zero hn2
   subst hzc
   obtain ⟨p0,pr0,hp0,hl0⟩:=yaH hl
   subst hp0
   obtain ⟨p1,pr1,hp1,hl1⟩:=yaH hl0
   subst hp1
   obtain ⟨p2,pr2,hp2,hl2⟩:=yaH hl1
   subst hp2
   have hzp:=List.eq_nil_of_length_eq_zero hl2
   subst hzp
   exact wRun3 e fa fb fe c0 c1 c2 p0 p1 p2 K
 · obtain ⟨c0,cr0,hc0,hn0⟩:=yaH hn
   subst hc0
   obtain ⟨c1,cr1,hc1,hn1⟩:=yaH hn0
   subst hc1
   obtain ⟨c2,cr2,hc2,hn2⟩:=yaH hn1
   subst hc2
   obtain ⟨c3,cr3,hc3,hn3⟩:=yaH hn2
   subst hc3
   have hzc:=List.eq_nil_of_length_eq_zero hn3
   subst hzc
   obtain ⟨p0,pr0,hp0,hl0⟩:=yaH hl
   subst hp0
   obtain ⟨p1,pr1,hp1,hl1⟩:=yaH hl0
   subst hp1
   obtain ⟨p2,pr2,hp2,hl2⟩:=yaH hl1
   subst hp2
   obtain ⟨p3,pr3,hp3,hl3⟩:=yaH hl2
   subst hp3
   have hzp:=List.eq_nil_of_length_eq_zero hl3
   subst hzp
   exact wRun4 e fa fb fe c0 c1 c2 c3 p0 p1 p2 p3 K
 · obtain ⟨c0,cr0,hc0,hn0⟩:=yaH hn
   subst hc0
   obtain ⟨c1,cr1,hc1,hn1⟩:=yaH hn0
   subst hc1
   obtain ⟨c2,cr2,hc2,hn2⟩:=yaH hn1
   subst hc2
   obtain ⟨c3,cr3,hc3,hn3⟩:=yaH hn2
   subst hc3
   obtain ⟨c4,cr4,hc4,hn4⟩:=yaH hn3
   subst hc4
   have hzc:=List.eq_nil_of_length_eq_zero hn4
   subst hzc
   obtain ⟨p0,pr0,hp0,hl0⟩:=yaH hl
   subst hp0
   obtain ⟨p1,pr1,hp1,hl1⟩:=yaH hl0
   subst hp1
   obtain ⟨p2,pr2,hp2,hl2⟩:=yaH hl1
   subst hp2
   obtain ⟨p3,pr3,hp3,hl3⟩:=yaH hl2
   subst hp3
   obtain ⟨p4,pr4,hp4,hl4⟩:=yaH hl3
   subst hp4
   have hzp:=List.eq_nil_of_length_eq_zero hl4
   subst hzp
   exact wRun5 e fa fb fe c0 c1 c2 c3 c4 p0 p1 p2 p3 p4 K
 · obtain ⟨c0,cr0,hc0,hn0⟩:=yaH hn
   subst hc0
   obtain ⟨c1,cr1,hc1,hn1⟩:=yaH hn0
   subst hc1
   obtain ⟨c2,cr2,hc2,hn2⟩:=yaH hn1
   subst hc2
   obtain ⟨c3,cr3,hc3,hn3⟩:=yaH hn2
   subst hc3
   obtain ⟨c4,cr4,hc4,hn4⟩:=yaH hn3
   subst hc4
   obtain ⟨c5,cr5,hc5,hn5⟩:=yaH hn4
   subst hc5
   have hzc:=List.eq_nil_of_length_eq_zero hn5
   subst hzc
   obtain ⟨p0,pr0,hp0,hl0⟩:=yaH hl
   subst hp0
   obtain ⟨p1,pr1,hp1,hl1⟩:=yaH hl0
   subst hp1
   obtain ⟨p2,pr2,hp2,hl2⟩:=yaH hl1
   subst hp2
   obtain ⟨p3,pr3,hp3,hl3⟩:=yaH hl2
   subst hp3
   obtain ⟨p4,pr4,hp4,hl4⟩:=yaH hl3
   subst hp4
   obtain ⟨p5,pr5,hp5,hl5⟩:=yaH hl4
   subst hp5
   have hzp:=List.eq_nil_of_length_eq_zero hl5
   subst hzp
   exact wRun6 e fa fb fe c0 c1 c2 c3 c4 c5 p0 p1 p2 p3 p4 p5 K
def wPV (t:Int×Int×Int):PV:=.tup [.agg [.int .i64 t.1,.int .i64 t.2.1],.int .i64 t.2.2]
open Classical in
noncomputable def wOf (e:List (Nat×EffF)) (c p:PV):Int×Int×Int:=if h:∃ t,Ans (E e) yby [c,p] (wPV t) then Classical.choose h else (0,0,0)
theorem yFf {e:List (Nat×EffF)} {c p:PV} {t:Int×Int×Int} (h:Ans (E e) yby [c,p] (wPV t)):wOf e c p=t:=by
 have hx:∃ t,Ans (E e) yby [c,p] (wPV t):=⟨t,h⟩
 unfold wOf
 rw [dif_pos hx]
 have h2:=Ans.unique (Classical.choose_spec hx) h
 generalize Classical.choose hx=u at h2
 obtain ⟨a,b,c⟩:=u
 obtain ⟨a',b',c'⟩:=t
 unfold wPV at h2
 cases h2
 rfl
theorem wG_of {e:List (Nat×EffF)} {c p:PV} {t:Int×Int×Int} (h:Ans (E e) yby [c,p] (wPV t)):WG e (fun c p=>(wOf e c p).1) (fun c p=>(wOf e c p).2.1) (fun c p=>(wOf e c p).2.2) c p:=by
 unfold WG
 have:=yFf h
 dsimp only
 rw [this]
 exact h
theorem yJI {e:List (Nat×EffF)} {fa fb fe:PV→PV→Int} {K:Option PV→Prop} {fin:Prop}:∀ {l:List (PV×PV)},(∀ q∈l,WG e fa fb fe q.1 q.2)→((∀ q∈l,fe q.1 q.2=0)→fin)→(∀ q∈l,fe q.1 q.2≠0→K (some (.tup [.data [],.int .i64 (fe q.1 q.2)])))→seqW e fa fb fe K l fin
 | [],_,h,_=>h fun q hq=>by cases hq
 | q::r,hg,h,hk=>by
   refine ⟨hg q List.mem_cons_self,?_⟩
   by_cases h0:fe q.1 q.2=0
   · rw [h0]
     refine yJI (fun x hx=>hg x (List.mem_cons_of_mem _ hx)) (fun hr=>h fun x hx=>?_) fun x hx=>hk x (List.mem_cons_of_mem _ hx)
     rcases List.mem_cons.1 hx with rfl | hx
     · exact h0
     · exact hr x hx
   · have e1:(fe q.1 q.2 != 0)=true:=by simpa using h0
     rw [e1]
     exact hk q List.mem_cons_self h0
theorem yOp {e:List (Nat×EffF)} (he:EG e) {c:Ck} {p:List PV} {t:Int×Int×Int} (h:∀ K:Int→Int→Int→Prop,yar c.len (ints c.cuts) (ints c.dens) p K=K t.1 t.2.1 t.2.2):Ans (E e) yby [encC c,.data p] (wPV t):=by
 have hw:yjt [encC c,.data p] (fun q=>q=wPV t):=by
   unfold yjt yjs encC
   dsimp only
   rw [h]
   rfl
 obtain ⟨q,hq,ha⟩:=ynJ e he [encC c,.data p] (fun q=>q=wPV t) hw
 rw [hq] at ha
 exact ha
theorem yBg {cs:List Ck} {ps:List (List PV)} (hl:ps.length=cs.length) (h1:1≤cs.length) (h6:cs.length≤6) (hc:∀ K,ybk (cks cs) (pcsD ps) K=K 0) {F:Ck→List PV→Int×Int×Int}
   (hW:∀ c∈cs,∀ p∈ps,∀ K,yar c.len (ints c.cuts) (ints c.dens) p K=K (F c p).1 (F c p).2.1 (F c p).2.2) {r0:List PV} {r1:Int}
   (h0:(∀ c∈cs,∀ p∈ps,(F c p).2.2=0)→r0=cs.map (fun c=>.data (ps.map fun p=>.agg [.int .i64 (F c p).1,.int .i64 (F c p).2.1]))∧r1=0)
   (hx:∀ c∈cs,∀ p∈ps,(F c p).2.2≠0→r0=[]∧r1=(F c p).2.2) (K:List PV→Int→Prop):yaq (cks cs) (pcsD ps) K=K r0 r1:=by
 refine yzl _ _ _ _ (fun K k=>?_) K
 refine ⟨r0,r1,k,fun e he=>?_⟩
 have hA:∀ c∈cs,∀ p∈ps,Ans (E e) yby [encC c,.data p] (wPV (F c p)):=fun c hc p hp=>yOp he (hW c hc p hp)
 have hq:∀ q∈prs cs ps,∃ c∈cs,∃ p∈ps,q=(encC c,PV.data p):=fun q hq=>by
   unfold prs at hq
   obtain ⟨c,hc,hq⟩:=List.mem_flatMap.1 hq
   obtain ⟨p,hp,rfl⟩:=List.mem_map.1 hq
   exact ⟨c,hc,p,hp,rfl⟩
 have hck:Ans (E e) ycq [.data (cks cs),.agg [.data (pcsD ps)]] (.int .i64 0):=by
   have hw:yjD [.data (cks cs),.agg [.data (pcsD ps)]] (fun q=>q=.int .i64 0):=by
     unfold yjD yhg
     dsimp only
     rw [hc]
   obtain ⟨q,hq,ha⟩:=yjJ e he [.data (cks cs),.agg [.data (pcsD ps)]] (fun q=>q=.int .i64 0) hw
   rw [hq] at ha
   exact ha
 have hrun:wRun e (fun c p=>(wOf e c p).1) (fun c p=>(wOf e c p).2.1) (fun c p=>(wOf e c p).2.2) cs ps fun o=>∃ q,o=some q∧q=.tup [.data r0,.int .i64 r1]:=by
   rw [yLY _ _ _ _ hl h1 h6]
   refine ⟨hck,yJI (fun q hq'=>?_) (fun hz=>?_) fun q hq' hn=>?_⟩
   · obtain ⟨c,hc,p,hp,rfl⟩:=hq q hq'
     exact wG_of (hA c hc p hp)
   · have hz':∀ c∈cs,∀ p∈ps,(F c p).2.2=0:=fun c hc p hp=>by
       have:=hz (encC c,.data p) (List.mem_flatMap.2 ⟨c,hc,List.mem_map.2 ⟨p,hp,rfl⟩⟩)
       dsimp only at this
       rw [yFf (hA c hc p hp)] at this
       exact this
     obtain ⟨e1,e2⟩:=h0 hz'
     refine ⟨_,rfl,?_⟩
     rw [e1,e2]
     unfold wtab
     congr 3
     refine List.map_congr_left fun c hc=>?_
     congr 1
     refine List.map_congr_left fun p hp=>?_
     dsimp only
     rw [yFf (hA c hc p hp)]
   · obtain ⟨c,hc,p,hp,rfl⟩:=hq q hq'
     dsimp only at hn ⊢
     rw [yFf (hA c hc p hp)] at hn ⊢
     obtain ⟨e1,e2⟩:=hx c hc p hp hn
     exact ⟨_,rfl,by rw [e1,e2]⟩
 obtain ⟨q,hq',ha⟩:=yKE e _ _ _ he hrun
 rw [hq'] at ha
 exact ha
end Go.Pf.Vc
namespace Go.Pf.Vc
def touchB (a b:List RS):Bool:=a.any fun s=>b.any fun t=>decide (s.1<t.2)&&decide (t.1<s.2)
theorem yIT {a b:List RS} (ha:∀ s∈a,s.1<s.2) (hb:∀ s∈b,s.1<s.2):touchB a b=true↔∃ p,memP a p∧memP b p:=by
 unfold touchB
 simp only [List.any_eq_true,Bool.and_eq_true,decide_eq_true_eq]
 constructor
 · rintro ⟨s,hs,t,ht,h1,h2⟩
   have k1:=ha s hs
   have k2:=hb t ht
   by_cases h:s.1<t.1
   · exact ⟨t.1,⟨s,hs,by grind,h2⟩,⟨t,ht,Rat.le_refl,k2⟩⟩
   · exact ⟨s.1,⟨s,hs,Rat.le_refl,k1⟩,⟨t,ht,by grind,h1⟩⟩
 · rintro ⟨p,⟨s,hs,h1,h2⟩,⟨t,ht,h3,h4⟩⟩
   exact ⟨s,hs,t,ht,by grind,by grind⟩
def gapS (len:Rat):List RS→Rat→Bool
 | [],at_=>decide (at_<len)
 | s::r,at_=>if at_<s.1 then true else gapS len r (if at_<s.2 then s.2 else at_)
theorem yGZ {len:Rat}:∀ (l:List RS) (at_:Rat),byFrom l→(∀ s∈l,s.1<s.2)→(∀ s∈l,s.2≤len)→(gapS len l at_=true↔∃ p,at_≤p∧p<len∧¬memP l p)
 | [],at_,_,_,_=>by
   unfold gapS
   rw [decide_eq_true_eq]
   exact ⟨fun h=>⟨at_,Rat.le_refl,h,yjW⟩,fun ⟨p,h1,h2,_⟩=>by grind⟩
 | s::r,at_,hs,hv,hl=>by
   unfold gapS
   have s1:=hv s List.mem_cons_self
   have s2:=hl s List.mem_cons_self
   by_cases h:at_<s.1
   · rw [if_pos h]
     refine ⟨fun _=>⟨at_,Rat.le_refl,by grind,fun hm=>?_⟩,fun _=>rfl⟩
     rcases ydl.1 hm with hm | ⟨t,ht,hm,_⟩
     · have:=hm.1;grind
     · have:=hs.1 t ht;grind
   · rw [if_neg h,yGZ r _ hs.2 (fun t ht=>hv t (List.mem_cons_of_mem _ ht)) (fun t ht=>hl t (List.mem_cons_of_mem _ ht))]
     constructor
     · rintro ⟨p,h1,h2,h3⟩
       have h1':at_≤p∧s.2≤p:=by split at h1 <;> exact ⟨by grind,by grind⟩
       refine ⟨p,h1'.1,h2,fun hm=>?_⟩
       rcases ydl.1 hm with hm | hm
       · have:=hm.2;grind
       · exact h3 hm
     · rintro ⟨p,h1,h2,h3⟩
       refine ⟨p,?_,h2,fun hm=>h3 (ydl.2 (.inr hm))⟩
       have hn:¬inS s p:=fun hm=>h3 (ydl.2 (.inl hm))
       have:s.2≤p:=Rat.not_lt.1 fun hlt=>hn ⟨by grind,hlt⟩
       split <;> assumption
def unR:List (List RS)→List RS
 | []=>[]
 | a::r=>setR a (unR r) 0
theorem yIU:∀ (l:List (List RS)),(∀ a∈l,canon a)→canon (unR l)∧∀ p,memP (unR l) p↔∃ a∈l,memP a p
 | [],_=>⟨trivial,fun p=>⟨fun h=>(yjW h).elim,fun ⟨a,h,_⟩=>by cases h⟩⟩
 | a::r,h=>by
   obtain ⟨h1,h2⟩:=yIU r fun x hx=>h x (List.mem_cons_of_mem _ hx)
   refine ⟨(yw1 (c:=Or) (fun x=>yBd) (by simp)).1,fun p=>?_⟩
   show memP (setR a (unR r) 0) p↔_
   rw [yKC,h2]
   constructor
   · rintro (h | ⟨b,hb,h⟩)
     · exact ⟨a,List.mem_cons_self,h⟩
     · exact ⟨b,List.mem_cons_of_mem _ hb,h⟩
   · rintro ⟨b,hb,hm⟩
     rcases List.mem_cons.1 hb with e | hb
     · subst e;exact .inl hm
     · exact .inr ⟨b,hb,hm⟩
def apartL:List (List RS)→Prop
 | []=>True
 | a::r=>(∀ b∈r,∀ p,memP a p→¬memP b p)∧apartL r
def sumL (V:Rat→Rat):List (List RS)→Rat
 | []=>0
 | a::r=>sumV (dV V) a+sumL V r
theorem yJJ (V:Rat→Rat):∀ (l:List (List RS)),(∀ a∈l,canon a)→apartL l→sumV (dV V) (unR l)=sumL V l
 | [],_,_=>rfl
 | a::r,h,ha=>by
   have hr:∀ x∈r,canon x:=fun x hx=>h x (List.mem_cons_of_mem _ hx)
   obtain ⟨h1,h2⟩:=yIU r hr
   have hs:=yLU V (h a List.mem_cons_self) h1
   have hm:setR a (unR r) 1=[]:=by
     refine ymU _ _ (yw1 (c:=And) (fun x=>yDv) (by simp)).1 trivial fun p=>⟨fun hp=>?_,fun hp=>(yjW hp).elim⟩
     obtain ⟨p1,p2⟩:=yLS.1 hp
     obtain ⟨b,hb,p3⟩:=(h2 p).1 p2
     exact absurd p3 (ha.1 b hb p p1)
   rw [hm] at hs
   have h0:sumV (dV V) []=0:=rfl
   have ih:=yJJ V r hr ha.2
   show sumV (dV V) (setR a (unR r) 0)=sumV (dV V) a+sumL V r
   rw [h0] at hs
   rw [← ih]
   grind
theorem yKF (V:Rat→Rat) {len:Rat} (hlen:0<len) {l:List (List RS)} (hc:∀ a∈l,canon a) (hw:∀ a∈l,∀ s∈a,0≤s.1∧s.2≤len) (ha:apartL l) (hg:∀ p,0≤p→p<len→∃ a∈l,memP a p):sumL V l=V len-V 0:=by
 obtain ⟨h1,h2⟩:=yIU l hc
 have hu:unR l=[(0,len)]:=by
   refine ymU _ _ h1 ⟨hlen,(fun t ht=>by cases ht),trivial⟩ fun p=>?_
   rw [h2]
   constructor
   · rintro ⟨a,hb,s,hs,q1,q2⟩
     have:=hw a hb s hs
     exact ⟨(0,len),List.mem_cons_self,by show (0:Rat)≤p;grind,by show p<len;grind⟩
   · rintro ⟨s,hs,q⟩
     rcases List.mem_cons.1 hs with rfl | hs
     · exact hg p q.1 q.2
     · cases hs
 rw [← yJJ V l hc ha,hu]
 show (V len-V 0)+0=_
 grind
theorem yLZ {α:Type} (f:α→Rat) (m:Rat):∀ (l:List α),(∀ a∈l,f a≤m)→(l.map f).sum≤(l.length:Rat)*m
 | [],_=>by simp
 | a::r,h=>by
   have ih:=yLZ f m r fun x hx=>h x (List.mem_cons_of_mem _ hx)
   have h1:=h a List.mem_cons_self
   have e:(((a::r).length:Nat):Rat)=(r.length:Rat)+1:=by
     rw [List.length_cons]
     push_cast
     rfl
   rw [List.map_cons,List.sum_cons,e]
   grind
theorem yG0 (V:Rat→Rat):∀ (l:List (List RS)),sumL V l=(l.map fun a=>sumV (dV V) a).sum
 | []=>rfl
 | a::r=>by
   rw [List.map_cons,List.sum_cons,← yG0 V r]
   rfl
end Go.Pf.Vc
namespace Go.Pf.Vc
open Go Go.Pf
theorem ylI {q r:Rat} (hq:small q) (hr:small r) (K:Bool→Prop):yad q.num q.den r.num r.den K=K (decide (q<r)):=by
 unfold yad yoZ
 rw [yzA hq hr,yGO]
theorem yiR (n:Int) (K:Int→Int→Prop):yak n K=K (n:Rat).num (n:Rat).den:=rfl
def meets (s t:RS):Bool:=decide (s.1<t.2)&&decide (t.1<s.2)
theorem yG1 {s:RS} (h:smallS s) {B:List RS} (hs:∀ t∈B,smallS t) (hl:B.length<4611686018427387904) {x0:Int→Int→Int→Int→List PV→Int→Int→Bool→Prop} {x1:Int→Int→Int→Int→Int→Prop} {K:Bool→Prop}
   (hx0:∀ a b c d l i k q,x0 a b c d l i k q=K false) (hx1:∀ a b c d i,0≤i→x1 a b c d i=K true) :
   ∀ (r i n:Nat),i+r=B.length→r<n→ybP yad x0 x1 n s.1.num s.1.den s.2.num s.2.den (rsp B) (B.length:Int) (i:Int)=K ((B.drop i).any (meets s)):=by
 intro r
 induction r with
 | zero =>
   intro i n hi hn
   obtain ⟨n,rfl⟩:∃ m,n=m+1:=⟨n-1,by omega⟩
   obtain rfl:i=B.length:=by omega
   rw [ybP,cbF (by omega),List.drop_length,hx0]
   rfl
 | succ r ih =>
   intro i n hi hn
   obtain ⟨n,rfl⟩:∃ m,n=m+1:=⟨n-1,by omega⟩
   have hil:i<B.length:=by omega
   have e1:=wib (n:=(i:Int)+1) (by omega) (by omega)
   have hd:B.drop i=B.getD i default::B.drop (i+1):=ybT default hil
   have hx:=yqY hs hil
   rw [ybP,cbT (by omega)]
   dsimp only [lt,Go.Pf.jn]
   rw [ycf,asT (by omega),asT (by omega),Int.toNat_natCast,ymk hil,asR,encR0,encR1,encR2,encR3,ylI h.1 hx.2,e1,cast1,hd,List.any_cons]
   unfold meets
   cases decide (s.1<(B.getD i default).2) with
   | false =>
     rw [yaa,yaa,Bool.false_and,Bool.false_or]
     exact ih (i+1) n (by omega) (by omega)
   | true =>
     rw [yaf,Bool.true_and,ylI hx.1 h.2]
     cases decide ((B.getD i default).1<s.2) with
     | false =>
       rw [yaa,Bool.false_or]
       exact ih (i+1) n (by omega) (by omega)
     | true =>
       rw [yaf,hx1 _ _ _ _ _ (by omega)]
       rfl
theorem yKG {s:RS} (h:smallS s) {B:List RS} (hs:∀ t∈B,smallS t) (hl:B.length<4611686018427387904) (K:Bool→Prop):ybw s.1.num s.1.den s.2.num s.2.den (rsp B) K=K (B.any (meets s)):=by
 refine ywN _ _ _ _ _ _ (fun K k=>?_) K
 unfold ybw ykF
 dsimp only [Go.Pf.jn]
 refine ⟨B.length+1,?_⟩
 rw [ycf]
 exact (yG1 h hs hl (K:=K) (fun _ _ _ _ _ _ _ _=>rfl) (fun _ _ _ _ i hi=>by rw [decide_eq_true hi]) B.length 0 (B.length+1) (by omega) (by omega)).mpr (by rw [List.drop_zero];exact k)
theorem yIV {A B:List RS} (ha:∀ s∈A,smallS s) (hb:∀ t∈B,smallS t) (hla:A.length<4611686018427387904) (hlb:B.length<4611686018427387904) {x0:List PV→List PV→Int→Int→Bool→Prop} {x1:List PV→Int→Prop} {K:Bool→Prop}
   (hx0:∀ l m i k q,x0 l m i k q=K false) (hx1:∀ l i,0≤i→x1 l i=K true) :
   ∀ (r i n:Nat),i+r=A.length→r<n→ycl ybw x0 x1 n (rsp B) (rsp A) (A.length:Int) (i:Int)=K (touchB (A.drop i) B):=by
 intro r
 induction r with
 | zero =>
   intro i n hi hn
   obtain ⟨n,rfl⟩:∃ m,n=m+1:=⟨n-1,by omega⟩
   obtain rfl:i=A.length:=by omega
   rw [ycl,cbF (by omega),List.drop_length,hx0]
   rfl
 | succ r ih =>
   intro i n hi hn
   obtain ⟨n,rfl⟩:∃ m,n=m+1:=⟨n-1,by omega⟩
   have hil:i<A.length:=by omega
   have e1:=wib (n:=(i:Int)+1) (by omega) (by omega)
   have hd:A.drop i=A.getD i default::A.drop (i+1):=ybT default hil
   have hx:=yqY ha hil
   rw [ycl,cbT (by omega)]
   dsimp only [lt,Go.Pf.jn]
   rw [ycf,asT (by omega),asT (by omega),Int.toNat_natCast,ymk hil,asR,encR0,encR1,encR2,encR3,yKG hx hb hlb,e1,cast1,hd]
   have e:touchB (A.getD i default::A.drop (i+1)) B=(B.any (meets (A.getD i default))||touchB (A.drop (i+1)) B):=rfl
   rw [e]
   cases B.any (meets (A.getD i default)) with
   | false =>
     rw [yaa,Bool.false_or]
     exact ih (i+1) n (by omega) (by omega)
   | true =>
     rw [yaf,hx1 _ _ (by omega)]
     rfl
theorem yL0 {A B:List RS} (ha:∀ s∈A,smallS s) (hb:∀ t∈B,smallS t) (hla:A.length<4611686018427387904) (hlb:B.length<4611686018427387904) (K:Bool→Prop):yah (rsp A) (rsp B) K=K (touchB A B):=by
 refine yzm _ _ _ (fun K k=>?_) K
 unfold yah ynN
 dsimp only [Go.Pf.jn]
 refine ⟨A.length+1,?_⟩
 rw [ycf]
 exact (yIV ha hb hla hlb (K:=K) (fun _ _ _ _ _=>rfl) (fun _ i hi=>by rw [decide_eq_true hi]) A.length 0 (A.length+1) (by omega) (by omega)).mpr (by rw [List.drop_zero];exact k)
end Go.Pf.Vc
namespace Go.Pf.Vc
open Go Go.Pf
def great6 (cs:List Ck) (ps:List (List Sp)):Bool:=ps.any greatS||(greatC cs||decide (ps.length>10))
section
variable {cs:List Ck} {ps:List (List Sp)}
theorem yyG (hl:ps.length≤9223372036854775807) {x0:List PV→List PV→Int→Bool→Prop} {x1:Bool→Prop} :
   ∀ (r i n:Nat),i+r=ps.length→r<n→yc6 yd9 ybf x0 x1 n (cks cs) (pieces ps) (i:Int)=if (ps.drop i).any greatS then x1 true else x0 (cks cs) (pieces ps) (ps.length:Int) false
 | 0,i,n+1,hi,hn=>by
   rw [yc6,yf2,cbF (by omega),List.drop_of_length_le (by omega),show (i:Int)=ps.length by omega];rfl
 | r+1,i,n+1,hi,hn=>by
   have e1:=wib (n:=(i:Int)+1) (by omega) (by omega)
   rw [yc6]
   dsimp only [lt,Go.Pf.jn]
   rw [yf2,cbT (by omega),Int.toNat_natCast,yx5 (by omega),asT (by omega),asT (by omega),asD]
   show yd9 (spans (ps.getD i [])) _=_
   rw [yKB,ybT [] (by omega),List.any_cons,e1,cast1]
   cases greatS (ps.getD i []) with
   | true=>rw [yaf];rfl
   | false=>rw [yaa,Bool.false_or];exact yyG hl r (i+1) n (by omega) (by omega)
theorem yKH (hc:cs.length≤9223372036854775807) (hl:ps.length≤9223372036854775807) (K:Bool→Prop):yhe (cks cs) (pieces ps) K=K (great6 cs ps):=by
 refine yCu _ _ _ (fun K k=>?_) K
 unfold yhe yqx
 dsimp only [Go.Pf.jn]
 refine ⟨ps.length+1,?_⟩
 have:=yyG (cs:=cs) hl (x0:=fun yl14 yl15 _ _=>ybf yl14 (fun yb21=>cbr yb21 (K true) (K (decide ((((List.length yl15):Nat):Int)>(10:Int)))))) (x1:=fun b=>K b) ps.length 0 (ps.length+1) (by omega) (by omega)
 refine this.mpr ?_
 rw [List.drop_zero]
 unfold great6 at k
 cases h:ps.any greatS with
 | true=>rw [h] at k;exact k
 | false =>
   rw [h,Bool.false_or] at k
   show ybf (cks cs) _
   rw [yCD hc]
   cases h2:greatC cs with
   | true=>rw [h2] at k;rw [yaf];exact k
   | false =>
     rw [h2,Bool.false_or] at k
     rw [yaa,yf2]
     have:decide (((ps.length:Nat):Int)>10)=decide (ps.length>10):=by rw [decide_eq_decide];omega
     rw [this];exact k
theorem yBh (h:great6 cs ps=false):ps.length≤10∧greatC cs=false∧∀ p∈ps,greatS p=false:=by
 unfold great6 at h
 simp only [Bool.or_eq_false_iff,decide_eq_false_iff_not,List.any_eq_false] at h
 exact ⟨by omega,h.2.1,fun p hp=>by simpa using h.1 p hp⟩
def firstPE:List (List Sp)→Int
 | []=>0
 | s::r=>if pieceE s=0 then firstPE r else pieceE s
def chk6 (cs:List Ck) (ps:List (List Sp)):Int :=
 if deskE cs 0=0 then (if ps.length=cs.length then (if firstPE ps=0 then (if ps.all (fun p=>withB (cs.getD 0 default).len (rsL p)) then 0 else 2) else firstPE ps) else 2) else deskE cs 0
theorem yqZ:∀ {l:List (List Sp)},firstPE l=0→∀ p∈l,pieceE p=0
 | [],_,p,hp=>by cases hp
 | s::r,h,p,hp=>by
   unfold firstPE at h
   by_cases h0:pieceE s=0
   · rw [if_pos h0] at h
     rcases List.mem_cons.1 hp with rfl | hp
     · exact h0
     · exact yqZ h p hp
   · rw [if_neg h0] at h
     exact absurd h h0
theorem ybU {α:Type} {l:List α} {i:Nat} (d:α) (h:i<l.length):l.getD i d∈l:=by
 rw [List.getD_eq_getElem?_getD,List.getElem?_eq_getElem h]
 exact List.getElem_mem h
theorem yBi (hl:ps.length≤10) (h64:∀ p∈ps,∀ s∈p,s.i64) (hs:∀ p∈ps,p.length<4611686018427387904) {W4 WW} {x0:List PV→List PV→Int→Bool→Prop} {x1:Int→Prop} :
   ∀ (r i n:Nat),i+r=ps.length→r<n→yc8 W4 ybX WW x0 x1 n (cks cs) (pieces ps) (i:Int)=if firstPE (ps.drop i)=0 then x0 (cks cs) (pieces ps) (ps.length:Int) false else x1 (firstPE (ps.drop i))
 | 0,i,n+1,hi,hn=>by
   rw [yc8,yf2,cbF (by omega),List.drop_of_length_le (by omega),show (i:Int)=ps.length by omega];rfl
 | r+1,i,n+1,hi,hn=>by
   have e1:=wib (n:=(i:Int)+1) (by omega) (by omega)
   have hm:=ybU [] (show i<ps.length by omega)
   rw [yc8]
   dsimp only [lt,Go.Pf.jn]
   rw [yf2,cbT (by omega),Int.toNat_natCast,yx5 (by omega),asT (by omega),asT (by omega),asD]
   show ybX (spans (ps.getD i [])) _=_
   rw [yIP (h64 _ hm) (hs _ hm),ybT [] (by omega),firstPE,e1,cast1]
   by_cases h:pieceE (ps.getD i [])=0
   · rw [cnF h,if_pos h];exact yBi hl h64 hs r (i+1) n (by omega) (by omega)
   · rw [cnT h,if_neg h,if_neg h]
theorem yBj (hc0:0<cs.length) (hlen:-1000000000000000000≤(cs.getD 0 default).len∧(cs.getD 0 default).len≤1000000000000000000) (hl:ps.length≤10) (hp:∀ p∈ps,pieceE p=0) {W4 WC3} {x0:List PV→List PV→Int→Bool→Prop} {x1:Int→Prop} :
   ∀ (r i n:Nat),i+r=ps.length→r<n→yc9 W4 WC3 ybC x0 x1 n (cks cs) (pieces ps) (i:Int)=if (ps.drop i).all (fun p=>withB (cs.getD 0 default).len (rsL p)) then x0 (cks cs) (pieces ps) (ps.length:Int) false else x1 2
 | 0,i,n+1,hi,hn=>by
   rw [yc9,yf2,cbF (by omega),List.drop_of_length_le (by omega),show (i:Int)=ps.length by omega];rfl
 | r+1,i,n+1,hi,hn=>by
   have e1:=wib (n:=(i:Int)+1) (by omega) (by omega)
   have hm:=ybU [] (show i<ps.length by omega)
   obtain ⟨p1,p2,_⟩:=pc_of (hp _ hm)
   have ea:=yf1 hc0
   rw [yc9]
   dsimp only [lt,Go.Pf.jn]
   rw [yf2,yba,cbT (by omega),asT (by omega),ea,asCk,Int.toNat_natCast,yx5 (by omega),asT (by omega),asT (by omega),asD]
   show ybC (cs.getD 0 default).len (spans (ps.getD i [])) _=_
   rw [p2,p1.within hlen,ybT [] (by omega),List.all_cons,e1,cast1]
   cases withB (cs.getD 0 default).len (rsL (ps.getD i [])) with
   | false=>rfl
   | true =>
     rw [Bool.not_true,yaa,Bool.true_and]
     exact yBj hc0 hlen hl hp r (i+1) n (by omega) (by omega)
end
end Go.Pf.Vc
namespace Go.Pf.Vc
open Go Go.Pf
structure DV (cs:List Ck) (A:List (List RS)):Prop where
 d:DK cs
 l:A.length=cs.length
 p:∀ a∈A,Pc a
 m:∀ a∈A,a.length≤20
 w:∀ a∈A,withB (cs.getD 0 default).len a=true
theorem datD (l:List PV):datOfV (PV.data l)=l:=rfl
def rspL (A:List (List RS)):List PV:=A.map fun a=>.data (rsp a)
theorem ygc (A:List (List RS)):(rspL A).length=A.length:=List.length_map ..
theorem yov {A:List (List RS)} {i:Nat} (h:i<A.length):List.getD (rspL A) i .nils=.data (rsp (A.getD i [])):=by
 unfold rspL
 rw [List.getD_eq_getElem?_getD,List.getD_eq_getElem?_getD,List.getElem?_map,List.getElem?_eq_getElem h]
 rfl
section
variable {cs:List Ck} {ps:List (List Sp)} {A:List (List RS)}
theorem yIW (hf:finC cs) (hc:cs.length≤10) (hl:ps.length≤10) (h64:∀ p∈ps,∀ s∈p,s.i64) (hs:∀ p∈ps,p.length<4611686018427387904) (K:Int→Prop):yhf (cks cs) (pieces ps) K=K (chk6 cs ps):=by
 refine yCw _ _ _ (fun K k=>?_) K
 unfold yhf yqF
 rw [yKw hf (by omega)]
 unfold chk6 at k
 show cbr (deskE cs 0 != 0) _ _
 by_cases h1:deskE cs 0=0
 case neg=>rw [cnT h1];rw [if_neg h1] at k;exact k
 rw [cnF h1]
 rw [if_pos h1] at k
 rw [yf2,yba]
 by_cases h2:ps.length=cs.length
 case neg=>rw [cnT (by omega)];rw [if_neg h2] at k;exact k
 rw [cnF (by omega)]
 rw [if_pos h2] at k
 refine ⟨ps.length+1,?_⟩
 refine (yBi hl h64 hs ps.length 0 (ps.length+1) (by omega) (by omega)).mpr ?_
 rw [List.drop_zero]
 by_cases h3:firstPE ps=0
 case neg=>rw [if_neg h3];rw [if_neg h3] at k;exact k
 rw [if_pos h3]
 rw [if_pos h3] at k
 have hd:=(yBa h1).1
 have l0:=(hd.ok 0 (by have:=hd.n0;omega)).len0
 refine ⟨ps.length+1,?_⟩
 refine (yBj (by have:=hd.n0;omega) (by omega) hl (yqZ h3) ps.length 0 (ps.length+1) (by omega) (by omega)).mpr ?_
 rw [List.drop_zero]
 split at k <;> rename_i h <;> simp only [h] <;> exact k
def ok6 (cs:List Ck) (ps:List (List Sp)):Bool:=!great6 cs ps&&decide (chk6 cs ps=0)
theorem yKI (hc:cs.length≤9223372036854775807) (hl:ps.length≤9223372036854775807) (h64:∀ p∈ps,∀ s∈p,s.i64) (K:Bool→Prop):yeP (cks cs) (pieces ps) K=K (ok6 cs ps):=by
 unfold yeP yqP ok6
 dsimp only [Go.Pf.jn]
 rw [yKH hc hl]
 cases hg:great6 cs ps with
 | true=>rfl
 | false =>
   obtain ⟨g1,g2,g3⟩:=yBh hg
   obtain ⟨c1,c2,c3⟩:=yIL g2
   rw [Bool.not_false,yaf,yIW c3 c1 g1 h64 (fun p hp=>by have:=(yBe (g3 p hp)).1;omega)]
   congr 1
theorem yIX (h:ok6 cs ps=true):DV cs (ps.map rsL)∧pieces ps=rspL (ps.map rsL):=by
 unfold ok6 at h
 simp only [Bool.and_eq_true,Bool.not_eq_true',decide_eq_true_eq] at h
 obtain ⟨h0,h⟩:=h
 obtain ⟨g1,g2,g3⟩:=yBh h0
 unfold chk6 at h
 split at h
 case isFalse hn=>exact absurd h hn
 rename_i h1
 split at h
 case isFalse=>omega
 rename_i h2
 split at h
 case isFalse hn=>exact absurd h hn
 rename_i h3
 split at h
 case isFalse=>omega
 rename_i h4
 have hp:=yqZ h3
 refine ⟨⟨(yBa h1).1,by rw [List.length_map];exact h2,fun a ha=>?_,fun a ha=>?_,fun a ha=>?_⟩,?_⟩
 · obtain ⟨p,hp1,rfl⟩:=List.mem_map.1 ha
   exact (pc_of (hp p hp1)).1
 · obtain ⟨p,hp1,rfl⟩:=List.mem_map.1 ha
   have k1:=(pc_of (hp p hp1)).1.n
   have e:(rsL p).length=p.length:=List.length_map ..
   have:=(yBe (g3 p hp1)).2 (by omega)
   omega
 · obtain ⟨p,hp1,rfl⟩:=List.mem_map.1 ha
   exact List.all_eq_true.1 h4 p hp1
 · unfold pieces rspL
   rw [List.map_map]
   refine List.map_congr_left fun p hp1=>?_
   show PV.data (spans p)=PV.data (rsp (rsL p))
   rw [(pc_of (hp p hp1)).2.1]
theorem DV.len0 (h:DV cs A):1≤(cs.getD 0 default).len∧(cs.getD 0 default).len≤1000:=(h.d.ok 0 (by have:=h.d.n0;omega)).len0
theorem DV.wi (h:DV cs A):∀ a∈A,Wi (cs.getD 0 default).len a:=fun a ha=>yLW (h.w a ha)
theorem yBk (h:DV cs A) {WA WW WL} {x0:List PV→List PV→List PV→Int→Int→Bool→Prop} {x1:Int→Prop} :
   ∀ (r i n:Nat),i+r=A.length→r<n→yck WA yaw WW WL x0 x1 n (cks cs) (rspL A) (rspL A) (A.length:Int) (i:Int)=x0 (cks cs) (rspL A) (rspL A) (A.length:Int) (A.length:Int) false
 | 0,i,n+1,hi,hn=>by
   rw [yck,cbF (by omega),show (i:Int)=A.length by omega]
 | r+1,i,n+1,hi,hn=>by
   have h6:=h.d.n6;have hl:=h.l
   have e1:=wib (n:=(i:Int)+1) (by omega) (by omega)
   have hm:=ybU [] (show i<A.length by omega)
   rw [yck]
   dsimp only [lt,Go.Pf.jn]
   rw [cbT (by omega),ygc,asT (by omega),asT (by omega),Int.toNat_natCast,yov (by omega),asD]
   show yaw (rsp (A.getD i [])) _=_
   rw [(h.p _ hm).check,e1,cast1]
   show cbr false _ _=_
   rw [yaa]
   exact yBk h r (i+1) n (by omega) (by omega)
theorem yBl (h:DV cs A) {WA WC} {x0:List PV→List PV→Int→Int→Bool→Prop} {x1:Int→Prop} :
   ∀ (r i n:Nat),i+r=A.length→r<n→ybS WA WC yak yad x0 x1 n (cks cs) (rspL A) (A.length:Int) (i:Int)=x0 (cks cs) (rspL A) (A.length:Int) (A.length:Int) false
 | 0,i,n+1,hi,hn=>by
   rw [ybS,cbF (by omega),show (i:Int)=A.length by omega]
 | r+1,i,n+1,hi,hn=>by
   have h6:=h.d.n6;have hl:=h.l;have h1:=h.d.n0;have l0:=h.len0
   have e1:=wib (n:=(i:Int)+1) (by omega) (by omega)
   have hm:=ybU [] (show i<A.length by omega)
   have p:=h.p _ hm
   have hw:=h.wi _ hm
   have pn:=p.n
   have ih:=yBl h (WA:=WA) (WC:=WC) (x0:=x0) (x1:=x1) r (i+1) n (by omega) (by omega)
   rw [ybS]
   dsimp only [lt,Go.Pf.jn]
   rw [cbT (by omega),ygc,asT (by omega),asT (by omega),Int.toNat_natCast,yov (by omega),asD,datD]
   generalize A.getD i []=a at p hw pn
   rw [ycf,e1,cast1]
   by_cases ha:a.length=0
   · rw [cbF (by omega),yaa]
     exact ih
   · have h0:0<a.length:=by omega
     have m0:=ybU (default:RS) h0
     have m1:=ybU (default:RS) (show a.length-1<a.length by omega)
     have w0:=hw _ m0
     have w1:=hw _ m1
     have s1:=p.s _ m1
     have n0:0≤(a.getD 0 default).1.num:=Rat.num_nonneg.2 w0.1
     have e2:=wib (n:=(a.length:Int)-1) (by omega) (by omega)
     have et:((a.length:Int)-1).toNat=a.length-1:=by omega
     have sl:small ((cs.getD 0 default).len:Rat):=ygF (by omega)
     rw [cbT (by omega),asT (by omega),ymk h0,asR,encR0,cbF (by omega),yba,asT (by omega),yf1 (by omega),asCk,ck0,yiR,e2,asT (by omega),asT (by omega),et,ymk (by omega),asR,encR2,encR3,ylI sl s1.2,cbF (by grind)]
     exact ih
theorem pCheckD (h:DV cs A) (K:Int→Prop):ybk (cks cs) (rspL A) K=K 0:=by
 have h6:=h.d.n6;have hl:=h.l
 refine yzk _ _ _ (fun K k=>?_) K
 unfold ybk ynM
 rw [yKv h.d.fin (by omega)]
 show cbr (deskE cs 0 != 0) _ _
 rw [cnF (h.d.err (by omega)),ygc,yba,cnF (by omega)]
 refine ⟨A.length+1,(yBk h A.length 0 (A.length+1) (by omega) (by omega)).mpr ?_⟩
 show ∃ n,ybS _ _ _ _ _ _ n (cks cs) (rspL A) (((rspL A).length:Nat):Int) 0
 rw [ygc]
 exact ⟨A.length+1,(yBl h A.length 0 (A.length+1) (by omega) (by omega)).mpr k⟩
end
end Go.Pf.Vc
namespace Go.Pf.Vc
open Go Go.Pf
def wV (c:Ck) (a:List RS):Rat:=sumV (dV (vX c.cuts c.dens)) a
def tabW (cs:List Ck) (A:List (List RS)):List PV:=cs.map fun c=>.data (rts (A.map (wV c)))
open Classical in
noncomputable def fW (c:Ck) (p:List PV):Int×Int×Int:=if h:∃ t:Int×Int×Int,∀ K:Int→Int→Int→Prop,yar c.len (ints c.cuts) (ints c.dens) p K=K t.1 t.2.1 t.2.2 then Classical.choose h else (0,0,0)
theorem fW_eq {c:Ck} {p:List PV} {t:Int×Int×Int} (h:∀ K:Int→Int→Int→Prop,yar c.len (ints c.cuts) (ints c.dens) p K=K t.1 t.2.1 t.2.2):fW c p=t:=by
 have hx:∃ t:Int×Int×Int,∀ K:Int→Int→Int→Prop,yar c.len (ints c.cuts) (ints c.dens) p K=K t.1 t.2.1 t.2.2:=⟨t,h⟩
 unfold fW
 rw [dif_pos hx]
 have h2:=Classical.choose_spec hx (fun a b c=>(a,b,c)=t)
 rw [h] at h2
 exact h2.mp rfl
theorem ysM {α:Type} {l:List α} {x:α} (d:α) (h:x∈l):∃ i,i<l.length∧l.getD i d=x:=by
 obtain ⟨i,hi,e⟩:=List.getElem_of_mem h
 exact ⟨i,hi,by rw [List.getD_eq_getElem?_getD,List.getElem?_eq_getElem hi];exact e⟩
section
variable {cs:List Ck} {A:List (List RS)}
theorem DK.mem (h:DK cs) {c:Ck} (hc:c∈cs):c.ok∧c.len=(cs.getD 0 default).len:=by
 obtain ⟨i,hi,rfl⟩:=ysM default hc
 exact ⟨h.ok i hi,h.len i hi⟩
theorem DV.out (h:DV cs A) {c:Ck} (hc:c∈cs) {a:List RS} (ha:a∈A):outW (fun K=>yar c.len (ints c.cuts) (ints c.dens) (rsp a) K) (wV c a):=by
 obtain ⟨h1,h2⟩:=h.d.mem hc
 refine (h.p a ha).outWorth h1 ?_
 rw [h2]
 exact h.wi a ha
theorem DV.Worth (h:DV cs A):(∀ K,yaq (cks cs) (rspL A) K=K [] 16)∨((∀ c∈cs,∀ a∈A,small (wV c a))∧∀ K,yaq (cks cs) (rspL A) K=K (tabW cs A) 0):=by
 have h6:=h.d.n6;have h1:=h.d.n0;have hl:=h.l
 have e:pcsD (A.map rsp)=rspL A:=by
   unfold pcsD rspL
   rw [List.map_map]
   rfl
 have hall:∀ c∈cs,∀ a∈A,(∀ K:Int→Int→Int→Prop,yar c.len (ints c.cuts) (ints c.dens) (rsp a) K=K (fW c (rsp a)).1 (fW c (rsp a)).2.1 (fW c (rsp a)).2.2)∧((fW c (rsp a)).2.2=16∨(small (wV c a)∧fW c (rsp a)=((wV c a).num,((wV c a).den:Int),0))):=fun c hc a ha=>by
   rcases h.out hc ha with ⟨x,rfl,hx⟩ | ⟨hs,hx⟩
   · have e2:=fW_eq (t:=(0,0,16)) hx
     rw [e2]
     exact ⟨hx,.inl rfl⟩
   · have e2:=fW_eq (t:=((wV c a).num,((wV c a).den:Int),0)) hx
     rw [e2]
     exact ⟨hx,.inr ⟨hs,rfl⟩⟩
 have hck:∀ K,ybk (cks cs) (pcsD (A.map rsp)) K=K 0:=fun K=>by rw [e];exact pCheckD h K
 have hW:∀ c∈cs,∀ p∈A.map rsp,∀ K:Int→Int→Int→Prop,yar c.len (ints c.cuts) (ints c.dens) p K=K (fW c p).1 (fW c p).2.1 (fW c p).2.2:=fun c hc p hp=>by
   obtain ⟨a,ha,rfl⟩:=List.mem_map.1 hp
   exact (hall c hc a ha).1
 by_cases hz:∀ c∈cs,∀ a∈A,(fW c (rsp a)).2.2=0
 · refine .inr ⟨fun c hc a ha=>?_,fun K=>?_⟩
   · rcases (hall c hc a ha).2 with h16 | ⟨hs,_⟩
     · have:=hz c hc a ha;omega
     · exact hs
   · rw [← e]
     refine yBg (by rw [List.length_map];exact hl) h1 h6 hck hW (fun _=>⟨?_,rfl⟩) (fun c hc p hp hn=>?_) K
     · unfold tabW
       refine List.map_congr_left fun c hc=>?_
       unfold rts
       rw [List.map_map,List.map_map]
       congr 1
       refine List.map_congr_left fun a ha=>?_
       rcases (hall c hc a ha).2 with h16 | ⟨_,h0⟩
       · have:=hz c hc a ha;omega
       · show encW (wV c a)=.agg [.int .i64 (fW c (rsp a)).1,.int .i64 (fW c (rsp a)).2.1]
         rw [h0]
         rfl
     · obtain ⟨a,ha,rfl⟩:=List.mem_map.1 hp
       exact absurd (hz c hc a ha) hn
 · refine .inl fun K=>?_
   rw [← e]
   refine yBg (by rw [List.length_map];exact hl) h1 h6 hck hW (fun h0=>?_) (fun c hc p hp hn=>?_) K
   · exact absurd (fun c hc a ha=>h0 c hc (rsp a) (List.mem_map.2 ⟨a,ha,rfl⟩)) hz
   · obtain ⟨a,ha,rfl⟩:=List.mem_map.1 hp
     rcases (hall c hc a ha).2 with h16 | ⟨_,h0⟩
     · exact ⟨rfl,h16.symm⟩
     · rw [h0] at hn
       exact absurd rfl hn
end
end Go.Pf.Vc
namespace Go.Pf.Vc
open Go Go.Pf
def tot (A:List (List RS)):Nat:=(A.map List.length).sum
theorem yw4 (a:List RS) (A:List (List RS)):tot (a::A)=a.length+tot A:=by unfold tot;rw [List.map_cons,List.sum_cons]
theorem yG2:∀ A:List (List RS),A.flatten.length=tot A
 | []=>rfl
 | a::r=>by rw [List.flatten_cons,List.length_append,yG2 r,yw4]
theorem yL1 {m:Nat}:∀ {A:List (List RS)},(∀ a∈A,a.length≤m)→tot A≤A.length*m
 | [],_=>by simp [tot]
 | a::r,h=>by
   have h1:=h a List.mem_cons_self
   have h2:=yL1 (m:=m) fun x hx=>h x (List.mem_cons_of_mem a hx)
   rw [yw4,List.length_cons,Nat.succ_mul]
   omega
section
variable {cs:List Ck} {A:List (List RS)}
theorem yDw (hl:A.length≤6) (hm:∀ a∈A,a.length≤20) {WW WL} {x0:List PV→Int→List PV→Int→Int→Bool→Prop} {l0:List PV} :
   ∀ (r i n s:Nat),i+r=A.length→r<n→s≤20*i→ybs WW WL x0 n l0 (s:Int) (rspL A) (A.length:Int) (i:Int)=x0 l0 ((s+tot (A.drop i):Nat):Int) (rspL A) (A.length:Int) (A.length:Int) false
 | 0,i,n+1,s,hi,hn,hs=>by
   rw [ybs,cbF (by omega),List.drop_of_length_le (by omega),show (i:Int)=A.length by omega]
   rfl
 | r+1,i,n+1,s,hi,hn,hs=>by
   have e1:=wib (n:=(i:Int)+1) (by omega) (by omega)
   have hx:=ybU [] (show i<A.length by omega)
   have hx2:=hm _ hx
   have hd:A.drop i=A.getD i []::A.drop (i+1):=ybT [] (by omega)
   have ih:=yDw hl hm (WW:=WW) (WL:=WL) (x0:=x0) (l0:=l0) r (i+1) n (s+(A.getD i []).length) (by omega) (by omega) (by omega)
   rw [ybs]
   dsimp only [lt,Go.Pf.jn]
   rw [cbT (by omega),ygc,asT (by omega),asT (by omega),Int.toNat_natCast,yov (by omega),asD,datD,ycf,hd,yw4,e1,cast1]
   generalize (A.getD i []).length=k at hx2 ih
   have e2:=wib (n:=(s:Int)+(k:Int)) (by omega) (by omega)
   rw [e2,cbF (by omega),← Int.natCast_add,ih]
   congr 2
   omega
def zSp:PV:=.agg [.int .i64 0,.int .i64 0,.int .i64 0,.int .i64 0]
theorem yDx (hl:A.length≤6) {WW WL} {x1:List PV→Nat→List PV→Int→Int→Bool→Prop} :
   ∀ (r i n:Nat) (done:List RS),i+r=A.length→r<n→yaZ WW WL x1 n (rsp done++List.replicate (tot (A.drop i)) zSp) done.length (rspL A) (A.length:Int) (i:Int)=x1 (rsp (done++(A.drop i).flatten)) (done++(A.drop i).flatten).length (rspL A) (A.length:Int) (A.length:Int) false
 | 0,i,n+1,done,hi,hn=>by
   rw [yaZ,cbF (by omega),List.drop_of_length_le (by omega),show (i:Int)=A.length by omega]
   show x1 (rsp done++[]) _ _ _ _ _=x1 (rsp (done++[])) (done++[]).length _ _ _ _
   rw [List.append_nil,List.append_nil]
 | r+1,i,n+1,done,hi,hn=>by
   have e1:=wib (n:=(i:Int)+1) (by omega) (by omega)
   have hd:A.drop i=A.getD i []::A.drop (i+1):=ybT [] (by omega)
   have ih:=yDx hl (WW:=WW) (WL:=WL) (x1:=x1) r (i+1) n (done++A.getD i []) (by omega) (by omega)
   rw [yaZ]
   dsimp only [lt,Go.Pf.jn]
   rw [cbT (by omega),ygc,asT (by omega),asT (by omega),Int.toNat_natCast,yov (by omega),asD,datD,yGU,yay,hd,yw4,List.flatten_cons,e1,cast1,ycf]
   generalize A.getD i []=a at ih
   have hlen:(rsp done++List.replicate (a.length+tot (A.drop (i+1))) zSp).length=done.length+(a.length+tot (A.drop (i+1))):=by
     rw [List.length_append,ycf,List.length_replicate]
   rw [asT rfl,asT (by rw [hlen];omega)]
   rw [show done++(a++(A.drop (i+1)).flatten)=(done++a)++(A.drop (i+1)).flatten from (List.append_assoc ..).symm]
   cases ha:a with
   | nil =>
     rw [ha,List.append_nil] at ih
     show cbr true _ _=_
     rw [yaf,asT rfl,List.append_nil,List.length_nil,Nat.zero_add]
     exact ih
   | cons b t =>
     rw [← ha]
     have hemp:List.isEmpty (rsp a)=false:=by rw [ha];rfl
     have hnew:List.take (0+done.length) (rsp done++List.replicate (a.length+tot (A.drop (i+1))) zSp)++(rsp a++List.drop (0+done.length+a.length) (rsp done++List.replicate (a.length+tot (A.drop (i+1))) zSp))=rsp (done++a)++List.replicate (tot (A.drop (i+1))) zSp:=by
       rw [Nat.zero_add,← yNd,List.take_append_of_le_length (by rw [ycf];omega),List.take_of_length_le (by rw [ycf];omega),List.drop_append,List.drop_of_length_le (by rw [ycf];omega),List.nil_append,ycf,show done.length+a.length-done.length=a.length by omega,List.drop_replicate,show a.length+tot (A.drop (i+1))-a.length=tot (A.drop (i+1)) by omega,List.append_assoc]
     have hlen2:(rsp (done++a)++List.replicate (tot (A.drop (i+1))) zSp).length=done.length+(a.length+tot (A.drop (i+1))):=by
       rw [List.length_append,ycf,List.length_append,List.length_replicate];omega
     rw [hemp,yaa,asT (by rw [hlen];omega),hnew,asT (by rw [hlen,hlen2])]
     rw [List.length_append] at ih
     exact ih
theorem yDy {len:Int} {l:List RS} (hs:∀ s∈l,smallS s) (hl:l.length<1000) {l1 l2 l3 l4:List PV} {x0:List PV→List PV→List PV→List PV→List PV→Int→Int→Nat→Int→Int→Bool→Prop} {x1:List PV→Bool→Prop} {K:Bool→Prop}
   (h0:∀ q:Rat,small q→x0 (rsp l) l1 l2 l3 l4 q.num q.den l.length (l.length:Int) (l.length:Int) false=K (decide (q<(len:Rat)))) (h1:x1 (rsp l) true=K true) :
   ∀ (r i n:Nat) (q:Rat),i+r=l.length→r<n→small q→ybu yak yad x0 x1 n (rsp l) l1 l2 l3 l4 q.num q.den l.length (l.length:Int) (i:Int)=K (gapS (len:Rat) (l.drop i) q)
 | 0,i,n+1,q,hi,hn,hq=>by
   rw [ybu,cbF (by omega),List.drop_of_length_le (by omega),show (i:Int)=l.length by omega,h0 q hq]
   rfl
 | r+1,i,n+1,q,hi,hn,hq=>by
   have e1:=wib (n:=(i:Int)+1) (by omega) (by omega)
   have hd:l.drop i=l.getD i default::l.drop (i+1):=ybT default (by omega)
   have hx:=yqY hs (show i<l.length by omega)
   have ih:=fun q hq=>yDy hs hl h0 h1 r (i+1) n q (by omega) (by omega) hq
   rw [ybu]
   dsimp only [lt,Go.Pf.jn]
   rw [cbT (by omega),asT (by omega),asT (by omega),ycf,asT rfl,Int.toNat_natCast,Nat.zero_add,asT (by omega),ymk (by omega),asR,encR0,encR1,encR2,encR3,ylI hq hx.1,hd,e1,cast1]
   generalize l.getD i default=t at hx
   unfold gapS
   by_cases hlt:q<t.1
   · rw [decide_eq_true hlt,yaf,if_pos hlt]
     exact h1
   · rw [decide_eq_false hlt,yaa,if_neg hlt,ylI hq hx.2]
     by_cases hlt2:q<t.2
     · rw [decide_eq_true hlt2,yaf,asT rfl,if_pos hlt2]
       exact ih t.2 hx.2
     · rw [decide_eq_false hlt2,yaa,asT rfl,if_neg hlt2]
       exact ih q hq
end
end Go.Pf.Vc
namespace Go.Pf.Vc
open Go Go.Pf
section
variable {cs:List Ck} {A:List (List RS)}
theorem yBm (hl:A.length≤6) (hz:∀ a∈A,a=[]) {WW WL} {x0:List PV→Int→Int→Bool→Prop} {x1:List PV→Nat→List PV→Int→Int→Bool→Prop} :
   ∀ (r i n:Nat),i+r=A.length→r<n→ybt WW WL x0 x1 n (rspL A) (A.length:Int) (i:Int)=x0 (rspL A) (A.length:Int) (A.length:Int) false
 | 0,i,n+1,hi,hn=>by
   rw [ybt,cbF (by omega),show (i:Int)=A.length by omega]
 | r+1,i,n+1,hi,hn=>by
   have e1:=wib (n:=(i:Int)+1) (by omega) (by omega)
   have hx:=hz _ (ybU [] (show i<A.length by omega))
   rw [ybt]
   dsimp only [lt,Go.Pf.jn]
   rw [cbT (by omega),ygc,asT (by omega),asT (by omega),Int.toNat_natCast,yov (by omega),asD,datD,hx,yGU,yay,e1,cast1]
   show cbr true _ _=_
   rw [yaf]
   exact yBm hl hz r (i+1) n (by omega) (by omega)
theorem yL2 (hl:A.length≤6) {WW WL} (x1:List PV→Nat→List PV→Int→Int→Bool→Prop):yaZ WW WL x1 (A.length+1) (List.replicate (tot A) zSp) 0 (rspL A) (A.length:Int) 0=x1 (rsp A.flatten) A.flatten.length (rspL A) (A.length:Int) (A.length:Int) false:=by
 have hg:=yDx (A:=A) hl (WW:=WW) (WL:=WL) (x1:=x1) A.length 0 (A.length+1) [] (by omega) (by omega)
 rw [List.drop_zero,List.nil_append] at hg
 exact hg
theorem DV.tot120 (h:DV cs A):tot A≤120:=by
 have h1:=yL1 h.m
 have h2:=h.l;have h3:=h.d.n6
 have:A.length*20≤6*20:=Nat.mul_le_mul_right _ (by omega)
 omega
theorem DV.flatS (h:DV cs A):∀ s∈A.flatten,smallS s:=fun s hs=>by
 obtain ⟨a,ha,hs⟩:=List.mem_flatten.1 hs
 exact (h.p a ha).s s hs
theorem DV.flatV (h:DV cs A):∀ s∈A.flatten,s.1<s.2:=fun s hs=>by
 obtain ⟨a,ha,hs⟩:=List.mem_flatten.1 hs
 exact yn3 (h.p a ha).c s hs
theorem DV.gap (h:DV cs A) (W PT:List PV):∃ l:List RS,l.Perm A.flatten∧byFrom l∧∀ K,yac (cks cs) (rspL A) W PT K=K (gapS ((cs.getD 0 default).len:Rat) l 0):=by
 have h6:=h.d.n6;have h1:=h.d.n0;have hl:=h.l;have l0:=h.len0;have ht:=h.tot120
 have hfS:=h.flatS
 have hfV:=h.flatV
 obtain ⟨m,p1,p2,p3⟩:=yKz ybe ych (l:=A.flatten.map spOf) (fun s hs=>by
   obtain ⟨r,hr,rfl⟩:=List.mem_map.1 hs
   exact yzC (hfS r hr) (hfV r hr))
 have hm:∀ s∈m,s.ok:=fun s hs=>by
   obtain ⟨r,hr,rfl⟩:=List.mem_map.1 (p1.mem_iff.1 hs)
   exact yzC (hfS r hr) (hfV r hr)
 have hp:(rsL m).Perm A.flatten:=by
   have:=p1.map Sp.rs
   rw [List.map_map] at this
   have e:A.flatten.map (Sp.rs ∘ spOf)=A.flatten:=by
     conv=>rhs;rw [← List.map_id A.flatten]
     exact List.map_congr_left fun r hr=>yJB (hfS r hr)
   rw [e] at this
   exact this
 have hb:byFrom (rsL m):=yDt (List.pairwise_map.2 p2)
 refine ⟨rsL m,hp,hb,fun K=>?_⟩
 refine ytC _ _ _ _ _ (fun K k=>?_) K
 have sl:small ((cs.getD 0 default).len:Rat):=ygF (by omega)
 have hfl:=yG2 A
 have hend:∀ (q:Rat),small q→asr (decide ((0:Int)<(((cks cs).length:Nat):Int))) (asr (conf (.agg [.i .i64,.d,.d]) (List.getD (cks cs) 0 .nils)) (yak (intOfV (cellAt (List.getD (cks cs) 0 .nils) 0)) fun a b=>yad q.num q.den a b fun b=>K b))=K (decide (q<((cs.getD 0 default).len:Rat))):=fun q hq=>by
   rw [yba,asT (by omega),yf1 (by omega),asCk,ck0,yiR,ylI hq sl]
 unfold yac yip
 dsimp only [Go.Pf.jn,lt]
 refine ⟨A.length+1,?_⟩
 rw [ygc]
 refine (yDw (by omega) h.m A.length 0 (A.length+1) 0 (by omega) (by omega) (by omega)).mpr ?_
 rw [List.drop_zero,Nat.zero_add,cbF (by omega)]
 have e2:=wib (n:=((tot A:Nat):Int)-0) (by omega) (by omega)
 rw [e2,show ((tot A:Nat):Int)-0=((tot A:Nat):Int) by omega]
 by_cases hz:tot A=0
 · have hze:∀ a∈A,a=[]:=fun a ha=>by
     have hfe:=List.eq_nil_of_length_eq_zero (hfl.trans hz)
     exact List.flatten_eq_nil_iff.1 hfe a ha
   have hml:rsL m=[]:=List.eq_nil_of_length_eq_zero (by rw [hp.length_eq,hfl,hz])
   rw [hml] at k
   rw [cbF (by omega)]
   refine ⟨A.length+1,?_⟩
   rw [ygc]
   refine (yBm (by omega) hze A.length 0 (A.length+1) (by omega) (by omega)).mpr ?_
   rw [yiR]
   refine ⟨1,?_⟩
   rw [ydc,cbF (by omega)]
   exact (hend 0 yis).mpr k
 · rw [cbT (by omega),asT (by omega),Int.toNat_natCast,cbF (by omega),List.length_replicate,asT (by unfold room;omega)]
   have hor:(decide ((0:Int)≤((tot A:Nat):Int))||decide ((0:Int)≤((tot A:Nat):Int)))=true:=by rw [decide_eq_true (by omega)];rfl
   rw [hor,yay,asT rfl]
   refine ⟨A.length+1,?_⟩
   rw [ygc]
   refine (yL2 (by omega) _).mpr ?_
   have hcond:Srt.cond yrj.s (rsp A.flatten) 0 A.flatten.length (rsp A.flatten).length 4 false=true:=by
     obtain ⟨d,hd⟩:∃ d,(yrj).s.rows? (rsp A.flatten)=some d:=yx9 fun y hy=>by
       obtain ⟨s,h4,rfl⟩:=List.mem_map.1 hy
       obtain ⟨q,hq,rfl⟩:=List.mem_map.1 h4
       exact yLP _ _ (yzC (hfS q hq) (hfV q hq))
     unfold Srt.cond
     rw [List.drop_zero,show List.take A.flatten.length (rsp A.flatten)=rsp A.flatten by rw [← ycf,List.take_length],hd,ycf]
     simp only [decide_true,Bool.true_and,Bool.not_false,Option.isSome_some,Bool.and_true,Bool.and_eq_true,decide_eq_true_eq,Nat.zero_add,Nat.le_refl]
     exact ⟨by omega,rfl,by omega⟩
   rw [hcond,yay,yiR]
   have hsrt:Srt.sorted yrj.s yrj.srt (rsp A.flatten)=rsp (rsL m):=by
     rw [show rsp A.flatten=spans (A.flatten.map spOf) from rfl,← yDs hm]
     exact p3
   have hlm:(rsL m).length=A.flatten.length:=hp.length_eq
   have htk:List.take A.flatten.length (rsp A.flatten)=rsp A.flatten:=by rw [← ycf,List.take_length]
   have hdp:List.drop A.flatten.length (rsp A.flatten)=[]:=by rw [← ycf,List.drop_length]
   rw [List.take_zero,List.drop_zero,htk,hsrt,List.nil_append,Nat.zero_add,hdp,List.append_nil,ycf,ycf,asT (by rw [hlm]),← hlm]
   refine ⟨(rsL m).length+1,?_⟩
   have hms:∀ s∈rsL m,smallS s:=fun s hs=>hfS s (hp.mem_iff.1 hs)
   have h2:=yDy (len:=(cs.getD 0 default).len) (l:=rsL m) hms (by omega) (l1:=cks cs) (l2:=rspL A) (l3:=W) (l4:=PT) (K:=K)
     (x0:=fun _ l _ _ _ a b _ _ _ _=>asr (decide ((0:Int)<(((List.length l):Nat):Int))) (asr (conf (.agg [.i .i64,.d,.d]) (List.getD l 0 .nils)) (yak (intOfV (cellAt (List.getD l 0 .nils) 0)) fun c d=>yad a b c d fun b=>K b))) (x1:=fun _ b=>K b)
     (fun q hq=>hend q hq) rfl (rsL m).length 0 ((rsL m).length+1) 0 (by omega) (by omega) yis
   refine h2.mpr ?_
   rw [List.drop_zero]
   exact k
end
end Go.Pf.Vc
namespace Go.Pf.Vc
open Go Go.Pf
def scanB (f:Nat→Bool):Nat→Nat→Option Nat
 | 0,_=>none
 | r+1,i=>if f i then some i else scanB f r (i+1)
def scanA (f:Nat→Nat→Bool) (n:Nat):Nat→Nat→Option (Nat×Nat)
 | 0,_=>none
 | r+1,i=>match scanB (f i) n 0 with
   | some j=>some (i,j)
   | none=>scanA f n r (i+1)
theorem ylJ (cs:List Ck) (A:List (List RS)):(tabW cs A).length=cs.length:=List.length_map ..
theorem yq0 {cs:List Ck} {A:List (List RS)} {i:Nat} (h:i<cs.length):List.getD (tabW cs A) i .nils=.data (rts (A.map (wV (cs.getD i default)))):=by
 unfold tabW
 rw [List.getD_eq_getElem?_getD,List.getD_eq_getElem?_getD,List.getElem?_map,List.getElem?_eq_getElem h]
 rfl
theorem yq1 {c:Ck} {A:List (List RS)} {i:Nat} (h:i<A.length):(A.map (wV c)).getD i 0=wV c (A.getD i []):=by
 rw [List.getD_eq_getElem?_getD,List.getD_eq_getElem?_getD,List.getElem?_map,List.getElem?_eq_getElem h]
 rfl
def wr0 (A:List (List RS)) (a b:Nat):Bool:=decide (a<b)&&touchB (A.getD a []) (A.getD b [])
def shareQ (cs:List Ck) (a:Nat):Rat:=((totC (cs.getD a default).cuts (cs.getD a default).dens:Int):Rat) / ((cs.length:Int):Rat)
def wr1 (cs:List Ck) (A:List (List RS)) (a b:Nat):Bool:=decide (a=b)&&decide (wV (cs.getD a default) (A.getD a [])<shareQ cs a)
def wr2 (cs:List Ck) (A:List (List RS)) (a b:Nat):Bool:=decide (wV (cs.getD a default) (A.getD a [])<wV (cs.getD a default) (A.getD b []))
def wr3 (P:List Rat) (a b:Nat):Bool:=decide (b=0)&&!decide (P.getD a 0=P.getD 0 0)
def wr4 (A:List (List RS)) (a b:Nat):Bool:=decide (a=b)&&decide ((A.getD a []).length≠1)
section
variable {cs:List Ck} {A:List (List RS)}
theorem DV.small (h:DV cs A) (hw:∀ c∈cs,∀ a∈A,small (wV c a)) {i j:Nat} (hi:i<cs.length) (hj:j<cs.length):Go.Pf.Vc.small (wV (cs.getD i default) (A.getD j [])) :=
 hw _ (ybU _ hi) _ (ybU _ (by rw [h.l];exact hj))
theorem yFg (a b:Nat):(((a:Int)) ==(b:Int))=decide (a=b):=by
 rw [Bool.eq_iff_iff,beq_iff_eq,decide_eq_true_eq];omega
theorem yG3 {c:Ck} {n:Nat} (hc:c.ok) (h1:1≤n) (h6:n≤6):small (((totC c.cuts c.dens:Int):Rat) / ((n:Int):Rat)):=by
 have:=ykP hc
 exact smallF (by omega) (by omega) (by omega) (by omega)
theorem step0 (h:DV cs A) {l2 l3 l4 l5 l6 l7:List PV} {i9 i10:Int} {x0:List PV→List PV→List PV→List PV→List PV→List PV→List PV→List PV→Int→Int→Int→Int→Int→Bool→Prop} {x1:List PV→List PV→List PV→List PV→Int→Int→Bool→Prop} {a j n:Nat} (ha:a<cs.length) (hj:j<cs.length) :
   yaI yah yac yae yaj yad x0 x1 (n+1) (cks cs) (rspL A) l2 l3 l4 l5 l6 l7 (a:Int) i9 i10 (cs.length:Int) (j:Int)=cbr (wr0 A a j) (x1 (cks cs) (rspL A) l2 l3 (a:Int) (j:Int) true) (yaI yah yac yae yaj yad x0 x1 n (cks cs) (rspL A) l2 l3 l4 l5 l6 l7 (a:Int) i9 i10 (cs.length:Int) ((j+1:Nat):Int)):=by
   have h6:=h.d.n6;have h1:=h.d.n0;have hl:=h.l
   have e1:=wib (n:=(j:Int)+1) (by omega) (by omega)
   rw [yaI,cbT (by omega)]
   dsimp only [lt,Go.Pf.jn]
   have ja:=h.p _ (ybU [] (show a<A.length by omega))
   have jb:=h.p _ (ybU [] (show j<A.length by omega))
   have na:=ja.n
   have nb:=jb.n
   unfold wr0
   by_cases hlt:a<j
   · rw [decide_eq_true hlt,cbT (by omega),ygc,asT (by omega),asT (by omega),Int.toNat_natCast,yov (by omega),asD,asT (by omega),asT (by omega),Int.toNat_natCast,yov (by omega),asD,datD,datD,yL0 ja.s jb.s (by omega) (by omega),Bool.true_and,e1,cast1]
   · rw [decide_eq_false hlt,cbF (by omega),Bool.false_and,e1,cast1]
theorem step1 (h:DV cs A) (hw:∀ c∈cs,∀ a∈A,small (wV c a)) {l3 l4 l5 l6 l7:List PV} {i9 i10:Int} {x0:List PV→List PV→List PV→List PV→List PV→List PV→List PV→List PV→Int→Int→Int→Int→Int→Bool→Prop} {x1:List PV→List PV→List PV→List PV→Int→Int→Bool→Prop} {a j n:Nat} (ha:a<cs.length) (hj:j<cs.length) :
   yaJ yah yac yae yaj yad x1 x0 (n+1) (cks cs) (rspL A) (tabW cs A) l3 l4 l5 l6 l7 (a:Int) i9 i10 (cs.length:Int) (j:Int)=cbr (wr1 cs A a j) (x1 (cks cs) (rspL A) (tabW cs A) l3 (a:Int) (j:Int) true) (yaJ yah yac yae yaj yad x1 x0 n (cks cs) (rspL A) (tabW cs A) l3 l4 l5 l6 l7 (a:Int) i9 i10 (cs.length:Int) ((j+1:Nat):Int)):=by
   have h6:=h.d.n6;have h1:=h.d.n0;have hl:=h.l
   have e1:=wib (n:=(j:Int)+1) (by omega) (by omega)
   rw [yaJ,cbT (by omega)]
   dsimp only [lt,Go.Pf.jn]
   have hok:=(h.d.ok a ha)
   have l1:=hok.l1;have l2:=hok.l2
   have hto:=ykP hok
   have hT:I64 (totC (cs.getD a default).cuts (cs.getD a default).dens):=by constructor <;> omega
   have hN:I64 (cs.length:Int):=by constructor <;> omega
   have hss:small (shareQ cs a):=yG3 hok h1 h6
   rw [asT (by omega),yba,asT (by omega),Int.toNat_natCast,yf1 ha,asCk,ck0,ck1,ck2,yDj (by omega) (by omega),if_pos hok.ck,yLE hT hN (by omega)]
   unfold shareQ at hss
   unfold fitK
   rw [if_pos hss]
   dsimp only
   rw [yFg,e1,cast1]
   unfold wr1 shareQ
   by_cases hab:a=j
   · rw [decide_eq_true hab,yaf,asT (by omega),ylJ,asT (by omega),yq0 ha,asD,asT (by omega),datD,ygX,List.length_map,asT (by omega),yn2 (by rw [List.length_map];omega),asW,encW0,encW1,yq1 (by omega),Bool.true_and]
     rw [ylI (h.small hw ha ha) hss]
   · rw [decide_eq_false hab,yaa,Bool.false_and]
theorem step2 (h:DV cs A) (hw:∀ c∈cs,∀ a∈A,small (wV c a)) {l3 l4 l5 l6 l7:List PV} {i9 i10:Int} {x0:List PV→List PV→List PV→List PV→List PV→List PV→List PV→List PV→Int→Int→Int→Int→Int→Bool→Prop} {x1:List PV→List PV→List PV→List PV→Int→Int→Bool→Prop} {a j n:Nat} (ha:a<cs.length) (hj:j<cs.length) :
   yaK yah yac yae yaj yad x1 x0 (n+1) (cks cs) (rspL A) (tabW cs A) l3 l4 l5 l6 l7 (a:Int) i9 i10 (cs.length:Int) (j:Int)=cbr (wr2 cs A a j) (x1 (cks cs) (rspL A) (tabW cs A) l3 (a:Int) (j:Int) true) (yaK yah yac yae yaj yad x1 x0 n (cks cs) (rspL A) (tabW cs A) l3 l4 l5 l6 l7 (a:Int) i9 i10 (cs.length:Int) ((j+1:Nat):Int)):=by
   have h6:=h.d.n6;have h1:=h.d.n0;have hl:=h.l
   have e1:=wib (n:=(j:Int)+1) (by omega) (by omega)
   rw [yaK,cbT (by omega)]
   dsimp only [lt,Go.Pf.jn]
   unfold wr2
   rw [asT (by omega),ylJ,asT (by omega),Int.toNat_natCast,yq0 ha,asD,asT (by omega),datD,ygX,List.length_map,asT (by omega),yn2 (by rw [List.length_map];omega),asW,asT (by omega),asT (by omega),asT (by omega),asT (by omega),Int.toNat_natCast,yn2 (by rw [List.length_map];omega),asW,encW0,encW1,encW0,encW1,yq1 (by omega),yq1 (by omega),ylI (h.small hw ha ha) (h.small hw ha hj),e1,cast1,asD]
theorem step3 (h:DV cs A) {P:List Rat} (hP:P.length=cs.length) {l2 l4 l5 l6 l7:List PV} {i9 i10:Int} {x0:List PV→List PV→List PV→List PV→List PV→List PV→List PV→List PV→Int→Int→Int→Int→Int→Bool→Prop} {x1:List PV→List PV→List PV→List PV→Int→Int→Bool→Prop} {a j n:Nat} (ha:a<cs.length) (hj:j<cs.length) :
   yaL yah yac yae yaj yad x1 x0 (n+1) (cks cs) (rspL A) l2 (rts P) l4 l5 l6 l7 (a:Int) i9 i10 (cs.length:Int) (j:Int)=cbr (wr3 P a j) (x1 (cks cs) (rspL A) l2 (rts P) (a:Int) (j:Int) true) (yaL yah yac yae yaj yad x1 x0 n (cks cs) (rspL A) l2 (rts P) l4 l5 l6 l7 (a:Int) i9 i10 (cs.length:Int) ((j+1:Nat):Int)):=by
   have h6:=h.d.n6;have h1:=h.d.n0;have hl:=h.l
   have e1:=wib (n:=(j:Int)+1) (by omega) (by omega)
   rw [yaL,cbT (by omega)]
   dsimp only [lt,Go.Pf.jn]
   unfold wr3
   rw [show ((j:Int) ==(0:Int))=decide (j=0) from yFg j 0,e1,cast1]
   by_cases hab:j=0
   · rw [decide_eq_true hab,yaf,asT (by omega),ygX,asT (by omega),Int.toNat_natCast,yn2 (by omega),asW,asT (by omega),yn2 (by omega),asW,encW0,encW1,encW0,encW1,ratEq,Bool.true_and]
   · rw [decide_eq_false hab,yaa,Bool.false_and]
theorem step4 (h:DV cs A) {l2 l3 l4 l5 l6 l7:List PV} {i9 i10:Int} {x0:List PV→List PV→List PV→List PV→List PV→List PV→List PV→List PV→Int→Int→Int→Int→Int→Bool→Prop} {x1:List PV→List PV→List PV→List PV→Int→Int→Bool→Prop} {a j n:Nat} (_:a<cs.length) (hj:j<cs.length) :
   yaM yah yac yae yaj yad x1 x0 (n+1) (cks cs) (rspL A) l2 l3 l4 l5 l6 l7 (a:Int) i9 i10 (cs.length:Int) (j:Int)=cbr (wr4 A a j) (x1 (cks cs) (rspL A) l2 l3 (a:Int) (j:Int) true) (yaM yah yac yae yaj yad x1 x0 n (cks cs) (rspL A) l2 l3 l4 l5 l6 l7 (a:Int) i9 i10 (cs.length:Int) ((j+1:Nat):Int)):=by
   have h6:=h.d.n6;have h1:=h.d.n0;have hl:=h.l
   have e1:=wib (n:=(j:Int)+1) (by omega) (by omega)
   rw [yaM,cbT (by omega)]
   dsimp only [lt,Go.Pf.jn]
   unfold wr4
   rw [yFg,e1,cast1]
   by_cases hab:a=j
   · have hne:((((A.getD a []).length:Nat):Int) !=(1:Int))=decide ((A.getD a []).length≠1):=by
       rw [Bool.eq_iff_iff,bne_iff_ne,decide_eq_true_eq];omega
     rw [decide_eq_true hab,yaf,asT (by omega),ygc,asT (by omega),Int.toNat_natCast,yov (by omega),asD,datD,ycf,hne,Bool.true_and]
   · rw [decide_eq_false hab,yaa,Bool.false_and]
end
end Go.Pf.Vc
namespace Go.Pf.Vc
open Go Go.Pf
def onB (X:Nat→Prop) (Y:Prop):Option Nat→Prop
 | some j=>X j
 | none=>Y
def onA (X:Nat→Nat→Prop) (Y:Prop):Option (Nat×Nat)→Prop
 | some (a,b)=>X a b
 | none=>Y
theorem ys8 {f:Nat→Bool} {N:Nat} {L:Nat→Nat→Prop} {X:Nat→Prop} {Y:Prop} (hs:∀ n j,j<N→L (n+1) j=cbr (f j) (X j) (L n (j+1))) (he:∀ n,L (n+1) N=Y) :
   ∀ (r j n:Nat),j+r=N→r<n→L n j=onB X Y (scanB f r j)
 | 0,j,n+1,hj,_=>by
   obtain rfl:j=N:=by omega
   rw [he];rfl
 | r+1,j,n+1,hj,hn=>by
   rw [hs n j (by omega),scanB]
   cases f j with
   | true=>rw [yaf];rfl
   | false=>rw [yaa];exact ys8 hs he r (j+1) n (by omega) (by omega)
theorem ypG {f:Nat→Nat→Bool} {N:Nat} {L:Nat→Nat→Prop} {X:Nat→Nat→Prop} {Y:Prop} (hs:∀ n a,a<N→onB (X a) (L n (a+1)) (scanB (f a) N 0)→L (n+1) a) (he:∀ n,Y→L (n+1) N) :
   ∀ (r a n:Nat),a+r=N→r<n→onA X Y (scanA f N r a)→L n a
 | 0,a,n+1,ha,_,h=>by
   obtain rfl:a=N:=by omega
   exact he n h
 | r+1,a,n+1,ha,hn,h=>by
   refine hs n a (by omega) ?_
   rw [scanA] at h
   cases hb:scanB (f a) N 0 with
   | some j=>rw [hb] at h;exact h
   | none=>rw [hb] at h;exact ypG hs he r (a+1) n (by omega) (by omega) h
section
variable {cs:List Ck} {A:List (List RS)}
theorem scan0 (h:DV cs A) {l2 l3:List PV} {x0:List PV→List PV→List PV→List PV→List PV→List PV→List PV→List PV→Int→Int→Bool→Prop} {x1:List PV→List PV→List PV→List PV→Int→Int→Bool→Prop} :
   ∀ (r a n:Nat),a+r=cs.length→r<n→onA (fun a b=>x1 (cks cs) (rspL A) l2 l3 (a:Int) (b:Int) true) (x0 (cks cs) (rspL A) l2 l3 (cks cs) (rspL A) l2 l3 (cs.length:Int) (cs.length:Int) false) (scanA (wr0 A) cs.length r a)→yaN yah yac yae yaj yad x0 x1 n (cks cs) (rspL A) l2 l3 (cks cs) (rspL A) l2 l3 (cs.length:Int) (a:Int):=by
 have h6:=h.d.n6
 refine ypG (L:=fun n a=>yaN yah yac yae yaj yad x0 x1 n (cks cs) (rspL A) l2 l3 (cks cs) (rspL A) l2 l3 (cs.length:Int) (a:Int)) (fun n a ha hb=>?_) (fun n hy=>?_)
 · have e1:=wib (n:=(a:Int)+1) (by omega) (by omega)
   show yaN yah yac yae yaj yad x0 x1 (n+1) (cks cs) (rspL A) l2 l3 (cks cs) (rspL A) l2 l3 (cs.length:Int) (a:Int)
   rw [yaN,cbT (by omega),yba]
   dsimp only [lt,Go.Pf.jn]
   refine ⟨cs.length+1,?_⟩
   refine (ys8 (f:=(wr0 A) a) (N:=cs.length) (L:=fun n j=>yaI yah yac yae yaj yad _ _ n (cks cs) (rspL A) l2 l3 (cks cs) (rspL A) l2 l3 (a:Int) (cs.length:Int) (a:Int) (cs.length:Int) (j:Int)) (fun n j hj=>step0 h ha hj) (fun n=>?_) cs.length 0 (cs.length+1) (by omega) (by omega)).mpr hb
   show yaI yah yac yae yaj yad _ _ (n+1) (cks cs) (rspL A) l2 l3 (cks cs) (rspL A) l2 l3 (a:Int) (cs.length:Int) (a:Int) (cs.length:Int) (cs.length:Int)=_
   rw [yaI,cbF (by omega),e1,cast1]
 · show yaN yah yac yae yaj yad x0 x1 (n+1) (cks cs) (rspL A) l2 l3 (cks cs) (rspL A) l2 l3 (cs.length:Int) (cs.length:Int)
   rw [yaN,cbF (by omega)]
   exact hy
theorem scan1 (h:DV cs A) (hw:∀ c∈cs,∀ a∈A,small (wV c a)) {l3:List PV} {x0:List PV→List PV→List PV→List PV→List PV→List PV→List PV→List PV→Int→Int→Bool→Prop} {x1:List PV→List PV→List PV→List PV→Int→Int→Bool→Prop} :
   ∀ (r a n:Nat),a+r=cs.length→r<n→onA (fun a b=>x1 (cks cs) (rspL A) (tabW cs A) l3 (a:Int) (b:Int) true) (x0 (cks cs) (rspL A) (tabW cs A) l3 (cks cs) (rspL A) (tabW cs A) l3 (cs.length:Int) (cs.length:Int) false) (scanA (wr1 cs A) cs.length r a)→yaO yah yac yae yaj yad x1 x0 n (cks cs) (rspL A) (tabW cs A) l3 (cks cs) (rspL A) (tabW cs A) l3 (cs.length:Int) (a:Int):=by
 have h6:=h.d.n6
 refine ypG (L:=fun n a=>yaO yah yac yae yaj yad x1 x0 n (cks cs) (rspL A) (tabW cs A) l3 (cks cs) (rspL A) (tabW cs A) l3 (cs.length:Int) (a:Int)) (fun n a ha hb=>?_) (fun n hy=>?_)
 · have e1:=wib (n:=(a:Int)+1) (by omega) (by omega)
   show yaO yah yac yae yaj yad x1 x0 (n+1) (cks cs) (rspL A) (tabW cs A) l3 (cks cs) (rspL A) (tabW cs A) l3 (cs.length:Int) (a:Int)
   rw [yaO,cbT (by omega),yba]
   dsimp only [lt,Go.Pf.jn]
   refine ⟨cs.length+1,?_⟩
   refine (ys8 (f:=(wr1 cs A) a) (N:=cs.length) (L:=fun n j=>yaJ yah yac yae yaj yad _ _ n (cks cs) (rspL A) (tabW cs A) l3 (cks cs) (rspL A) (tabW cs A) l3 (a:Int) (cs.length:Int) (a:Int) (cs.length:Int) (j:Int)) (fun n j hj=>step1 h hw ha hj) (fun n=>?_) cs.length 0 (cs.length+1) (by omega) (by omega)).mpr hb
   show yaJ yah yac yae yaj yad _ _ (n+1) (cks cs) (rspL A) (tabW cs A) l3 (cks cs) (rspL A) (tabW cs A) l3 (a:Int) (cs.length:Int) (a:Int) (cs.length:Int) (cs.length:Int)=_
   rw [yaJ,cbF (by omega),e1,cast1]
 · show yaO yah yac yae yaj yad x1 x0 (n+1) (cks cs) (rspL A) (tabW cs A) l3 (cks cs) (rspL A) (tabW cs A) l3 (cs.length:Int) (cs.length:Int)
   rw [yaO,cbF (by omega)]
   exact hy
theorem scan2 (h:DV cs A) (hw:∀ c∈cs,∀ a∈A,small (wV c a)) {l3:List PV} {x0:List PV→List PV→List PV→List PV→List PV→List PV→List PV→List PV→Int→Int→Bool→Prop} {x1:List PV→List PV→List PV→List PV→Int→Int→Bool→Prop} :
   ∀ (r a n:Nat),a+r=cs.length→r<n→onA (fun a b=>x1 (cks cs) (rspL A) (tabW cs A) l3 (a:Int) (b:Int) true) (x0 (cks cs) (rspL A) (tabW cs A) l3 (cks cs) (rspL A) (tabW cs A) l3 (cs.length:Int) (cs.length:Int) false) (scanA (wr2 cs A) cs.length r a)→yaP yah yac yae yaj yad x1 x0 n (cks cs) (rspL A) (tabW cs A) l3 (cks cs) (rspL A) (tabW cs A) l3 (cs.length:Int) (a:Int):=by
 have h6:=h.d.n6
 refine ypG (L:=fun n a=>yaP yah yac yae yaj yad x1 x0 n (cks cs) (rspL A) (tabW cs A) l3 (cks cs) (rspL A) (tabW cs A) l3 (cs.length:Int) (a:Int)) (fun n a ha hb=>?_) (fun n hy=>?_)
 · have e1:=wib (n:=(a:Int)+1) (by omega) (by omega)
   show yaP yah yac yae yaj yad x1 x0 (n+1) (cks cs) (rspL A) (tabW cs A) l3 (cks cs) (rspL A) (tabW cs A) l3 (cs.length:Int) (a:Int)
   rw [yaP,cbT (by omega),yba]
   dsimp only [lt,Go.Pf.jn]
   refine ⟨cs.length+1,?_⟩
   refine (ys8 (f:=(wr2 cs A) a) (N:=cs.length) (L:=fun n j=>yaK yah yac yae yaj yad _ _ n (cks cs) (rspL A) (tabW cs A) l3 (cks cs) (rspL A) (tabW cs A) l3 (a:Int) (cs.length:Int) (a:Int) (cs.length:Int) (j:Int)) (fun n j hj=>step2 h hw ha hj) (fun n=>?_) cs.length 0 (cs.length+1) (by omega) (by omega)).mpr hb
   show yaK yah yac yae yaj yad _ _ (n+1) (cks cs) (rspL A) (tabW cs A) l3 (cks cs) (rspL A) (tabW cs A) l3 (a:Int) (cs.length:Int) (a:Int) (cs.length:Int) (cs.length:Int)=_
   rw [yaK,cbF (by omega),e1,cast1]
 · show yaP yah yac yae yaj yad x1 x0 (n+1) (cks cs) (rspL A) (tabW cs A) l3 (cks cs) (rspL A) (tabW cs A) l3 (cs.length:Int) (cs.length:Int)
   rw [yaP,cbF (by omega)]
   exact hy
theorem scan3 (h:DV cs A) {P:List Rat} (hP:P.length=cs.length) {l2:List PV} {x0:List PV→List PV→List PV→List PV→List PV→List PV→List PV→List PV→Int→Int→Bool→Prop} {x1:List PV→List PV→List PV→List PV→Int→Int→Bool→Prop} :
   ∀ (r a n:Nat),a+r=cs.length→r<n→onA (fun a b=>x1 (cks cs) (rspL A) l2 (rts P) (a:Int) (b:Int) true) (x0 (cks cs) (rspL A) l2 (rts P) (cks cs) (rspL A) l2 (rts P) (cs.length:Int) (cs.length:Int) false) (scanA (wr3 P) cs.length r a)→yaQ yah yac yae yaj yad x1 x0 n (cks cs) (rspL A) l2 (rts P) (cks cs) (rspL A) l2 (rts P) (cs.length:Int) (a:Int):=by
 have h6:=h.d.n6
 refine ypG (L:=fun n a=>yaQ yah yac yae yaj yad x1 x0 n (cks cs) (rspL A) l2 (rts P) (cks cs) (rspL A) l2 (rts P) (cs.length:Int) (a:Int)) (fun n a ha hb=>?_) (fun n hy=>?_)
 · have e1:=wib (n:=(a:Int)+1) (by omega) (by omega)
   show yaQ yah yac yae yaj yad x1 x0 (n+1) (cks cs) (rspL A) l2 (rts P) (cks cs) (rspL A) l2 (rts P) (cs.length:Int) (a:Int)
   rw [yaQ,cbT (by omega),yba]
   dsimp only [lt,Go.Pf.jn]
   refine ⟨cs.length+1,?_⟩
   refine (ys8 (f:=(wr3 P) a) (N:=cs.length) (L:=fun n j=>yaL yah yac yae yaj yad _ _ n (cks cs) (rspL A) l2 (rts P) (cks cs) (rspL A) l2 (rts P) (a:Int) (cs.length:Int) (a:Int) (cs.length:Int) (j:Int)) (fun n j hj=>step3 h hP ha hj) (fun n=>?_) cs.length 0 (cs.length+1) (by omega) (by omega)).mpr hb
   show yaL yah yac yae yaj yad _ _ (n+1) (cks cs) (rspL A) l2 (rts P) (cks cs) (rspL A) l2 (rts P) (a:Int) (cs.length:Int) (a:Int) (cs.length:Int) (cs.length:Int)=_
   rw [yaL,cbF (by omega),e1,cast1]
 · show yaQ yah yac yae yaj yad x1 x0 (n+1) (cks cs) (rspL A) l2 (rts P) (cks cs) (rspL A) l2 (rts P) (cs.length:Int) (cs.length:Int)
   rw [yaQ,cbF (by omega)]
   exact hy
theorem scan4 (h:DV cs A) {l2 l3:List PV} {x0:List PV→List PV→List PV→List PV→List PV→List PV→List PV→List PV→Int→Int→Bool→Prop} {x1:List PV→List PV→List PV→List PV→Int→Int→Bool→Prop} :
   ∀ (r a n:Nat),a+r=cs.length→r<n→onA (fun a b=>x1 (cks cs) (rspL A) l2 l3 (a:Int) (b:Int) true) (x0 (cks cs) (rspL A) l2 l3 (cks cs) (rspL A) l2 l3 (cs.length:Int) (cs.length:Int) false) (scanA (wr4 A) cs.length r a)→yaR yah yac yae yaj yad x1 x0 n (cks cs) (rspL A) l2 l3 (cks cs) (rspL A) l2 l3 (cs.length:Int) (a:Int):=by
 have h6:=h.d.n6
 refine ypG (L:=fun n a=>yaR yah yac yae yaj yad x1 x0 n (cks cs) (rspL A) l2 l3 (cks cs) (rspL A) l2 l3 (cs.length:Int) (a:Int)) (fun n a ha hb=>?_) (fun n hy=>?_)
 · have e1:=wib (n:=(a:Int)+1) (by omega) (by omega)
   show yaR yah yac yae yaj yad x1 x0 (n+1) (cks cs) (rspL A) l2 l3 (cks cs) (rspL A) l2 l3 (cs.length:Int) (a:Int)
   rw [yaR,cbT (by omega),yba]
   dsimp only [lt,Go.Pf.jn]
   refine ⟨cs.length+1,?_⟩
   refine (ys8 (f:=(wr4 A) a) (N:=cs.length) (L:=fun n j=>yaM yah yac yae yaj yad _ _ n (cks cs) (rspL A) l2 l3 (cks cs) (rspL A) l2 l3 (a:Int) (cs.length:Int) (a:Int) (cs.length:Int) (j:Int)) (fun n j hj=>step4 h ha hj) (fun n=>?_) cs.length 0 (cs.length+1) (by omega) (by omega)).mpr hb
   show yaM yah yac yae yaj yad _ _ (n+1) (cks cs) (rspL A) l2 l3 (cks cs) (rspL A) l2 l3 (a:Int) (cs.length:Int) (a:Int) (cs.length:Int) (cs.length:Int)=_
   rw [yaM,cbF (by omega),e1,cast1]
 · show yaR yah yac yae yaj yad x1 x0 (n+1) (cks cs) (rspL A) l2 l3 (cks cs) (rspL A) l2 l3 (cs.length:Int) (cs.length:Int)
   rw [yaR,cbF (by omega)]
   exact hy
end
end Go.Pf.Vc
namespace Go.Pf.Vc
open Go Go.Pf
def outS3:Option (Nat×Nat)→Int×Int×Bool
 | some (a,b)=>(a,b,true)
 | none=>(0,0,false)
def brk (cs:List Ck) (A:List (List RS)) (P:List Rat) (g:Bool) (c:Int):Int×Int×Bool :=
 if c=1 then (match scanA (wr0 A) cs.length cs.length 0 with
   | some (a,b)=>(a,b,true)
   | none=>if g then (-1,-1,true) else (0,0,false))
 else if c=2 then outS3 (scanA (wr1 cs A) cs.length cs.length 0)
 else if c=4 then outS3 (scanA (wr2 cs A) cs.length cs.length 0)
 else if c=8 then outS3 (scanA (wr3 P) cs.length cs.length 0)
 else outS3 (scanA (wr4 A) cs.length cs.length 0)
theorem yyc {cs:List Ck} {A:List (List RS)} (h:DV cs A) (hw:∀ c∈cs,∀ a∈A,small (wV c a)) {P:List Rat} {c:Int} (hP:c=8→P.length=cs.length) (hc:c=1∨c=2∨c=4∨c=8∨c=16) {g:Bool}
   (hg:∀ K,yac (cks cs) (rspL A) (tabW cs A) (rts P) K=K g) (K:Int→Int→Bool→Prop) :
   yal (cks cs) (rspL A) (tabW cs A) (rts P) c K=K (brk cs A P g c).1 (brk cs A P g c).2.1 (brk cs A P g c).2.2:=by
 refine yqO _ _ _ _ _ _ _ _ (fun K k=>?_) K
 unfold yal ygN
 dsimp only [Go.Pf.jn]
 rcases hc with rfl | rfl | rfl | rfl | rfl
 · show cbr true _ _
   rw [yaf]
   refine ⟨cs.length+1,?_⟩
   rw [yba]
   refine scan0 h cs.length 0 (cs.length+1) (by omega) (by omega) ?_
   have k:K (match scanA (wr0 A) cs.length cs.length 0 with | some (a,b)=>((a:Int),(b:Int),true) | none=>if g then (-1,-1,true) else (0,0,false)).1 (match scanA (wr0 A) cs.length cs.length 0 with | some (a,b)=>((a:Int),(b:Int),true) | none=>if g then (-1,-1,true) else (0,0,false)).2.1 (match scanA (wr0 A) cs.length cs.length 0 with | some (a,b)=>((a:Int),(b:Int),true) | none=>if g then (-1,-1,true) else (0,0,false)).2.2:=k
   cases hs:scanA (wr0 A) cs.length cs.length 0 with
   | some q =>
     rw [hs] at k
     exact k
   | none =>
     rw [hs] at k
     dsimp only [onA,Bool.not_false]
     rw [show (!false)=true from rfl,yaf,hg]
     cases g with
     | true=>exact k
     | false=>exact k
 · show cbr false _ (cbr true _ _)
   rw [yaa,yaf]
   refine ⟨cs.length+1,?_⟩
   rw [yba]
   refine scan1 h hw cs.length 0 (cs.length+1) (by omega) (by omega) ?_
   have k:K (outS3 (scanA (wr1 cs A) cs.length cs.length 0)).1 (outS3 (scanA (wr1 cs A) cs.length cs.length 0)).2.1 (outS3 (scanA (wr1 cs A) cs.length cs.length 0)).2.2:=k
   cases hs:scanA (wr1 cs A) cs.length cs.length 0 <;> (rw [hs] at k;exact k)
 · show cbr false _ (cbr false _ (cbr true _ _))
   rw [yaa,yaa,yaf]
   refine ⟨cs.length+1,?_⟩
   rw [yba]
   refine scan2 h hw cs.length 0 (cs.length+1) (by omega) (by omega) ?_
   have k:K (outS3 (scanA (wr2 cs A) cs.length cs.length 0)).1 (outS3 (scanA (wr2 cs A) cs.length cs.length 0)).2.1 (outS3 (scanA (wr2 cs A) cs.length cs.length 0)).2.2:=k
   cases hs:scanA (wr2 cs A) cs.length cs.length 0 <;> (rw [hs] at k;exact k)
 · show cbr false _ (cbr false _ (cbr false _ (cbr true _ _)))
   rw [yaa,yaa,yaa,yaf]
   refine ⟨cs.length+1,?_⟩
   rw [yba]
   refine scan3 h (hP rfl) cs.length 0 (cs.length+1) (by omega) (by omega) ?_
   have k:K (outS3 (scanA (wr3 P) cs.length cs.length 0)).1 (outS3 (scanA (wr3 P) cs.length cs.length 0)).2.1 (outS3 (scanA (wr3 P) cs.length cs.length 0)).2.2:=k
   cases hs:scanA (wr3 P) cs.length cs.length 0 <;> (rw [hs] at k;exact k)
 · show cbr false _ (cbr false _ (cbr false _ (cbr false _ _)))
   rw [yaa,yaa,yaa,yaa]
   refine ⟨cs.length+1,?_⟩
   rw [yba]
   refine scan4 h cs.length 0 (cs.length+1) (by omega) (by omega) ?_
   have k:K (outS3 (scanA (wr4 A) cs.length cs.length 0)).1 (outS3 (scanA (wr4 A) cs.length cs.length 0)).2.1 (outS3 (scanA (wr4 A) cs.length cs.length 0)).2.2:=k
   cases hs:scanA (wr4 A) cs.length cs.length 0 <;> (rw [hs] at k;exact k)
end Go.Pf.Vc
namespace Go.Pf.Vc
open Go Go.Pf
def prt (cs:List Ck) (A:List (List RS)) (i:Nat):Rat:=wV (cs.getD i default) (A.getD i []) / ((totC (cs.getD i default).cuts (cs.getD i default).dens:Int):Rat)
def prtL (cs:List Ck) (A:List (List RS)) (n:Nat):List Rat:=(List.range n).map (prt cs A)
theorem ysN (cs:List Ck) (A:List (List RS)) (n:Nat):(prtL cs A n).length=n:=by unfold prtL;rw [List.length_map,List.length_range]
theorem yDz (cs:List Ck) (A:List (List RS)) (n:Nat):prtL cs A (n+1)=prtL cs A n++[prt cs A n]:=by unfold prtL;rw [List.range_succ,List.map_append];rfl
def prtK (cs:List Ck) (A:List (List RS)) (X Y:Prop):Nat→Nat→Prop
 | 0,_=>X
 | r+1,i=>if small (prt cs A i) then prtK cs A X Y r (i+1) else Y
section
variable {cs:List Ck} {A:List (List RS)}
theorem DV.total (h:DV cs A) {i:Nat} (hi:i<cs.length) (K:Int→Int→Prop):yae (cs.getD i default).len (ints (cs.getD i default).cuts) (ints (cs.getD i default).dens) K=K (totC (cs.getD i default).cuts (cs.getD i default).dens) 0:=by
 have hok:=h.d.ok i hi
 have l1:=hok.l1;have l2:=hok.l2
 rw [yDj (by omega) (by omega),if_pos hok.ck]
theorem DV.div (h:DV cs A) (hw:∀ c∈cs,∀ a∈A,Go.Pf.Vc.small (wV c a)) {i:Nat} (hi:i<cs.length) (K:Int→Int→Int→Prop):yaS (wV (cs.getD i default) (A.getD i [])).num (wV (cs.getD i default) (A.getD i [])).den ((totC (cs.getD i default).cuts (cs.getD i default).dens:Int):Rat).num ((totC (cs.getD i default).cuts (cs.getD i default).dens:Int):Rat).den K=fitK (prt cs A i) K:=by
 have hok:=h.d.ok i hi
 have tb:=ykP hok
 have tp:=yGN hok
 have hs:Go.Pf.Vc.small ((totC (cs.getD i default).cuts (cs.getD i default).dens:Int):Rat):=ygF (by omega)
 have h0:((totC (cs.getD i default).cuts (cs.getD i default).dens:Int):Rat)≠0:=fun e=>by
   have:(((totC (cs.getD i default).cuts (cs.getD i default).dens:Int):Rat))=((0:Int):Rat):=e
   have:=Rat.intCast_inj.1 this
   omega
 exact yM3 (h.small hw hi hi) hs h0 K
theorem yrh (h:DV cs A) (hw:∀ c∈cs,∀ a∈A,small (wV c a)) (x2:List PV→List PV→List PV→List PV→Int→Int→Bool→Prop) (x3:List PV→List PV→List PV→List PV→Int→Prop) {YY:Prop} (hY:∀ L,x3 L (cks cs) (rspL A) (tabW cs A) 16=YY) :
   ∀ (r i n:Nat),i+r=cs.length→r<n→ycJ yaq yae yak yaS yal x2 x3 n (rts (prtL cs A i)) (cks cs) (rspL A) (tabW cs A) (cs.length:Int) (i:Int)=prtK cs A (x2 (rts (prtL cs A cs.length)) (cks cs) (rspL A) (tabW cs A) (cs.length:Int) (cs.length:Int) false) YY r i
 | 0,i,n+1,hi,hn=>by
   obtain rfl:i=cs.length:=by omega
   rw [ycJ,cbF (by omega)]
   rfl
 | r+1,i,n+1,hi,hn=>by
   have h6:=h.d.n6;have hl:=h.l
   have hi':i<cs.length:=by omega
   have e1:=wib (n:=(i:Int)+1) (by omega) (by omega)
   have ih:=yrh h hw x2 x3 hY r (i+1) n (by omega) (by omega)
   rw [ycJ]
   dsimp only [lt,Go.Pf.jn]
   rw [cbT (by omega),asT (by omega),yba,asT (by omega),Int.toNat_natCast,yf1 hi',asCk,ck0,ck1,ck2,h.total hi',asT (by omega),ylJ,asT (by omega),yq0 hi',asD,asT (by omega),datD,ygX,List.length_map,asT (by omega),yn2 (by rw [List.length_map];omega),asW,encW0,encW1,yq1 (by omega),yiR,h.div hw hi']
   unfold prtK fitK
   by_cases hs:small (prt cs A i)
   · rw [if_pos hs,if_pos hs]
     show cbr false _ _=_
     rw [yaa,asT rfl,ygX,ysN]
     simp only [Nat.zero_add,Nat.le_refl,decide_true,yay]
     rw [show (!decide (i+1≤i))=true by rw [decide_eq_false (by omega)];rfl,yay,asT (by unfold room;omega),show (true&&true)=true from rfl,yay,e1,cast1,yJC,yJD,← yDz]
     exact ih
   · rw [if_neg hs,if_neg hs]
     show cbr true _ _=_
     rw [yaf,hY]
theorem ypH (h:DV cs A) (hw:∀ c∈cs,∀ a∈A,small (wV c a)) (x2:List PV→List PV→List PV→List PV→Int→Int→Bool→Prop) (x3:List PV→List PV→List PV→List PV→Int→Prop) {YY:Prop} (hY:∀ L,x3 L (cks cs) (rspL A) (tabW cs A) 16=YY) :
   ∀ (r i n:Nat),i+r=cs.length→r<n→ycm ybk yaq yae yak yaS yal x2 x3 n (rts (prtL cs A i)) (cks cs) (rspL A) (tabW cs A) (cs.length:Int) (i:Int)=prtK cs A (x2 (rts (prtL cs A cs.length)) (cks cs) (rspL A) (tabW cs A) (cs.length:Int) (cs.length:Int) false) YY r i
 | 0,i,n+1,hi,hn=>by
   obtain rfl:i=cs.length:=by omega
   rw [ycm,cbF (by omega)]
   rfl
 | r+1,i,n+1,hi,hn=>by
   have h6:=h.d.n6;have hl:=h.l
   have hi':i<cs.length:=by omega
   have e1:=wib (n:=(i:Int)+1) (by omega) (by omega)
   have ih:=ypH h hw x2 x3 hY r (i+1) n (by omega) (by omega)
   rw [ycm]
   dsimp only [lt,Go.Pf.jn]
   rw [cbT (by omega),asT (by omega),yba,asT (by omega),Int.toNat_natCast,yf1 hi',asCk,ck0,ck1,ck2,h.total hi',asT (by omega),ylJ,asT (by omega),yq0 hi',asD,asT (by omega),datD,ygX,List.length_map,asT (by omega),yn2 (by rw [List.length_map];omega),asW,encW0,encW1,yq1 (by omega),yiR,h.div hw hi']
   unfold prtK fitK
   by_cases hs:small (prt cs A i)
   · rw [if_pos hs,if_pos hs]
     show cbr false _ _=_
     rw [yaa,asT rfl,ygX,ysN]
     simp only [Nat.zero_add,Nat.le_refl,decide_true,yay]
     rw [show (!decide (i+1≤i))=true by rw [decide_eq_false (by omega)];rfl,yay,asT (by unfold room;omega),show (true&&true)=true from rfl,yay,e1,cast1,yJC,yJD,← yDz]
     exact ih
   · rw [if_neg hs,if_neg hs]
     show cbr true _ _=_
     rw [yaf,hY]
theorem ykR (h:DV cs A) (hw:∀ c∈cs,∀ a∈A,small (wV c a)) (x0:List PV→List PV→List PV→Int→Int→Bool→Prop) (x1:List PV→List PV→List PV→Int→Prop) (x2:List PV→List PV→List PV→List PV→Int→Int→Bool→Prop) (x3:List PV→List PV→List PV→List PV→Int→Prop) {YY:Prop} (hY1:x1 (cks cs) (rspL A) (tabW cs A) 16=YY) (hY:∀ L,x3 L (cks cs) (rspL A) (tabW cs A) 16=YY) :
   yee yaq yae yak yaS yal x0 x1 x2 x3 (cs.length+1) (cks cs) (rspL A) (tabW cs A) (cs.length:Int) 0=prtK cs A (x2 (rts (prtL cs A cs.length)) (cks cs) (rspL A) (tabW cs A) (cs.length:Int) (cs.length:Int) false) YY cs.length 0:=by
   have h6:=h.d.n6;have h1:=h.d.n0;have hl:=h.l
   have hi':0<cs.length:=by omega
   have e1:=wib (n:=(0:Int)+1) (by omega) (by omega)
   obtain ⟨r,hr⟩:∃ r,cs.length=r+1:=⟨cs.length-1,by omega⟩
   have ih:=yrh h hw x2 x3 hY r 1 cs.length (by omega) (by omega)
   rw [yee]
   dsimp only [lt,Go.Pf.jn]
   rw [cbT (by omega),asT (by omega),yba,asT (by omega),show (0:Int).toNat=0 from rfl,yf1 hi',asCk,ck0,ck1,ck2,h.total hi',asT (by omega),ylJ,asT (by omega),yq0 hi',asD,asT (by omega),datD,ygX,List.length_map,asT (by omega),yn2 (by rw [List.length_map];omega),asW,encW0,encW1,yq1 (by omega),yiR,h.div hw hi']
   have eK:∀ X:Prop,prtK cs A X YY cs.length 0=if small (prt cs A 0) then prtK cs A X YY r 1 else YY:=fun X=>by rw [hr];rfl
   rw [eK]
   unfold fitK
   by_cases hs:small (prt cs A 0)
   · rw [if_pos hs,if_pos hs]
     show cbr false _ _=_
     rw [yaa,e1]
     exact ih
   · rw [if_neg hs,if_neg hs]
     show cbr true _ _=_
     rw [yaf,hY1]
theorem yw5 (h:DV cs A) (hw:∀ c∈cs,∀ a∈A,small (wV c a)) (x0:List PV→List PV→List PV→Int→Int→Bool→Prop) (x1:List PV→List PV→List PV→Int→Prop) (x2:List PV→List PV→List PV→List PV→Int→Int→Bool→Prop) (x3:List PV→List PV→List PV→List PV→Int→Prop) {YY:Prop} (hY1:x1 (cks cs) (rspL A) (tabW cs A) 16=YY) (hY:∀ L,x3 L (cks cs) (rspL A) (tabW cs A) 16=YY) :
   ydD ybk yaq yae yak yaS yal x0 x1 x2 x3 (cs.length+1) (cks cs) (rspL A) (tabW cs A) (cs.length:Int) 0=prtK cs A (x2 (rts (prtL cs A cs.length)) (cks cs) (rspL A) (tabW cs A) (cs.length:Int) (cs.length:Int) false) YY cs.length 0:=by
   have h6:=h.d.n6;have h1:=h.d.n0;have hl:=h.l
   have hi':0<cs.length:=by omega
   have e1:=wib (n:=(0:Int)+1) (by omega) (by omega)
   obtain ⟨r,hr⟩:∃ r,cs.length=r+1:=⟨cs.length-1,by omega⟩
   have ih:=ypH h hw x2 x3 hY r 1 cs.length (by omega) (by omega)
   rw [ydD]
   dsimp only [lt,Go.Pf.jn]
   rw [cbT (by omega),asT (by omega),yba,asT (by omega),show (0:Int).toNat=0 from rfl,yf1 hi',asCk,ck0,ck1,ck2,h.total hi',asT (by omega),ylJ,asT (by omega),yq0 hi',asD,asT (by omega),datD,ygX,List.length_map,asT (by omega),yn2 (by rw [List.length_map];omega),asW,encW0,encW1,yq1 (by omega),yiR,h.div hw hi']
   have eK:∀ X:Prop,prtK cs A X YY cs.length 0=if small (prt cs A 0) then prtK cs A X YY r 1 else YY:=fun X=>by rw [hr];rfl
   rw [eK]
   unfold fitK
   by_cases hs:small (prt cs A 0)
   · rw [if_pos hs,if_pos hs]
     show cbr false _ _=_
     rw [yaa,e1]
     exact ih
   · rw [if_neg hs,if_neg hs]
     show cbr true _ _=_
     rw [yaf,hY1]
end
end Go.Pf.Vc
namespace Go.Pf.Vc
open Go Go.Pf
def orU8 (a b:Int):Int:=IntKind.u8.wrap (BitVec.ofInt IntKind.u8.bits a|||BitVec.ofInt IntKind.u8.bits b).toNat
def bitC:Nat→Int
 | 0=>1
 | 1=>2
 | 2=>4
 | 3=>8
 | _=>16
def addC (cs:List Ck) (A:List (List RS)) (P:List Rat) (g:Bool) (acc:Int) (i:Nat):Int:=if (brk cs A P g (bitC i)).2.2 then acc else orU8 acc (bitC i)
theorem yNl {i:Nat} (h:i<5):IntKind.u8.wrap ((1:Int)*2 ^ (min ((i:Int)).toNat IntKind.u8.bits))=bitC i:=by
 obtain rfl | rfl | rfl | rfl | rfl:i=0∨i=1∨i=2∨i=3∨i=4:=by omega
 all_goals decide
theorem yOq (i:Nat):bitC i=1∨bitC i=2∨bitC i=4∨bitC i=8∨bitC i=16:=by
 unfold bitC
 split <;> simp
section
variable {cs:List Ck} {A:List (List RS)}
theorem yDA (h:DV cs A) (hw:∀ c∈cs,∀ a∈A,small (wV c a)) {P:List Rat} (hP:P.length=cs.length) {g:Bool} (hg:∀ K,yac (cks cs) (rspL A) (tabW cs A) (rts P) K=K g) (x1:List PV→List PV→List PV→List PV→Int→Int→List PV→Int→Bool→Prop) {n i:Nat} (hi:i<5) (e acc:Int) (l8:List PV) :
   ybH yaq yae yak yaS yal x1 (n+1) (rts P) (cks cs) (rspL A) (tabW cs A) e acc l8 (i:Int)=ybH yaq yae yak yaS yal x1 n (rts P) (cks cs) (rspL A) (tabW cs A) e (addC cs A P g acc i) l8 ((i+1:Nat):Int):=by
 have e1:=wib (n:=(i:Int)+1) (by omega) (by omega)
 have hn:(!decide ((i:Int)<0))=true:=by rw [decide_eq_false (by omega)];rfl
 rw [ybH]
 dsimp only [lt,Go.Pf.jn]
 rw [cbT (by omega),hn,yay,yNl hi,asT rfl,asT (by omega),List.take_length,yyc h hw (fun _=>hP) (yOq i) hg,e1,cast1]
 unfold addC
 cases (brk cs A P g (bitC i)).2.2 with
 | true =>
   show cbr false _ _=_
   rw [yaa,show (decide ((rts P).length=(rts P).length)&&decide ((rts P).length=(rts P).length))=true by simp,yay]
   rfl
 | false =>
   show cbr true _ _=_
   rw [yaf,yay,show (decide ((rts P).length=(rts P).length)&&decide ((rts P).length=(rts P).length))=true by simp,yay]
   rfl
def claimsM (cs:List Ck) (A:List (List RS)) (P:List Rat) (g:Bool):Int:=addC cs A P g (addC cs A P g (addC cs A P g (addC cs A P g (addC cs A P g 0 0) 1) 2) 3) 4
theorem ykS {X Y:Prop}:∀ (r i:Nat),((∀ j,i≤j→j<i+r→small (prt cs A j))∧prtK cs A X Y r i=X)∨(¬(∀ j,i≤j→j<i+r→small (prt cs A j))∧prtK cs A X Y r i=Y)
 | 0,i=>.inl ⟨fun j h1 h2=>by omega,rfl⟩
 | r+1,i=>by
   rw [prtK]
   by_cases hs:small (prt cs A i)
   · rw [if_pos hs]
     rcases ykS (X:=X) (Y:=Y) r (i+1) with ⟨h1,h2⟩ | ⟨h1,h2⟩
     · refine .inl ⟨fun j k1 k2=>?_,h2⟩
       by_cases hj:j=i
       · subst hj;exact hs
       · exact h1 j (by omega) (by omega)
     · exact .inr ⟨fun hh=>h1 fun j k1 k2=>hh j (by omega) (by omega),h2⟩
   · rw [if_neg hs]
     exact .inr ⟨fun hh=>hs (hh i (by omega) (by omega)),rfl⟩
end
end Go.Pf.Vc
namespace Go.Pf.Vc
open Go Go.Pf
section
variable {cs:List Ck} {A:List (List RS)}
def Gap (cs:List Ck) (A:List (List RS)):Prop:=∃ p:Rat,0≤p∧p<((cs.getD 0 default).len:Rat)∧¬∃ a∈A,memP a p
open Classical in
noncomputable def gapD (cs:List Ck) (A:List (List RS)):Bool:=decide (Gap cs A)
theorem yBn:gapD cs A=true↔Gap cs A:=by unfold gapD;exact @decide_eq_true_iff _ (Classical.propDecidable _)
theorem DV.gapD_eq (h:DV cs A) (W PT:List PV) (K:Bool→Prop):yac (cks cs) (rspL A) W PT K=K (gapD cs A):=by
 obtain ⟨l,hp,hb,e⟩:=h.gap W PT
 rw [e]
 congr 1
 rw [Bool.eq_iff_iff,yBn,yGZ l 0 hb (fun s hs=>h.flatV s (hp.mem_iff.1 hs)) (fun s hs=>by
   obtain ⟨a,ha,hs⟩:=List.mem_flatten.1 (hp.mem_iff.1 hs)
   exact (h.wi a ha s hs).2)]
 have hm:∀ p,memP l p↔∃ a∈A,memP a p:=fun p=>by
   constructor
   · rintro ⟨s,hs,k⟩
     obtain ⟨a,ha,hs⟩:=List.mem_flatten.1 (hp.mem_iff.1 hs)
     exact ⟨a,ha,s,hs,k⟩
   · rintro ⟨a,ha,s,hs,k⟩
     exact ⟨s,hp.mem_iff.2 (List.mem_flatten.2 ⟨a,ha,hs⟩),k⟩
 unfold Gap
 constructor
 · rintro ⟨p,h1,h2,h3⟩
   exact ⟨p,h1,h2,fun k=>h3 ((hm p).2 k)⟩
 · rintro ⟨p,h1,h2,h3⟩
   exact ⟨p,h1,h2,fun k=>h3 ((hm p).1 k)⟩
theorem DV.Make (h:DV cs A):(∀ K,ya9 (cks cs) (rspL A) K=K 0 [] 16)∨((∀ c∈cs,∀ a∈A,Go.Pf.Vc.small (wV c a))∧(∀ j,j<cs.length→Go.Pf.Vc.small (prt cs A j)) ∧
   ∀ K,ya9 (cks cs) (rspL A) K=K (claimsM cs A (prtL cs A cs.length) (gapD cs A)) (tabW cs A) 0):=by
 rcases h.Worth with he | ⟨hw,he⟩
 · refine .inl fun K=>?_
   refine yjS _ _ _ _ _ (fun K k=>?_) K
   unfold ya9 ygD
   rw [he]
   exact k
 · rcases ykS (cs:=cs) (A:=A) (X:=True) (Y:=False) cs.length 0 with ⟨hs,_⟩ | ⟨hs,_⟩
   · refine .inr ⟨hw,fun j hj=>hs j (by omega) (by omega),fun K=>?_⟩
     refine yjS _ _ _ _ _ (fun K k=>?_) K
     unfold ya9 ygD
     rw [he]
     show cbr false _ _
     rw [yaa]
     dsimp only [Go.Pf.jn]
     rw [yba]
     refine ⟨cs.length+1,(ykR h hw _ _ _ _ (YY:=K 0 [] 16) rfl (fun _=>rfl)).mpr ?_⟩
     rcases ykS (cs:=cs) (A:=A) cs.length 0 with ⟨_,e⟩ | ⟨hn,_⟩
     · refine e.mpr ?_
       show cbr false _ _
       rw [yaa,show (decide ((rts (prtL cs A cs.length)).length=(rts (prtL cs A cs.length)).length)&&decide ((rts (prtL cs A cs.length)).length=(rts (prtL cs A cs.length)).length))=true by simp,yay]
       refine ⟨6,?_⟩
       have hP:=ysN cs A cs.length
       have hg:=h.gapD_eq (tabW cs A) (rts (prtL cs A cs.length))
       have s:=fun (n i:Nat) (hi:i<5) (acc:Int)=>yDA h hw hP hg (fun yl341 yl342 yl343 yl344 yi345 yi346 yl347 yi348 yb349=>K yi346 yl347 (0:Int)) (n:=n) hi 0 acc (tabW cs A)
       refine (s 5 0 (by omega) 0).mpr ((s 4 1 (by omega) _).mpr ((s 3 2 (by omega) _).mpr ((s 2 3 (by omega) _).mpr ((s 1 4 (by omega) _).mpr ?_))))
       rw [ybH,cbF (by omega)]
       exact k
     · exact absurd hs hn
   · refine .inl fun K=>?_
     refine yjS _ _ _ _ _ (fun K k=>?_) K
     unfold ya9 ygD
     rw [he]
     show cbr false _ _
     rw [yaa]
     dsimp only [Go.Pf.jn]
     rw [yba]
     refine ⟨cs.length+1,(ykR h hw _ _ _ _ (YY:=K 0 [] 16) rfl (fun _=>rfl)).mpr ?_⟩
     rcases ykS (cs:=cs) (A:=A) cs.length 0 with ⟨hn,_⟩ | ⟨_,e⟩
     · exact absurd hn hs
     · exact e.mpr k
end
end Go.Pf.Vc
namespace Go.Pf.Vc
open Go Go.Pf
theorem yBo {f:Nat→Bool}:∀ {r i:Nat},scanB f r i=none↔∀ j,i≤j→j<i+r→f j=false
 | 0,i=>⟨fun _ j h1 h2=>by omega,fun _=>rfl⟩
 | r+1,i=>by
   rw [scanB]
   cases hf:f i with
   | true=>exact ⟨fun h=>by simp at h,fun h=>by have:=h i (by omega) (by omega);rw [hf] at this;cases this⟩
   | false =>
     show scanB f r (i+1)=none↔_
     rw [yBo]
     constructor
     · intro h j h1 h2
       by_cases hj:j=i
       · subst hj;exact hf
       · exact h j (by omega) (by omega)
     · exact fun h j h1 h2=>h j (by omega) (by omega)
theorem yBp {f:Nat→Bool}:∀ {r i j:Nat},scanB f r i=some j→i≤j∧j<i+r∧f j=true
 | 0,i,j,h=>by cases h
 | r+1,i,j,h=>by
   rw [scanB] at h
   cases hf:f i with
   | true =>
     rw [hf] at h
     have h:some i=some j:=h
     cases h
     exact ⟨by omega,by omega,hf⟩
   | false =>
     rw [hf] at h
     obtain ⟨h1,h2,h3⟩:=yBp (r:=r) (i:=i+1) h
     exact ⟨by omega,by omega,h3⟩
theorem yq2 {f:Nat→Nat→Bool} {n:Nat}:∀ {r i:Nat},scanA f n r i=none↔∀ a,i≤a→a<i+r→∀ b,b<n→f a b=false
 | 0,i=>⟨fun _ a h1 h2=>by omega,fun _=>rfl⟩
 | r+1,i=>by
   rw [scanA]
   cases hb:scanB (f i) n 0 with
   | some j =>
     obtain ⟨_,h2,h3⟩:=yBp hb
     exact ⟨fun h=>by simp at h,fun h=>by have:=h i (by omega) (by omega) j (by omega);rw [h3] at this;cases this⟩
   | none =>
     show scanA f n r (i+1)=none↔_
     rw [yq2]
     constructor
     · intro h a h1 h2 b h3
       by_cases ha:a=i
       · subst ha;exact yBo.1 hb b (by omega) (by omega)
       · exact h a (by omega) (by omega) b h3
     · exact fun h a h1 h2 b h3=>h a (by omega) (by omega) b h3
end Go.Pf.Vc
namespace Go.Pf.Vc
open Go Go.Pf
def bitsV (b0 b1 b2 b3 b4:Bool):Int :=
 let a0:Int:=if b0 then 0 else orU8 0 1
 let a1:Int:=if b1 then a0 else orU8 a0 2
 let a2:Int:=if b2 then a1 else orU8 a1 4
 let a3:Int:=if b3 then a2 else orU8 a2 8
 if b4 then a3 else orU8 a3 16
theorem yG4 (cs:List Ck) (A:List (List RS)) (P:List Rat) (g:Bool):claimsM cs A P g=bitsV (brk cs A P g 1).2.2 (brk cs A P g 2).2.2 (brk cs A P g 4).2.2 (brk cs A P g 8).2.2 (brk cs A P g 16).2.2:=rfl
def andU8 (a b:Int):Int:=IntKind.u8.wrap (BitVec.ofInt IntKind.u8.bits a&&&BitVec.ofInt IntKind.u8.bits b).toNat
theorem bit1 (b0 b1 b2 b3 b4:Bool):(andU8 (bitsV b0 b1 b2 b3 b4) 1 != 0)=!b0:=by cases b0 <;> cases b1 <;> cases b2 <;> cases b3 <;> cases b4 <;> decide
theorem bit2 (b0 b1 b2 b3 b4:Bool):(andU8 (bitsV b0 b1 b2 b3 b4) 2 != 0)=!b1:=by cases b0 <;> cases b1 <;> cases b2 <;> cases b3 <;> cases b4 <;> decide
theorem bit4 (b0 b1 b2 b3 b4:Bool):(andU8 (bitsV b0 b1 b2 b3 b4) 4 != 0)=!b2:=by cases b0 <;> cases b1 <;> cases b2 <;> cases b3 <;> cases b4 <;> decide
end Go.Pf.Vc
namespace Go.Pf.Vc
open Go Go.Pf
theorem yDB:∀ {A:List (List RS)},(∀ i j,i<j→j<A.length→∀ p,memP (A.getD i []) p→¬memP (A.getD j []) p)→apartL A
 | [],_=>trivial
 | a::r,h=>by
   refine ⟨fun b hb p hp=>?_,yDB fun i j h1 h2 p hp=>?_⟩
   · obtain ⟨j,hj,rfl⟩:=ysM [] hb
     exact h 0 (j+1) (by omega) (by rw [List.length_cons];omega) p hp
   · exact h (i+1) (j+1) (by omega) (by rw [List.length_cons];omega) p hp
section
variable {cs:List Ck} {A:List (List RS)}
theorem DV.whole (h:DV cs A) (hn:scanA (wr0 A) cs.length cs.length 0=none) (hg:gapD cs A=false) {i:Nat} (hi:i<cs.length) :
   sumL (vX (cs.getD i default).cuts (cs.getD i default).dens) A=((totC (cs.getD i default).cuts (cs.getD i default).dens:Int):Rat):=by
 have hl:=h.l
 have l0:=h.len0
 have hok:=h.d.ok i hi
 have hlen:=h.d.len i hi
 rw [← yFe hok,hlen]
 refine yKF _ ?_ (fun a ha=>(h.p a ha).c) (fun a ha=>h.wi a ha) ?_ ?_
 · have:((0:Int):Rat)<((cs.getD 0 default).len:Rat):=Rat.intCast_lt_intCast.2 (by omega)
   simpa using this
 · refine yDB fun i j h1 h2 p p1 p2=>?_
   have hf:=yq2.1 hn i (by omega) (by omega) j (by omega)
   unfold wr0 at hf
   rw [decide_eq_true h1,Bool.true_and] at hf
   have mi:=ybU [] (show i<A.length by omega)
   have mj:=ybU [] h2
   have:=(yIT (yn3 (h.p _ mi).c) (yn3 (h.p _ mj).c)).2 ⟨p,p1,p2⟩
   rw [hf] at this
   cases this
 · intro p h1 h2
   refine Classical.byContradiction fun hno=>?_
   have:=yBn.2 ⟨p,h1,h2,hno⟩
   rw [hg] at this
   cases this
end
end Go.Pf.Vc
namespace Go.Pf.Vc
open Go Go.Pf
section
variable {l:List Rat}
theorem yDC (hs:∀ q∈l,small q) (hl:l.length≤100) {W} {x0:List PV→Int→Int→Int→Bool→Prop} {x1:Int→Int→Int→Prop} {a b:Int} :
   ∀ (r i n:Nat),i+r=l.length→r<n→yd7 ybN W x0 x1 n (rts l) a b (i:Int)=x0 (rts l) a b (l.length:Int) false
 | 0,i,n+1,hi,hn=>by
   rw [yd7,ygX,cbF (by omega),show (i:Int)=l.length by omega]
 | r+1,i,n+1,hi,hn=>by
   have e1:=wib (n:=(i:Int)+1) (by omega) (by omega)
   have hx:=hs _ (yyF (show i<l.length by omega))
   rw [yd7]
   dsimp only [lt,Go.Pf.jn]
   rw [ygX,cbT (by omega),asT (by omega),asT (by omega),Int.toNat_natCast,yn2 (by omega),asW,encW0,encW1,ypD hx.i1 hx.i2,show chk (l.getD i 0).num (l.getD i 0).den=0 from if_pos hx.rv,e1,cast1]
   show cbr false _ _=_
   rw [yaa]
   exact yDC hs hl r (i+1) n (by omega) (by omega)
def sumK (K:Int→Int→Int→Prop):Rat→List Rat→Prop
 | q,[]=>K q.num q.den 0
 | q,x::r=>if small (q+x) then sumK K (q+x) r else K 0 0 16
theorem yDD (hs:∀ q∈l,small q) (hl:l.length≤100) {W} {a b:Int} (K:Int→Int→Int→Prop) :
   ∀ (r i n:Nat) (q:Rat),i+r=l.length→r<n→small q→yd8 W yeA (fun _ _ _ c d _ _=>K c d 0) (fun a b c=>K a b c) n (rts l) a b q.num q.den (i:Int)=sumK K q (l.drop i)
 | 0,i,n+1,q,hi,hn,hq=>by
   rw [yd8,ygX,cbF (by omega),List.drop_of_length_le (by omega)]
   rfl
 | r+1,i,n+1,q,hi,hn,hq=>by
   have e1:=wib (n:=(i:Int)+1) (by omega) (by omega)
   have hx:=hs _ (yyF (show i<l.length by omega))
   have hd:l.drop i=l.getD i 0::l.drop (i+1):=ybT 0 (by omega)
   rw [yd8]
   dsimp only [lt,Go.Pf.jn]
   rw [ygX,cbT (by omega),asT (by omega),asT (by omega),Int.toNat_natCast,yn2 (by omega),asW,encW0,encW1,yM8 hq hx,hd,e1,cast1]
   unfold fitK sumK
   by_cases h:small (q+l.getD i 0)
   · rw [if_pos h,if_pos h]
     show cbr false _ _=_
     rw [yaa]
     exact yDD hs hl K r (i+1) n _ (by omega) (by omega) h
   · rw [if_neg h,if_neg h]
     rfl
theorem yOr (hs:∀ q∈l,small q) (hl:l.length≤100) (K:Int→Int→Int→Prop) (h:sumK K 0 l):ycV (rts l) K:=by
 unfold ycV yu1
 rw [ygX,cbF (by omega)]
 refine ⟨l.length+1,(yDC hs hl l.length 0 (l.length+1) (by omega) (by omega)).mpr ?_⟩
 refine ⟨l.length+1,(yDD hs hl K l.length 0 (l.length+1) 0 (by omega) (by omega) yis).mpr ?_⟩
 rw [List.drop_zero]
 exact h
theorem yJK {K:Int→Int→Int→Prop}:∀ (l:List Rat) (q:Rat),small q→(small (q+l.sum)→K (q+l.sum).num (q+l.sum).den 0)→K 0 0 16→sumK K q l
 | [],q,hq,h1,_=>by
   rw [List.sum_nil,Rat.add_zero] at h1
   exact h1 hq
 | x::r,q,hq,h1,h2=>by
   rw [sumK]
   by_cases h:small (q+x)
   · rw [if_pos h]
     have e:q+(x::r).sum=(q+x)+r.sum:=by rw [List.sum_cons];grind
     rw [e] at h1
     exact yJK r (q+x) h h1 h2
   · rw [if_neg h]
     exact h2
end
end Go.Pf.Vc
namespace Go.Pf.Vc
open Go Go.Pf
section
variable {cs:List Ck} {A:List (List RS)}
theorem yNm {P Q:List Rat} {g:Bool} {c:Int} (h:c≠8):brk cs A P g c=brk cs A Q g c:=by
 unfold brk
 split
 · rfl
 split
 · rfl
 split
 · rfl
 first | rfl | (rw [if_neg h,if_neg h])
theorem DV.asked (h:DV cs A) (hw:∀ c∈cs,∀ a∈A,Go.Pf.Vc.small (wV c a)) (hW:∀ K,yaq (cks cs) (rspL A) K=K (tabW cs A) 0) {c:Int} (hc:c=1∨c=2∨c=4∨c=16) (K:Int→Int→Bool→Int→Prop) :
   ybd (cks cs) (rspL A) c K=K (brk cs A (prtL cs A cs.length) (gapD cs A) c).1 (brk cs A (prtL cs A cs.length) (gapD cs A) c).2.1 (brk cs A (prtL cs A cs.length) (gapD cs A) c).2.2 0:=by
 have h8:c≠8:=by omega
 have hb:=fun K=>yyc h hw (P:=[]) (c:=c) (fun e=>absurd e h8) (by omega) (g:=gapD cs A) (fun K=>h.gapD_eq (tabW cs A) (rts []) K) K
 have hb:∀ K,yal (cks cs) (rspL A) (tabW cs A) [] c K=K (brk cs A [] (gapD cs A) c).1 (brk cs A [] (gapD cs A) c).2.1 (brk cs A [] (gapD cs A) c).2.2:=hb
 unfold ybd yjO
 dsimp only [Go.Pf.jn]
 rw [pCheckD h]
 rw [yNm (Q:=[]) h8]
 rcases hc with rfl | rfl | rfl | rfl
 all_goals
   show yaq _ _ _=_
   rw [hW]
   show cbr false _ (cbr false _ (cbr false _ (yal _ _ _ _ _ _)))=_
   rw [yaa,yaa,yaa,hb]
end
end Go.Pf.Vc
namespace Go.Pf.Vc
open Go Go.Pf
section
variable {cs:List Ck} {A:List (List RS)}
theorem yG5 {c:Int} {a b:Int} {no:Bool} (h:∀ K,ybd (cks cs) (rspL A) c K=K a b no 0) (K:Bool→Int→Prop):yh1 (cks cs) (rspL A) c K=K (!no) 0:=by
 unfold yh1 ynT
 dsimp only [Go.Pf.jn]
 rw [h]
 cases no <;> rfl
theorem yCE {c:Int} {a b:Int} {no:Bool} (h:∀ K,ybd (cks cs) (rspL A) c K=K a b no 0) (K:Int→Int→Int→Prop):yf9 (cks cs) (rspL A) c K=if no then K a b 0 else K 0 0 6:=by
 unfold yf9 ykL
 dsimp only [Go.Pf.jn]
 rw [h]
 cases no <;> rfl
end
end Go.Pf.Vc
namespace Go.Pf.Vc
open Go Go.Pf
section
variable {cs:List Ck} {A:List (List RS)}
theorem yL3 {len:Int} (h:1≤len∧len≤1000):Pc [((0:Rat),(len:Rat))]:=by
 have hlt:((0:Int):Rat)<(len:Rat):=Rat.intCast_lt_intCast.2 (by omega)
 refine ⟨⟨by simpa using hlt,(fun t ht=>by cases ht),trivial⟩,fun s hs=>?_,by simp⟩
 rcases List.mem_cons.1 hs with rfl | hs
 · exact ⟨yis,ygF (by omega)⟩
 · cases hs
theorem DV.all (h:DV cs A) {i:Nat} (hi:i<cs.length):outW (fun K=>yar (cs.getD i default).len (ints (cs.getD i default).cuts) (ints (cs.getD i default).dens) (rsp [((0:Rat),((cs.getD 0 default).len:Rat))]) K) ((totC (cs.getD i default).cuts (cs.getD i default).dens:Int):Rat):=by
 have hok:=h.d.ok i hi
 have hlen:=h.d.len i hi
 have:=(yL3 h.len0).outWorth hok (fun s hs=>by
   rcases List.mem_cons.1 hs with rfl | hs
   · exact ⟨Rat.le_refl,by rw [hlen];exact Rat.le_refl⟩
   · cases hs)
 have e:sumV (dV (vX (cs.getD i default).cuts (cs.getD i default).dens)) [((0:Rat),((cs.getD 0 default).len:Rat))]=((totC (cs.getD i default).cuts (cs.getD i default).dens:Int):Rat):=by
   rw [← yFe hok,hlen]
   show (vX _ _ _-vX _ _ _)+0=_
   rw [Rat.add_zero]
 rw [e] at this
 exact this
end
end Go.Pf.Vc
namespace Go.Pf.Vc
open Go Go.Pf
def InA (D:Int) (A:List (List RS)):Prop:=∀ a∈A,∀ s∈a,In D s.1∧In D s.2
section
variable {len:Int} {cuts dens:List Int}
theorem yG6 (h:VC len cuts dens) {s:RS} (hv:s.1<s.2) (hw:0≤s.1∧s.2≤(len:Rat)):0≤dV (vX cuts dens) s∧dV (vX cuts dens) s≤12000:=by
 have a:=yFc h hw.1
 have b:=yFc h hw.2
 have c:=yFc h (Rat.le_of_lt hv)
 have t:=yFe h
 have tb:=Rat.intCast_le_intCast.2 (ykP h).2
 have tb:((totC cuts dens:Int):Rat)≤12000:=tb
 show 0≤vX cuts dens s.2-vX cuts dens s.1∧vX cuts dens s.2-vX cuts dens s.1≤12000
 grind
theorem dV_In {D:Int} (hD:1≤D) {s:RS} (hi:In D s.1∧In D s.2):In D (dV (vX cuts dens) s):=(vX_In hD hi.2).sub (vX_In hD hi.1)
theorem yG7 (h:VC len cuts dens) {D:Int} (hD:1≤D∧D≤1000000000000) {s:RS} (hs:smallS s) (hv:s.1<s.2) (hw:0≤s.1∧s.2≤(len:Rat)) (hi:In D s.1∧In D s.2) (K:Int→Int→Int→Prop) :
   yaF len (ints cuts) (ints dens) s.1.num s.1.den s.2.num s.2.den K=K (dV (vX cuts dens) s).num (dV (vX cuts dens) s).den 0:=by
 have l1:=h.l1;have l2:=h.l2
 rw [yDk (by omega) (by omega) hs.1.i1 hs.1.i2 hs.2.i1 hs.2.i2]
 unfold valR
 rw [if_pos h.ck,if_pos ⟨PT_of hs.1 hw.1 (by grind),PT_of hs.2 (by grind) hw.2,by rw [yf0,yf0];grind⟩,yf0,yf0,yKD h ⟨hD.1,by omega⟩ hi.1 hi.2 hw.1 (Rat.le_of_lt hv) hw.2]
 rfl
theorem yri (h:VC len cuts dens) {D:Int} (hD:1≤D∧D≤1000000000000) {l:List RS} (hs:∀ s∈l,smallS s) (hv:∀ s∈l,s.1<s.2) (hw:Wi len l) (hi:∀ s∈l,In D s.1∧In D s.2) (hl:l.length≤60) (z z':Int) (K:Int→Int→Int→Prop) :
   ∀ (r i n:Nat) (q:Rat),i+r=l.length→r<n→In D q→0≤q→q≤12000*((i:Int):Rat) →
     small (q+sumV (dV (vX cuts dens)) (l.drop i))∧yax yan yaw yaB yaF yaE (fun _ _ _ _ _ a b _ _ _ _=>K a b 0) (fun _ _ _ a b e=>K a b e) n len (ints cuts) (ints dens) z z' q.num q.den (rsp l) (l.length:Int) (i:Int)=K (q+sumV (dV (vX cuts dens)) (l.drop i)).num (q+sumV (dV (vX cuts dens)) (l.drop i)).den 0
 | 0,i,n+1,q,hir,hn,hq,q0,q1=>by
   obtain rfl:i=l.length:=by omega
   rw [List.drop_length]
   have e:q+sumV (dV (vX cuts dens)) []=q:=Rat.add_zero q
   have hb:((l.length:Int):Rat)≤60:=Rat.intCast_le_intCast.2 (show (l.length:Int)≤60 by omega)
   rw [e]
   refine ⟨hq.small (M:=720000) ⟨by omega,by omega⟩ (by omega) (by show -(720000:Rat)≤_;grind) (by show _≤(720000:Rat);grind),?_⟩
   rw [yax,cbF (by omega)]
 | r+1,i,n+1,q,hir,hn,hq,q0,q1=>by
   have hil:i<l.length:=by omega
   have e1:=wib (n:=(i:Int)+1) (by omega) (by omega)
   have hd:l.drop i=l.getD i default::l.drop (i+1):=ybT default hil
   have hm:l.getD i default∈l:=ybU default hil
   have hx:=hs _ hm
   have hx2:=hv _ hm
   have hx3:=hw _ hm
   have hx4:=hi _ hm
   rw [hd]
   have b1:=yG6 h hx2 hx3
   have b2:=dV_In (cuts:=cuts) (dens:=dens) hD.1 hx4
   have hc:((i+1:Nat):Int)=(i:Int)+1:=by omega
   have hc2:(((i+1:Nat):Int):Rat)=((i:Int):Rat)+1:=by rw [hc,Rat.intCast_add];rfl
   have hb:((i:Int):Rat)≤60:=Rat.intCast_le_intCast.2 (show (i:Int)≤60 by omega)
   have hv1:=yG7 h hD hx hx2 hx3 hx4
   have es:q+sumV (dV (vX cuts dens)) (l.getD i default::l.drop (i+1))=(q+dV (vX cuts dens) (l.getD i default))+sumV (dV (vX cuts dens)) (l.drop (i+1)):=by
     show q+(dV (vX cuts dens) (l.getD i default)+sumV (dV (vX cuts dens)) (l.drop (i+1)))=_
     grind
   have step:yax yan yaw yaB yaF yaE (fun _ _ _ _ _ a b _ _ _ _=>K a b 0) (fun _ _ _ a b e=>K a b e) (n+1) len (ints cuts) (ints dens) z z' q.num q.den (rsp l) (l.length:Int) (i:Int) =
       yaF len (ints cuts) (ints dens) (l.getD i default).1.num (l.getD i default).1.den (l.getD i default).2.num (l.getD i default).2.den (fun a b e=>cbr (e != 0) (K 0 0 e) (yaE q.num q.den a b (fun a b e=>cbr (e != 0) (K 0 0 e) (yax yan yaw yaB yaF yaE (fun _ _ _ _ _ a b _ _ _ _=>K a b 0) (fun _ _ _ a b e=>K a b e) n len (ints cuts) (ints dens) z z' a b (rsp l) (l.length:Int) ((i+1:Nat):Int))))):=by
     rw [yax,cbT (by omega)]
     dsimp only [lt]
     rw [ycf,asT (by omega),asT (by omega),Int.toNat_natCast,ymk hil,asR,encR0,encR1,encR2,encR3,e1,cast1]
   rw [es,step,hv1,nz]
   generalize dV (vX cuts dens) (l.getD i default)=v at b1 b2
   have sq:small q:=hq.small (M:=720000) ⟨by omega,by omega⟩ (by omega) (by show -(720000:Rat)≤_;grind) (by show _≤(720000:Rat);grind)
   have sv:small v:=b2.small (M:=720000) ⟨by omega,by omega⟩ (by omega) (by show -(720000:Rat)≤_;grind) (by show _≤(720000:Rat);grind)
   have hb2:((i:Int):Rat)≤59:=Rat.intCast_le_intCast.2 (show (i:Int)≤59 by omega)
   have ss:small (q+v):=(hq.add b2).small (M:=720000) ⟨by omega,by omega⟩ (by omega) (by show -(720000:Rat)≤_;grind) (by show _≤(720000:Rat);grind)
   have ih:=yri h hD hs hv hw hi hl z z' K r (i+1) n (q+v) (by omega) (by omega) (hq.add b2) (by grind) (by rw [hc2];grind)
   refine ⟨ih.1,?_⟩
   rw [ys5 sq sv]
   unfold fitK
   rw [if_pos ss]
   dsimp only
   rw [nz]
   exact ih.2
theorem Pc.Worth_good {l:List RS} (p:Pc l) (h:VC len cuts dens) (hw:Wi len l) {D:Int} (hD:1≤D∧D≤1000000000000) (hi:∀ s∈l,In D s.1∧In D s.2) :
   small (sumV (dV (vX cuts dens)) l)∧∀ K,yar len (ints cuts) (ints dens) (rsp l) K=K (sumV (dV (vX cuts dens)) l).num (sumV (dV (vX cuts dens)) l).den 0:=by
 have l1:=h.l1;have l2:=h.l2;have l0:=h.len0;have hn:=p.n
 have g:=fun K=>yri h hD p.s (yn3 p.c) hw hi (by omega) 0 0 K l.length 0 (l.length+1) 0 (by omega) (by omega) (In.int hD.1 0) Rat.le_refl (by show (0:Rat)≤12000*0;grind)
 have g0:=(g fun _ _ _=>True).1
 rw [List.drop_zero,Rat.zero_add] at g0
 refine ⟨g0,fun K=>yrf _ _ _ _ _ _ _ (fun K k=>?_) K⟩
 have hl:=(g K).2
 rw [List.drop_zero,Rat.zero_add] at hl
 unfold yar yjr
 rw [ymZ (by omega) (by omega),h.ck,nz,p.check,nz]
 dsimp only [Go.Pf.jn,lt]
 rw [ycf]
 have fin:∃ n,yax yan yaw yaB yaF yaE (fun _ _ _ _ _ a b _ _ _ _=>K a b 0) (fun _ _ _ a b e=>K a b e) n len (ints cuts) (ints dens) 0 0 0 1 (rsp l) (l.length:Int) 0:=⟨l.length+1,hl.mpr k⟩
 by_cases hl0:l.length=0
 · rw [cbF (by omega),yaa]
   exact fin
 · have h0:0<l.length:=by omega
   have m0:=ybU (default:RS) h0
   have m1:=ybU (default:RS) (show l.length-1<l.length by omega)
   have w0:=hw _ m0
   have w1:=hw _ m1
   have s1:=p.s _ m1
   have n0:0≤(l.getD 0 default).1.num:=Rat.num_nonneg.2 w0.1
   have e1:=wib (n:=(l.length:Int)-1) (by omega) (by omega)
   have et:((l.length:Int)-1).toNat=l.length-1:=by omega
   rw [cbT (by omega),asT (by omega),ymk h0,asR,encR0,cbF (by omega),e1,asT (by omega),asT (by omega),et,ymk (by omega),asR,encR2,encR3]
   have sl:small (len:Rat):=ygF (by omega)
   show yaB (l.getD (l.length-1) default).2.num (l.getD (l.length-1) default).2.den (len:Rat).num ((len:Rat).den:Int) _
   rw [yBc s1.2 sl,yJG,cbF (by grind)]
   exact fin
end
theorem DV.Worth_good {cs:List Ck} {A:List (List RS)} (h:DV cs A) {D:Int} (hD:1≤D∧D≤1000000000000) (hi:InA D A) :
   (∀ c∈cs,∀ a∈A,Go.Pf.Vc.small (wV c a))∧∀ K,yaq (cks cs) (rspL A) K=K (tabW cs A) 0:=by
 have h6:=h.d.n6;have h1:=h.d.n0;have hl:=h.l
 have e:pcsD (A.map rsp)=rspL A:=by
   unfold pcsD rspL
   rw [List.map_map]
   rfl
 have hall:∀ c∈cs,∀ a∈A,Go.Pf.Vc.small (wV c a)∧∀ K,yar c.len (ints c.cuts) (ints c.dens) (rsp a) K=K (wV c a).num (wV c a).den 0:=fun c hc a ha=>by
   obtain ⟨k1,k2⟩:=h.d.mem hc
   refine (h.p a ha).Worth_good k1 ?_ hD (hi a ha)
   rw [k2]
   exact h.wi a ha
 refine ⟨fun c hc a ha=>(hall c hc a ha).1,fun K=>?_⟩
 have hck:∀ K,ybk (cks cs) (pcsD (A.map rsp)) K=K 0:=fun K=>by rw [e];exact pCheckD h K
 have hf:∀ c∈cs,∀ a∈A,fW c (rsp a)=((wV c a).num,((wV c a).den:Int),0):=fun c hc a ha=>fW_eq (t:=((wV c a).num,((wV c a).den:Int),0)) (hall c hc a ha).2
 rw [← e]
 refine yBg (F:=fW) (by rw [List.length_map];exact hl) h1 h6 hck (fun c hc p hp K=>?_) (fun _=>⟨?_,rfl⟩) (fun c hc p hp hn=>?_) K
 · obtain ⟨a,ha,rfl⟩:=List.mem_map.1 hp
   rw [hf c hc a ha]
   exact (hall c hc a ha).2 K
 · unfold tabW
   refine List.map_congr_left fun c hc=>?_
   unfold rts
   rw [List.map_map,List.map_map]
   congr 1
   refine List.map_congr_left fun a ha=>?_
   show encW (wV c a)=.agg [.int .i64 (fW c (rsp a)).1,.int .i64 (fW c (rsp a)).2.1]
   rw [hf c hc a ha]
   rfl
 · obtain ⟨a,ha,rfl⟩:=List.mem_map.1 hp
   rw [hf c hc a ha] at hn
   exact absurd rfl hn
end Go.Pf.Vc
namespace Go.Pf.Vc
open Go Go.Pf
section
variable {cs:List Ck} {A:List (List RS)}
theorem yJL {cuts dens:List Int} {D:Int} (hD:1≤D):∀ {l:List RS},(∀ s∈l,In D s.1∧In D s.2)→In D (sumV (dV (vX cuts dens)) l)
 | [],_=>In.int hD 0
 | s::_,h=>(dV_In hD (h s List.mem_cons_self)).add (yJL hD fun t ht=>h t (List.mem_cons_of_mem _ ht))
theorem yBq {len:Int} {cuts dens:List Int} (hv:VC len cuts dens):∀ {l:List RS},(∀ s∈l,s.1<s.2)→Wi len l→0≤sumV (dV (vX cuts dens)) l∧sumV (dV (vX cuts dens)) l≤12000*((l.length:Int):Rat)
 | [],_,_=>⟨Rat.le_refl,by show (0:Rat)≤12000*0;grind⟩
 | s::r,h,hw=>by
   have a:=yG6 hv (h s List.mem_cons_self) (hw s List.mem_cons_self)
   have b:=yBq hv (l:=r) (fun t ht=>h t (List.mem_cons_of_mem _ ht)) (fun t ht=>hw t (List.mem_cons_of_mem _ ht))
   have hc:(((s::r).length:Int):Rat)=((r.length:Int):Rat)+1:=by
     rw [show ((s::r).length:Int)=(r.length:Int)+1 by rw [List.length_cons];omega,Rat.intCast_add];rfl
   rw [hc]
   show 0≤dV (vX cuts dens) s+sumV (dV (vX cuts dens)) r∧dV (vX cuts dens) s+sumV (dV (vX cuts dens)) r≤_
   grind
theorem DV.wV_bound (h:DV cs A) {i j:Nat} (hi:i<cs.length) (hj:j<cs.length):0≤wV (cs.getD i default) (A.getD j [])∧wV (cs.getD i default) (A.getD j [])≤720000:=by
 have hl:=h.l
 have hm:=ybU [] (show j<A.length by omega)
 have hok:=h.d.ok i hi
 have hw:=h.wi _ hm
 rw [← h.d.len i hi] at hw
 have p:=h.p _ hm
 have b:=yBq hok (yn3 p.c) hw
 have hn:(((A.getD j []).length:Int):Rat)≤60:=Rat.intCast_le_intCast.2 (show ((A.getD j []).length:Int)≤60 by have:=p.n;omega)
 unfold wV
 grind
theorem yKJ (h:DV cs A) {D:Int} (hD:1≤D∧D≤100000000) (hi:InA D A) {j:Nat} (hj:j<cs.length):small (prt cs A j):=by
 have hl:=h.l
 have hok:=h.d.ok j hj
 have tb:=ykP hok
 have tp:=yGN hok
 have b:=h.wV_bound hj hj
 have hI:In D (wV (cs.getD j default) (A.getD j [])):=yJL hD.1 (hi _ (ybU [] (by omega)))
 unfold prt
 generalize totC (cs.getD j default).cuts (cs.getD j default).dens=t at tb tp
 generalize wV (cs.getD j default) (A.getD j [])=w at b hI
 have h1:(1:Rat)≤(t:Rat):=Rat.intCast_le_intCast.2 (show (1:Int)≤t by omega)
 have t0:(t:Rat)≠0:=by grind
 have e:w / (t:Rat)*(t:Rat)=w:=Rat.div_mul_cancel t0
 have tD:t*D≤12000*D:=Int.mul_le_mul_of_nonneg_right tb.2 (by omega)
 have tD1:1*1≤t*D:=Int.mul_le_mul (by omega) hD.1 (by omega) (by omega)
 have p0:0≤w / (t:Rat):=Rat.not_lt.1 fun k=>by
   have:=Rat.mul_lt_mul_of_pos_right k (show (0:Rat)<(t:Rat) by grind)
   grind
 have p1:w / (t:Rat)≤720000:=by
   have:=Rat.mul_le_mul_of_nonneg_left h1 p0
   grind
 exact (hI.div hD.1 (d:=t) (by omega)).small (M:=720000) ⟨by omega,by omega⟩ (by omega) (by show -(720000:Rat)≤_;grind) (by show _≤(720000:Rat);grind)
theorem DV.Make_of (h:DV cs A) (hw:∀ c∈cs,∀ a∈A,Go.Pf.Vc.small (wV c a)) (he:∀ K,yaq (cks cs) (rspL A) K=K (tabW cs A) 0) (hs:∀ j,j<cs.length→Go.Pf.Vc.small (prt cs A j)) (K:Int→List PV→Int→Prop) :
   ya9 (cks cs) (rspL A) K=K (claimsM cs A (prtL cs A cs.length) (gapD cs A)) (tabW cs A) 0:=by
 refine yjS _ _ _ _ _ (fun K k=>?_) K
 unfold ya9 ygD
 rw [he]
 show cbr false _ _
 rw [yaa]
 dsimp only [Go.Pf.jn]
 rw [yba]
 refine ⟨cs.length+1,(ykR h hw _ _ _ _ (YY:=K 0 [] 16) rfl (fun _=>rfl)).mpr ?_⟩
 rcases ykS (cs:=cs) (A:=A) cs.length 0 with ⟨_,e⟩ | ⟨hn,_⟩
 · refine e.mpr ?_
   show cbr false _ _
   rw [yaa,show (decide ((rts (prtL cs A cs.length)).length=(rts (prtL cs A cs.length)).length)&&decide ((rts (prtL cs A cs.length)).length=(rts (prtL cs A cs.length)).length))=true by simp,yay]
   refine ⟨6,?_⟩
   have hP:=ysN cs A cs.length
   have hg:=h.gapD_eq (tabW cs A) (rts (prtL cs A cs.length))
   have s:=fun (n i:Nat) (hi:i<5) (acc:Int)=>yDA h hw hP hg (fun yl341 yl342 yl343 yl344 yi345 yi346 yl347 yi348 yb349=>K yi346 yl347 (0:Int)) (n:=n) hi 0 acc (tabW cs A)
   refine (s 5 0 (by omega) 0).mpr ((s 4 1 (by omega) _).mpr ((s 3 2 (by omega) _).mpr ((s 2 3 (by omega) _).mpr ((s 1 4 (by omega) _).mpr ?_))))
   rw [ybH,cbF (by omega)]
   exact k
 · exact absurd (fun j h1 h2=>hs j (by omega)) hn
theorem DV.asked8 (h:DV cs A) (hw:∀ c∈cs,∀ a∈A,Go.Pf.Vc.small (wV c a)) (hW:∀ K,yaq (cks cs) (rspL A) K=K (tabW cs A) 0) (hs:∀ j,j<cs.length→Go.Pf.Vc.small (prt cs A j)) (K:Int→Int→Bool→Int→Prop) :
   ybd (cks cs) (rspL A) 8 K=K (brk cs A (prtL cs A cs.length) (gapD cs A) 8).1 (brk cs A (prtL cs A cs.length) (gapD cs A) 8).2.1 (brk cs A (prtL cs A cs.length) (gapD cs A) 8).2.2 0:=by
 refine yzn _ _ _ _ _ _ _ (fun K k=>?_) K
 have hb:=fun K=>yyc h hw (P:=prtL cs A cs.length) (c:=8) (fun e=>ysN cs A cs.length) (by omega) (g:=gapD cs A) (fun K=>h.gapD_eq (tabW cs A) (rts (prtL cs A cs.length)) K) K
 unfold ybd yjO
 dsimp only [Go.Pf.jn]
 rw [pCheckD h]
 show yaq _ _ _
 rw [hW]
 show ∃ n,_
 rw [yba]
 refine ⟨cs.length+1,(yw5 h hw _ _ _ _ (YY:=K 0 0 false 16) rfl (fun _=>rfl)).mpr ?_⟩
 rcases ykS (cs:=cs) (A:=A) cs.length 0 with ⟨_,e⟩ | ⟨hn,_⟩
 · refine e.mpr ?_
   show cbr false _ _
   rw [yaa,asT rfl,asT (by omega),List.take_length,hb]
   exact k
 · exact absurd (fun j h1 h2=>hs j (by omega)) hn
theorem DV.good (h:DV cs A) {D:Int} (hD:1≤D∧D≤100000000) (hi:InA D A) :
   (∀ c∈cs,∀ a∈A,Go.Pf.Vc.small (wV c a))∧(∀ K,yaq (cks cs) (rspL A) K=K (tabW cs A) 0)∧(∀ j,j<cs.length→Go.Pf.Vc.small (prt cs A j)) ∧
   ∀ K,ya9 (cks cs) (rspL A) K=K (claimsM cs A (prtL cs A cs.length) (gapD cs A)) (tabW cs A) 0:=by
 obtain ⟨h1,h2⟩:=h.Worth_good (D:=D) ⟨hD.1,by omega⟩ hi
 have h3:=fun j (hj:j<cs.length)=>yKJ h hD hi hj
 exact ⟨h1,h2,h3,h.Make_of h1 h2 h3⟩
end
end Go.Pf.Vc
namespace Go.Pf.Vc
open Go Go.Pf
def two6:List Ck:=[⟨2,[0,2],[1]⟩,⟨2,[0,1,2],[3,1]⟩]
def fore6:List (List Sp):=[[⟨0,1,1,1⟩],[⟨1,1,2,1⟩]]
def back6:List (List Sp):=[[⟨1,1,2,1⟩],[⟨0,1,1,1⟩]]
def foreR:List (List RS):=[[(0,1)],[(1,2)]]
def backR:List (List RS):=[[(1,2)],[(0,1)]]
theorem yL4:fore6.map rsL=foreR:=by decide +kernel
theorem yL5:back6.map rsL=backR:=by decide +kernel
theorem yOH:DV two6 foreR:=by
 have:=(yIX (cs:=two6) (ps:=fore6) (by decide +kernel)).1
 rw [yL4] at this
 exact this
theorem yOI:DV two6 backR:=by
 have:=(yIX (cs:=two6) (ps:=back6) (by decide +kernel)).1
 rw [yL5] at this
 exact this
theorem yG8 {A:List (List RS)} (h1:[((0:Rat),(1:Rat))]∈A) (h2:[((1:Rat),(2:Rat))]∈A):gapD two6 A=false:=by
 cases h:gapD two6 A with
 | false=>rfl
 | true =>
   obtain ⟨p,k0,k2,hn⟩:=yBn.1 h
   have k2:p<2:=k2
   refine absurd ?_ hn
   by_cases hp:p<1
   · exact ⟨_,h1,_,List.mem_cons_self,k0,hp⟩
   · exact ⟨_,h2,_,List.mem_cons_self,Rat.not_lt.1 hp,k2⟩
theorem yw6:gapD two6 foreR=false:=yG8 (by decide) (by decide)
theorem yL6:gapD two6 backR=false:=yG8 (by decide) (by decide)
theorem yBr {D:Int} (h:1≤D) (a b:Int):In D (a:Rat)∧In D (b:Rat):=⟨In.int h a,In.int h b⟩
theorem yL7:InA 1 foreR:=by
 intro a ha s hs
 unfold foreR at ha
 simp only [List.mem_cons,List.not_mem_nil,or_false] at ha
 rcases ha with rfl | rfl <;> (simp only [List.mem_cons,List.not_mem_nil,or_false] at hs;subst hs)
 · exact yBr (by omega) 0 1
 · exact yBr (by omega) 1 2
theorem yL8:InA 1 backR:=by
 intro a ha s hs
 unfold backR at ha
 simp only [List.mem_cons,List.not_mem_nil,or_false] at ha
 rcases ha with rfl | rfl <;> (simp only [List.mem_cons,List.not_mem_nil,or_false] at hs;subst hs)
 · exact yBr (by omega) 1 2
 · exact yBr (by omega) 0 1
def lit6:List PV:=[.data [.agg [.int .i64 1,.int .i64 1],.agg [.int .i64 1,.int .i64 1]],.data [.agg [.int .i64 3,.int .i64 1],.agg [.int .i64 1,.int .i64 1]]]
theorem yL9:tabW two6 foreR=lit6:=by kernel_rfl
theorem yG9:claimsM two6 foreR (prtL two6 foreR 2) false=17:=by decide +kernel
theorem yHa:claimsM two6 backR (prtL two6 backR 2) false=23:=by decide +kernel
theorem yBs:brk two6 foreR (prtL two6 foreR 2) false 2=(1,1,true)∧brk two6 foreR (prtL two6 foreR 2) false 4=(1,0,true)∧brk two6 foreR (prtL two6 foreR 2) false 8=(1,0,true):=by decide +kernel
theorem yKK (K:Bool→Prop):yda lit6 lit6 K=K true:=by
 refine ywD _ _ _ (fun K k=>?_) K
 unfold yda ykD
 show ∃ n,_
 refine ⟨3,?_⟩
 show ∃ n,_
 refine ⟨3,?_⟩
 show ∃ n,_
 exact ⟨3,k⟩
theorem yHb (s t:Sp) (x0:List PV→Int→Bool→Prop) (x1:List PV→List PV→Int→Bool→Prop):ygb x0 x1 4 [encS s,encS t] 0=x1 [.data [encS s],.data [encS t]] [encS s,encS t] 2 false:=by kernel_rfl
theorem given6 (s t:Sp) (K:List PV→Prop):yeQ [encS s,encS t] K=K [.data [encS s],.data [encS t]]:=by
 refine yCC _ _ (fun K k=>?_) K
 unfold yeQ yqR
 refine ⟨4,?_⟩
 rw [yHb]
 rw [asT rfl,asT (by simp)]
 exact k
theorem of6 (a b:Int) (K:Int→Int→Int→Int→Prop):ydt a b K=K a 1 b 1:=rfl
theorem Of6 (a:Int) (K:Int→Int→Prop):yjx a K=K a 1:=rfl
theorem yNn (K:List PV→Prop):ys3 K=K (cks two6):=rfl
theorem yMa:[PV.data [encS ⟨0,1,1,1⟩],PV.data [encS ⟨1,1,2,1⟩]]=rspL foreR:=by kernel_rfl
theorem yMb:[PV.data [encS ⟨1,1,2,1⟩],PV.data [encS ⟨0,1,1,1⟩]]=rspL backR:=by kernel_rfl
theorem against6 {c:Int} {a b:Int} (h:∀ K,ybd (cks two6) (rspL foreR) c K=K a b true 0) (K:Bool→Prop):yh3 (cks two6) (rspL foreR) c a b K=K true:=by
 unfold yh3 ynV
 rw [yCE h,if_pos rfl,yG5 h]
 dsimp only [Go.Pf.jn]
 rw [ceT rfl,ceT rfl,ceT rfl,ceT rfl]
 rfl
theorem ys9 (K:Bool→Prop):ydu K=K true:=by
 have gf:=yOH.good (D:=1) ⟨by omega,by omega⟩ yL7
 have gb:=yOI.good (D:=1) ⟨by omega,by omega⟩ yL8
 have e2:∀ K,ybd (cks two6) (rspL foreR) 2 K=K 1 1 true 0:=fun K=>by
   rw [yOH.asked gf.1 gf.2.1 (.inr (.inl rfl)),yw6,show two6.length=2 from rfl,yBs.1]
 have e4:∀ K,ybd (cks two6) (rspL foreR) 4 K=K 1 0 true 0:=fun K=>by
   rw [yOH.asked gf.1 gf.2.1 (.inr (.inr (.inl rfl))),yw6,show two6.length=2 from rfl,yBs.2.1]
 have e8:∀ K,ybd (cks two6) (rspL foreR) 8 K=K 1 0 true 0:=fun K=>by
   rw [yOH.asked8 gf.1 gf.2.1 gf.2.2.1,yw6,show two6.length=2 from rfl,yBs.2.2]
 unfold ydu yqT
 simp only [of6,Of6,yNn]
 show yeQ [encS ⟨0,1,1,1⟩,encS ⟨1,1,2,1⟩] _=_
 rw [given6]
 show yeQ [encS ⟨1,1,2,1⟩,encS ⟨0,1,1,1⟩] _=_
 rw [given6,yMa,yMb,gf.2.1,gf.2.2.2,gb.2.2.2,yw6,yL6,show two6.length=2 from rfl,yG9,yHa,yL9,yOm,ceT rfl]
 show yda lit6 lit6 _=_
 rw [yKK,yaf,ceT rfl,ceT rfl,ceT rfl,ceT rfl,against6 e2,yaf,against6 e4,yaf,against6 e8]
end Go.Pf.Vc
namespace Go.Pf.Vc
open Go Go.Pf
section
variable {cs:List Ck} {A:List (List RS)}
theorem yBt {o:Option (Nat×Nat)}:(outS3 o).2.2=false↔o=none:=by
 cases o with
 | none=>exact ⟨fun _=>rfl,fun _=>rfl⟩
 | some q=>obtain ⟨a,b⟩:=q;exact ⟨(fun h=>by cases h),(fun h=>by cases h)⟩
theorem ysO {P:List Rat} {g:Bool}:(brk cs A P g 1).2.2=false↔scanA (wr0 A) cs.length cs.length 0=none∧g=false:=by
 have e:brk cs A P g 1=(match scanA (wr0 A) cs.length cs.length 0 with | some (a,b)=>((a:Int),(b:Int),true) | none=>if g then (-1,-1,true) else (0,0,false)):=rfl
 rw [e]
 cases scanA (wr0 A) cs.length cs.length 0 with
 | some q=>obtain ⟨a,b⟩:=q;exact ⟨(fun h=>by cases h),(fun h=>by cases h.1)⟩
 | none=>cases g <;> simp
theorem yyH {P:List Rat} {g:Bool}:(brk cs A P g 2).2.2=false↔∀ a,a<cs.length→shareQ cs a≤wV (cs.getD a default) (A.getD a []):=by
 have e:brk cs A P g 2=outS3 (scanA (wr1 cs A) cs.length cs.length 0):=rfl
 rw [e,yBt,yq2]
 constructor
 · intro h a ha
   have:=h a (by omega) (by omega) a ha
   unfold wr1 at this
   rw [decide_eq_true rfl,Bool.true_and,decide_eq_false_iff_not] at this
   exact Rat.not_lt.1 this
 · intro h a _ ha b hb
   unfold wr1
   by_cases hab:a=b
   · have:=h a (by omega)
     rw [decide_eq_false (Rat.not_lt.2 this),Bool.and_false]
   · rw [decide_eq_false hab,Bool.false_and]
theorem yBu {P:List Rat} {g:Bool}:(brk cs A P g 4).2.2=false↔∀ a b,a<cs.length→b<cs.length→wV (cs.getD a default) (A.getD b [])≤wV (cs.getD a default) (A.getD a []):=by
 have e:brk cs A P g 4=outS3 (scanA (wr2 cs A) cs.length cs.length 0):=rfl
 rw [e,yBt,yq2]
 constructor
 · intro h a b ha hb
   have:=h a (by omega) (by omega) b hb
   unfold wr2 at this
   rw [decide_eq_false_iff_not] at this
   exact Rat.not_lt.1 this
 · intro h a _ ha b hb
   unfold wr2
   exact decide_eq_false (Rat.not_lt.2 (h a b (by omega) hb))
theorem yBv (h:DV cs A) {i:Nat} (hi:i<cs.length) (hn:scanA (wr0 A) cs.length cs.length 0=none) (hg:gapD cs A=false):(A.map (wV (cs.getD i default))).sum=((totC (cs.getD i default).cuts (cs.getD i default).dens:Int):Rat):=by
 rw [← h.whole hn hg hi,yG0]
 rfl
theorem yDE (cs:List Ck) (a:Nat) (h:1≤cs.length):((cs.length:Int):Rat)*shareQ cs a=((totC (cs.getD a default).cuts (cs.getD a default).dens:Int):Rat):=by
 unfold shareQ
 rw [Rat.mul_comm]
 exact Rat.div_mul_cancel (rne (by omega))
theorem yIY (h:DV cs A) {P:List Rat} (h1:(brk cs A P (gapD cs A) 1).2.2=false) (h4:(brk cs A P (gapD cs A) 4).2.2=false):(brk cs A P (gapD cs A) 2).2.2=false:=by
 rw [ysO] at h1
 rw [yBu] at h4
 rw [yyH]
 intro a ha
 have hl:=h.l
 have hs:=yBv h ha h1.1 h1.2
 have hm:=yDE cs a (by omega)
 have:=yLZ (wV (cs.getD a default)) (wV (cs.getD a default) (A.getD a [])) A (fun x hx=>by
   obtain ⟨j,hj,rfl⟩:=ysM [] hx
   exact h4 a j ha (by omega))
 rw [hs,← hm,hl] at this
 have hn:(0:Rat)<((cs.length:Int):Rat):=Rat.intCast_pos.2 (by omega)
 have hc:((cs.length:Nat):Rat)=((cs.length:Int):Rat):=rfl
 rw [hc] at this
 refine Rat.not_lt.1 fun k=>?_
 have:=Rat.mul_lt_mul_of_pos_left k hn
 grind
theorem yHc (h:DV cs A) {P:List Rat} (h1:(brk cs A P (gapD cs A) 1).2.2=false) (h2:(brk cs A P (gapD cs A) 2).2.2=false) (hn:cs.length=2):(brk cs A P (gapD cs A) 4).2.2=false:=by
 rw [ysO] at h1
 rw [yyH] at h2
 rw [yBu]
 intro a b ha hb
 have hl:=h.l
 have hs:=yBv h ha h1.1 h1.2
 have hm:=yDE cs a (by omega)
 have hq:=h2 a ha
 obtain ⟨x,r,rfl,hr⟩:=yaH (show A.length=1+1 by omega)
 obtain ⟨y,r2,rfl,hr2⟩:=yaH hr
 obtain rfl:=List.eq_nil_of_length_eq_zero hr2
 have e2:((cs.length:Int):Rat)=2:=by rw [hn];rfl
 rw [e2] at hm
 have hs:wV (cs.getD a default) x+(wV (cs.getD a default) y+0)=_:=hs
 obtain rfl | rfl:a=0∨a=1:=by omega
 all_goals obtain rfl | rfl:b=0∨b=1:=by omega
 · exact Rat.le_refl
 · show wV (cs.getD 0 default) y≤wV (cs.getD 0 default) x
   have hq:shareQ cs 0≤wV (cs.getD 0 default) x:=hq
   grind
 · show wV (cs.getD 1 default) x≤wV (cs.getD 1 default) y
   have hq:shareQ cs 1≤wV (cs.getD 1 default) y:=hq
   grind
 · exact Rat.le_refl
theorem DV.all_good (h:DV cs A) {i:Nat} (hi:i<cs.length) (K:Int→Int→Int→Prop):yar (cs.getD i default).len (ints (cs.getD i default).cuts) (ints (cs.getD i default).dens) (rsp [((0:Rat),((cs.getD 0 default).len:Rat))]) K =
   K ((totC (cs.getD i default).cuts (cs.getD i default).dens:Int):Rat).num ((totC (cs.getD i default).cuts (cs.getD i default).dens:Int):Rat).den 0:=by
 have hok:=h.d.ok i hi
 have hlen:=h.d.len i hi
 have:=((yL3 h.len0).Worth_good hok (fun s hs=>by
   rcases List.mem_cons.1 hs with rfl | hs
   · exact ⟨Rat.le_refl,by rw [hlen];exact Rat.le_refl⟩
   · cases hs) (D:=1) ⟨by omega,by omega⟩ (fun s hs=>by
   rcases List.mem_cons.1 hs with rfl | hs
   · exact yBr (by omega) 0 _
   · cases hs)).2 K
 have e:sumV (dV (vX (cs.getD i default).cuts (cs.getD i default).dens)) [((0:Rat),((cs.getD 0 default).len:Rat))]=((totC (cs.getD i default).cuts (cs.getD i default).dens:Int):Rat):=by
   rw [← yFe hok,hlen]
   show (vX _ _ _-vX _ _ _)+0=_
   rw [Rat.add_zero]
 rw [e] at this
 exact this
theorem yDF (h:DV cs A) (hw:∀ c∈cs,∀ a∈A,Go.Pf.Vc.small (wV c a)) (hn:scanA (wr0 A) cs.length cs.length 0=none) (hg:gapD cs A=false) {WV WA WM} {x0:List PV→Int→List PV→Int→Bool→Prop} {x1:Bool→Prop} {c:Int} (hx:∀ l i m k b,x0 l i m k b) :
   ∀ (r i n:Nat),i+r=cs.length→r<n→yaA WV WA WM ycV ydt yar x0 x1 n (cks cs) c (tabW cs A) (i:Int)
 | 0,i,n+1,hi,hn'=>by
   rw [yaA,yba,cbF (by omega)]
   exact hx _ _ _ _ _
 | r+1,i,n+1,hi,hn'=>by
   have h6:=h.d.n6;have hl:=h.l;have l0:=h.len0
   have hi':i<cs.length:=by omega
   have e1:=wib (n:=(i:Int)+1) (by omega) (by omega)
   have ih:=yDF h hw hn hg (WV:=WV) (WA:=WA) (WM:=WM) (x1:=x1) (c:=c) hx r (i+1) n (by omega) (by omega)
   have hs:=yBv h hi' hn hg
   have hm:=ybU default hi'
   have tb:=ykP (h.d.ok i hi')
   rw [yaA]
   dsimp only [lt,Go.Pf.jn]
   rw [yba,cbT (by omega),asT (by omega),ylJ,asT (by omega),Int.toNat_natCast,yq0 hi',asD,datD]
   refine yOr (fun q hq=>?_) (by rw [List.length_map];omega) _ (yJK _ _ yis (fun _=>?_) ?_)
   · obtain ⟨a,ha,rfl⟩:=List.mem_map.1 hq
     exact hw _ hm a ha
   · rw [asT (by omega),asT (by omega),yf1 hi',asCk,asT (by omega),yf1 (by omega),asCk,ck0,ck0,ck1,ck2,of6,Rat.zero_add,hs,e1,cast1]
     have ha:=h.all_good hi' (fun yi90 yi91 yi92=>cbr ((0:Int) != 0) (yaA WV WA WM ycV ydt yar x0 x1 n (cks cs) c (tabW cs A) ((i+1:Nat):Int)) (cbr (yi92 !=(0:Int)) (cbr true (x1 false) (yaA WV WA WM ycV ydt yar x0 x1 n (cks cs) c (tabW cs A) ((i+1:Nat):Int))) (cbr (!((yi90 ==((totC (cs.getD i default).cuts (cs.getD i default).dens:Int):Rat).num)&&((yi91 ==(((totC (cs.getD i default).cuts (cs.getD i default).dens:Int):Rat).den:Int))&&true))) (x1 false) (yaA WV WA WM ycV ydt yar x0 x1 n (cks cs) c (tabW cs A) ((i+1:Nat):Int)))))
     refine ha.mpr ?_
     rw [cnF rfl,cnF rfl]
     have eb:∀ a b:Int,(!((a == a)&&((b == b)&&true)))=false:=fun a b=>by simp
     rw [eb,yaa]
     exact ih
   · rw [asT (by omega),asT (by omega),yf1 hi',asCk,asT (by omega),yf1 (by omega),asCk,ck0,ck0,ck1,ck2,of6,e1,cast1]
     have ha:=h.all_good hi' (fun yi90 yi91 yi92=>cbr ((16:Int) != 0) (yaA WV WA WM ycV ydt yar x0 x1 n (cks cs) c (tabW cs A) ((i+1:Nat):Int)) (cbr (yi92 !=(0:Int)) (cbr true (x1 false) (yaA WV WA WM ycV ydt yar x0 x1 n (cks cs) c (tabW cs A) ((i+1:Nat):Int))) (cbr (!((yi90 ==(0:Int))&&((yi91 ==(0:Int))&&true))) (x1 false) (yaA WV WA WM ycV ydt yar x0 x1 n (cks cs) c (tabW cs A) ((i+1:Nat):Int)))))
     refine ha.mpr ?_
     rw [cnT (by omega)]
     exact ih
end
theorem yzq {cs:List Ck} {ps:List (List Sp)} (hc:cs.length≤9223372036854775807) (hl:ps.length≤9223372036854775807) (h64:∀ p∈ps,∀ s∈p,s.i64):yfX (cks cs) (pieces ps) (fun b=>b=true):=by
 unfold yfX yhT
 rw [yKI hc hl h64]
 cases hk:ok6 cs ps with
 | false =>
   rw [Bool.not_false,yaf,ys9]
 | true =>
   obtain ⟨h,e⟩:=yIX hk
   rw [e,Bool.not_true,yaa]
   generalize ps.map rsL=A at h
   have h6:=h.d.n6
   rcases h.Make with em | ⟨hw,hs,em⟩
   · rw [em]
     dsimp only [Go.Pf.jn]
     rw [cnT (by decide),ceT rfl,ys9]
   · rw [em]
     dsimp only [Go.Pf.jn,lt]
     rw [cnF rfl]
     have e1:=bit1 (brk cs A (prtL cs A cs.length) (gapD cs A) 1).2.2 (brk cs A (prtL cs A cs.length) (gapD cs A) 2).2.2 (brk cs A (prtL cs A cs.length) (gapD cs A) 4).2.2 (brk cs A (prtL cs A cs.length) (gapD cs A) 8).2.2 (brk cs A (prtL cs A cs.length) (gapD cs A) 16).2.2
     have e2:=bit2 (brk cs A (prtL cs A cs.length) (gapD cs A) 1).2.2 (brk cs A (prtL cs A cs.length) (gapD cs A) 2).2.2 (brk cs A (prtL cs A cs.length) (gapD cs A) 4).2.2 (brk cs A (prtL cs A cs.length) (gapD cs A) 8).2.2 (brk cs A (prtL cs A cs.length) (gapD cs A) 16).2.2
     have e4:=bit4 (brk cs A (prtL cs A cs.length) (gapD cs A) 1).2.2 (brk cs A (prtL cs A cs.length) (gapD cs A) 2).2.2 (brk cs A (prtL cs A cs.length) (gapD cs A) 4).2.2 (brk cs A (prtL cs A cs.length) (gapD cs A) 8).2.2 (brk cs A (prtL cs A cs.length) (gapD cs A) 16).2.2
     rw [← yG4] at e1 e2 e4
     have f1:=yIY h (P:=prtL cs A cs.length)
     have f2:=yHc h (P:=prtL cs A cs.length)
     have f3:=ysO (cs:=cs) (A:=A) (P:=prtL cs A cs.length) (g:=gapD cs A)
     unfold andU8 at e1 e2 e4
     rw [e1,e2,e4,ylJ,yba]
     have en:((cs.length:Int) !=(cs.length:Int))=false:=by simp
     rw [en]
     generalize (brk cs A (prtL cs A cs.length) (gapD cs A) 1).2.2=b1 at *
     generalize (brk cs A (prtL cs A cs.length) (gapD cs A) 2).2.2=b2 at *
     generalize (brk cs A (prtL cs A cs.length) (gapD cs A) 4).2.2=b4 at *
     have fin:(∃ n:Nat,yaA yeP ydu ya9 ycV ydt yar (fun _ _ _ _ _=>ydu fun b=>b=true) (fun b=>b=true) n (cks cs) (claimsM cs A (prtL cs A cs.length) (gapD cs A)) (tabW cs A) 0)∨b1=true:=by
       cases b1 with
       | true=>exact .inr rfl
       | false =>
         obtain ⟨hn,hg⟩:=f3.1 rfl
         exact .inl ⟨cs.length+1,yDF h hw hn hg (fun _ _ _ _ _=>by rw [ys9]) cs.length 0 (cs.length+1) (by omega) (by omega)⟩
     have al:ydu fun b=>b=true:=by rw [ys9]
     have e2n:∀ P Q:Prop,cbr ((cs.length:Int) == 2) P Q=if cs.length=2 then P else Q:=fun P Q=>by
       by_cases h2:cs.length=2
       · rw [if_pos h2,ceT (by omega)]
       · rw [if_neg h2,ceF (by omega)]
     rcases fin with fin | rfl
     · cases b1 with
       | true =>
         cases b2 <;> cases b4 <;> exact al
       | false =>
         cases b2 with
         | true =>
           cases b4 with
           | true=>exact fin
           | false=>exact absurd (f1 rfl rfl) (by decide)
         | false =>
           cases b4 with
           | false=>exact fin
           | true =>
             show cbr ((cs.length:Int) == 2) _ _
             rw [e2n]
             by_cases h2:cs.length=2
             · exact absurd (f2 rfl rfl h2) (by decide)
             · rw [if_neg h2]
               exact fin
     · cases b2 <;> cases b4 <;> exact al
def dsDv:DS:=.a [.s (.s dsS)]
theorem yDG:∀ (rows:List PV),(∀ x∈rows,x.isAgg=(DS.s dsS).isA∧HasF (.s dsS) x.cells)→∃ l:List (List Sp),rows=pieces l∧∀ p∈l,∀ s∈p,s.i64
 | [],_=>⟨[],rfl,by simp⟩
 | x::r,h=>by
   obtain ⟨l,e,hl⟩:=yDG r (fun y hy=>h y (List.mem_cons_of_mem _ hy))
   obtain ⟨h1,h2⟩:=h x (List.mem_cons_self ..)
   obtain ⟨p,ex,hp⟩:=yNf h1 h2
   refine ⟨p::l,by rw [ex,e];rfl,fun q hq=>?_⟩
   rcases List.mem_cons.1 hq with rfl | hq
   · exact hp
   · exact hl q hq
theorem A_div {as:List PV} (h:HasAs [.s dsC,dsDv] as):∃ (l:List Ck) (ps:List (List Sp)),as=[.data (cks l),.agg [.data (pieces ps)]]∧l.length≤9223372036854775807∧ps.length≤9223372036854775807∧∀ p∈ps,∀ s∈p,s.i64:=by
 simp only [HasAs] at h
 obtain ⟨x,r,rfl,x1,x2,y,r2,rfl,y1,y2,rfl⟩:=h
 obtain ⟨l,e1,hl,_⟩:=F_cks x2
 rw [yDp x1 e1,yIM (l:=[.s (.s dsS)]) y1]
 generalize y.cells=c at y2
 simp only [dsDv,HasF,HasL] at y2
 obtain ⟨c1,c2,rfl,⟨rows,rfl,hr,hx⟩,rfl⟩:=y2
 obtain ⟨ps,rfl,hp⟩:=yDG rows (fun x hx'=>by
   obtain ⟨k1,k2⟩:=hx x hx'
   exact ⟨k1,by simp only [HasF];exact k2⟩)
 rw [yf2] at hr
 exact ⟨l,ps,rfl,hl,hr,hp⟩
end Go.Pf.Vc
namespace Go.Pf.Vc
open Go Go.Pf
theorem yMc {n g:Nat} (e:List (Nat×EffF)) (he:EG e) {x y:PV} (hx:(spSrt n g).s.gd x=true) (hy:(spSrt n g).s.gd y=true):Ans (E e) ych [x,y] (.int .i64 (spCmp x y)):=by
 obtain ⟨a,b,c,d,rfl,h1⟩:=gd_sp hx
 obtain ⟨a',b',c',d',rfl,h2⟩:=gd_sp hy
 obtain ⟨r,hr,ha⟩:=ysy e he [.agg [.int .i64 a,.int .i64 b,.int .i64 c,.int .i64 d],.agg [.int .i64 a',.int .i64 b',.int .i64 c',.int .i64 d']] (fun r=>r=.int .i64 (cmpI a b a' b')) (by
   show yhR a b c d a' b' c' d' (fun r=>PV.int .i64 r=.int .i64 (cmpI a b a' b'))
   unfold yhR yhi
   obtain ⟨k1,k2,k3⟩:=rt_of h1
   obtain ⟨k4,k5,k6⟩:=rt_of h2
   have:=yzA k1 k4 (fun x _=>PV.int .i64 x=.int .i64 (cmpI a b a' b'))
   rw [k2,k3,k5,k6] at this
   rw [this,yOl h1 h2])
 rw [hr] at ha
 exact ha
end Go.Pf.Vc
