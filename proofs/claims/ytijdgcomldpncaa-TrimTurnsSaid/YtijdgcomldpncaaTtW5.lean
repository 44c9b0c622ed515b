/- Part 5 of what the statement rests on: a verified evaluator over pure values, the conditions of the program's functions, and their plain laws. -/
import Derived.Test.YtijdgcomldpncaaTtW4
namespace Go.Pf.Vc
open Go Go.Pf
section
variable {len:Int} {cuts dens:List Int}
theorem yGs {q r:Rat} (hq:small q) (hr:small r):small (mxQ q r):=by unfold mxQ;split <;> assumption
theorem yGt {q r:Rat} (hq:small q) (hr:small r):small (mnQ q r):=by unfold mnQ;split <;> assumption
def worS (cuts dens:List Int) (i:Nat) (a b:Rat):Except Int Rat :=
 let f:=mxQ a (cuts.getD i 0:Int)
 let t:=mnQ b (cuts.getD (i+1) 0:Int)
 if ¬f<t∨dens.getD i 0=0 then .ok 0 else fit (t-f) fun d=>fit (d*(dens.getD i 0:Int)) .ok
theorem yEZ (h:VC len cuts dens) {i:Nat} (hi:i<dens.length) {a b:Rat} (ha:small a) (hb:small b) (K:Int→Int→Int→Prop) :
   yei len (ints cuts) (ints dens) i a.num a.den b.num b.den K=exK (worS cuts dens i a b) K:=by
 unfold yei ykO worS
 have l1:=h.l1;have l2:=h.l2
 have sc:=h.sc (i:=i+1) (by omega)
 have sc0:=h.sc (i:=i) (by omega)
 have sd:=h.sd (i:=i) (by omega)
 have e1:=wib (n:=(i:Int)+1) (by omega) (by omega)
 rw [yaD,yaD,e1,yjz,Int.toNat_natCast,Int.toNat_natCast,asT (by omega),asT (by omega),asC (by omega),yba (by omega),yyQ,yEY ha sc0,asT (by omega),asT (by omega),asC (by omega),yba (by omega),yyQ,yCX hb sc]
 have s1:=yGs ha sc0
 have s2:=yGt hb sc
 rw [ymL s1 s2]
 by_cases c1:mxQ a (cuts.getD i 0:Int)<mnQ b (cuts.getD (i+1) 0:Int)
 case neg =>
   rw [decide_eq_false c1,Bool.not_false,yac]
   simp only [c1,not_false_eq_true,true_or,if_true];rfl
 rw [decide_eq_true c1,Bool.not_true,yaa,asT (by omega),asT (by omega),asC (by omega),yba (by omega)]
 by_cases c2:dens.getD i 0=0
 · rw [ceT c2]
   simp only [c2,or_true,if_true];rfl
 rw [ceF c2,yHL s2 s1,ydb]
 have cc:¬(¬mxQ a (cuts.getD i 0:Int)<mnQ b (cuts.getD (i+1) 0:Int)∨dens.getD i 0=0):=fun x=>x.elim (fun y=>y c1) c2
 simp only [if_neg cc,fit]
 by_cases s3:small (mnQ b (cuts.getD (i+1) 0:Int)-mxQ a (cuts.getD i 0:Int))
 · rw [if_pos s3,if_pos s3,cnF rfl,asT (by omega),asT (by omega),asC (by omega),yyQ,yHM s3 sd,ydb]
   split <;> rfl
 · rw [if_neg s3,if_neg s3,cnT (by decide)];rfl
end
end Go.Pf.Vc
namespace Go.Pf.Vc
open Go Go.Pf
section
variable {len:Int} {cuts dens:List Int}
theorem ye5 {α:Type} {q:Rat} {k:Rat→Except Int α} (h:small q):fit q k=k q:=if_pos h
theorem yuU {α:Type} {q:Rat} {k:Rat→Except Int α} (h:¬small q):fit q k=.error 16:=if_neg h
theorem yuV {q:Rat} {K:Int→Int→Int→Prop}:exK (.ok q) K=K q.num q.den 0:=rfl
theorem yyR {c:Int} {K:Int→Int→Int→Prop}:exK (.error c) K=K 0 0 c:=rfl
theorem add_zero (q:Rat):q+0=q:=by grind
theorem ysh (h:VC len cuts dens) {a b:Rat} (ha:small a) (hb:small b) (hab:¬b<a) (W1:Int→List PV→List PV→(Int→Prop)→Prop) (W2:Int→Int→Int→(Bool→Prop)→Prop) (W3:Int→Int→Int→Int→(Bool→Prop)→Prop) (K:Int→Int→Int→Prop) :
   ∀ (r i n:Nat) (p sum:Rat),i+r=dens.length→r<n→small sum→p=mxQ a (mnQ b (cuts.getD i 0:Int)) →
     ycS W1 W2 W3 yei yfj (fun e f g=>(K e f g)) (fun _ _ _ _ _ _ _ _ _ j k _ _=>(K j k (0:Int)))
       n len (ints cuts) (ints dens) a.num a.den b.num b.den 0 0 sum.num sum.den i=exK (valS cuts dens b r i p sum) K
 | 0,i,n+1,p,sum,hi,hn,hs,hp=>by
   unfold ycS valS
   rw [yaD,cbF (by omega)];rfl
 | r+1,i,n+1,p,sum,hi,hn,hs,hp=>by
   unfold ycS
   have l1:=h.l1;have l2:=h.l2
   have e1:=wib (n:=(i:Int)+1) (by omega) (by omega)
   have hst:=h.step (i:=i) (by omega)
   have hst':((cuts.getD i 0:Int):Rat)<((cuts.getD (i+1) 0:Int):Rat):=Rat.intCast_lt_intCast.2 hst
   have sd:=h.sd (i:=i) (by omega)
   have sc:=h.sc (i:=i+1) (by omega)
   have sc0:=h.sc (i:=i) (by omega)
   rw [yaD,cbT (by omega),yEZ h (by omega) ha hb,e1,yjz]
   have ih:=fun p sum hs hp=>ysh h ha hb hab W1 W2 W3 K r (i+1) n p sum (by omega) (by omega) hs hp
   unfold valS worS
   obtain ⟨c0,hc0⟩:∃ c:Rat,c=((cuts.getD i 0:Int):Rat):=⟨_,rfl⟩
   obtain ⟨c,hc⟩:∃ c:Rat,c=((cuts.getD (i+1) 0:Int):Rat):=⟨_,rfl⟩
   obtain ⟨d,hd⟩:∃ d:Rat,d=((dens.getD i 0:Int):Rat):=⟨_,rfl⟩
   rw [← hc0,← hc] at hst'
   rw [← hc] at sc
   rw [← hc0] at sc0 hp
   rw [← hd] at sd
   rw [← hc] at ih
   simp only [← hc0,← hc,← hd]
   have zk:∀ K2:Int→Int→Int→Prop,fitK (sum+0) K2=K2 sum.num sum.den 0:=fun K2=>by rw [add_zero,ydb,if_pos hs]
   have en:(if b<c then b else c)=mnQ b c:=rfl
   rw [en]
   have nx:(if p<mnQ b c then mnQ b c else p)=mxQ a (mnQ b c):=by
     rw [hp];unfold mxQ mnQ
     grind
   have add0:=yyP hs (r:=0) (by decide)
   rw [show (0:Rat).num=0 from rfl,show ((0:Rat).den:Int)=1 from rfl] at add0
   by_cases c2:dens.getD i 0=0
   · rw [if_pos (.inr c2),if_pos (.inl c2),nx]
     rw [yuV,cnF rfl]
     rw [show ((0:Rat).num)=0 from rfl,show (((0:Rat).den:Nat):Int)=1 from rfl,add0,zk,cnF rfl]
     exact ih _ sum hs rfl
   by_cases c1:mxQ a c0<mnQ b c
   · -- the interval counts
     have hpm:p=mxQ a c0:=by
       rw [hp];unfold mxQ mnQ at *
       grind
     have hpl:p<mnQ b c:=by rw [hpm];exact c1
     rw [if_neg (fun x=>x.elim (fun y=>y c1) c2),if_neg (fun x=>x.elim c2 (fun y=>y hpl)),← hpm]
     have nx2:mnQ b c=mxQ a (mnQ b c):=by rw [← nx,if_pos hpl]
     by_cases s1:small (mnQ b c-p)
     case neg=>rw [yuU s1,yuU s1,yyR,cnT (by decide)];rfl
     rw [ye5 s1,ye5 s1]
     by_cases s2:small ((mnQ b c-p)*d)
     case neg=>rw [yuU s2,yuU s2,yyR,cnT (by decide)];rfl
     rw [ye5 s2,ye5 s2,yuV]
     rw [cnF rfl,yyP hs s2,ydb]
     by_cases s3:small (sum+(mnQ b c-p)*d)
     · rw [if_pos s3,ye5 s3,cnF rfl]
       exact ih _ _ s3 nx2
     · rw [if_neg s3,yuU s3,cnT (by decide)];rfl
   · have hpl:¬p<mnQ b c:=by
       rw [hp];unfold mxQ mnQ at *
       grind
     rw [if_pos (.inl c1),if_pos (.inr hpl),nx]
     rw [yuV,cnF rfl]
     rw [show ((0:Rat).num)=0 from rfl,show (((0:Rat).den:Nat):Int)=1 from rfl,add0,zk,cnF rfl]
     exact ih _ sum hs rfl
theorem yE0 (h1:cuts.length<4611686018427387904) (h2:dens.length<4611686018427387904) {an ad bn bd:Int} (ha:I64 an) (ha':I64 ad) (hb:I64 bn) (hb':I64 bd) (K:Int→Int→Int→Prop) :
   ycq len (ints cuts) (ints dens) an ad bn bd K=exK (valR len cuts dens an ad bn bd) K:=by
 refine yCW (fun r0 r1 r2 h K=>yvK _ _ _ _ _ _ _ r0 r1 r2 h K) (fun K k=>?_) K
 unfold ycq ykP
 rw [ynh h1 h2]
 unfold valR at k
 by_cases h:ckC len cuts dens=0
 case neg=>rw [cnT h,ynh h1 h2];rw [if_neg h] at k;exact k
 have hv:=ymM h
 have hl:=hv.len0
 rw [if_pos h] at k
 rw [cnF h,ywE (by omega) ha ha']
 by_cases p1:PT len an ad
 case neg=>rw [decide_eq_false p1,Bool.not_false,yac];rw [if_neg (fun x=>p1 x.1)] at k;exact k
 rw [decide_eq_true p1,Bool.not_true,yaa,ywE (by omega) hb hb']
 by_cases p2:PT len bn bd
 case neg=>rw [decide_eq_false p2,Bool.not_false,yac];rw [if_neg (fun x=>p2 x.2.1)] at k;exact k
 rw [decide_eq_true p2,Bool.not_true,yaa]
 obtain ⟨s1,e1,e2,z1,_⟩:=p1.pt
 obtain ⟨s2,f1,f2,_,_⟩:=p2.pt
 have hless:=ymL s2 s1
 rw [e1,e2,f1,f2] at hless
 rw [hless]
 by_cases p3:rt bn bd<rt an ad
 · rw [cbT p3];rw [if_neg (fun x=>x.2.2 p3)] at k;exact k
 rw [cbF p3]
 rw [if_pos ⟨p1,p2,p3⟩] at k
 refine ⟨dens.length+1,?_⟩
 have c0:((cuts.getD 0 0:Int):Rat)=0:=by rw [hv.2.2.2.2.2.1];rfl
 have:=ysh hv s1 s2 p3 yaW yeh ycG K dens.length 0 (dens.length+1) (rt an ad) 0 (by omega) (by omega) (by decide) (by rw [c0];unfold mxQ mnQ;grind)
 rw [e1,e2,f1,f2] at this
 exact this.mpr k
end
end Go.Pf.Vc
namespace Go.Pf.Vc
open Go Go.Pf
structure Ck where
 len:Int
 cuts:List Int
 dens:List Int
instance:Inhabited Ck:=⟨⟨0,[],[]⟩⟩
def encC (c:Ck):PV:=.agg [.int .i64 c.len,.data (ints c.cuts),.data (ints c.dens)]
def cks (l:List Ck):List PV:=l.map encC
def Ck.fin (c:Ck):Prop:=c.cuts.length<4611686018427387904∧c.dens.length<4611686018427387904
def Ck.err (c:Ck):Int:=ckC c.len c.cuts c.dens
def Ck.ok (c:Ck):Prop:=VC c.len c.cuts c.dens
instance (c:Ck):Decidable c.ok:=by unfold Ck.ok;infer_instance
theorem yaX (l:List Ck):(cks l).length=l.length:=List.length_map ..
theorem yeJ {l:List Ck} {i:Nat} (h:i<l.length):List.getD (cks l) i .nils=encC (l.getD i default):=by
 unfold cks
 rw [List.getD_eq_getElem?_getD,List.getD_eq_getElem?_getD,List.getElem?_map,List.getElem?_eq_getElem h]
 rfl
theorem ygj {α:Type} {l:List α} {i:Nat} (d:α) (h:i<l.length):l.drop i=l.getD i d::l.drop (i+1):=by
 rw [List.drop_eq_getElem_cons h,List.getD_eq_getElem?_getD,List.getElem?_eq_getElem h];rfl
theorem asCk {c:Ck} {P:Prop}:asr (conf (.agg [.i .i64,.d,.d]) (encC c)) P=P:=rfl
theorem ck0 (c:Ck):yab (yai (encC c) 0)=c.len:=rfl
theorem ck1 (c:Ck):ybq (yai (encC c) 1)=ints c.cuts:=rfl
theorem ck2 (c:Ck):ybq (yai (encC c) 2)=ints c.dens:=rfl
def yeK:List Ck→Int
 | []=>0
 | c::t=>if c.err=0 then yeK t else c.err
def yh1 (n:Int):List Ck→Bool
 | []=>true
 | c::t=>decide (c.len=n)&&yh1 n t
def yem (l:List Ck) (m:Nat):Int :=
 if l.length>6 then 4 else if m>2000 then 4 else if l.length=0 then 8 else if yeK l=0 then (if yh1 (l.getD 0 default).len l then 0 else 8) else yeK l
section
variable {l:List Ck}
def finC (l:List Ck):Prop:=∀ i,i<l.length→(l.getD i default).fin
theorem yDQ (hf:finC l) (hl:l.length<4611686018427387904) (x0:Int→Prop) (x1:List PV→List PV→List PV→Int→Int→Bool→Prop) (lg:List PV) :
   ∀ (r i n:Nat),i+r=l.length→r<n→ycQ yas x0 x1 n (cks l) lg (cks l) l.length i =
     if yeK (l.drop i)=0 then x1 (cks l) lg (cks l) l.length l.length false else x0 (yeK (l.drop i))
 | 0,i,n+1,hi,hn=>by
   unfold ycQ
   rw [cbF (by omega),List.drop_of_length_le (by omega),show (i:Int)=l.length by omega];rfl
 | r+1,i,n+1,hi,hn=>by
   unfold ycQ
   have e1:=wib (n:=(i:Int)+1) (by omega) (by omega)
   obtain ⟨f1,f2⟩:=hf i (by omega)
   rw [cbT (by omega),yaX,Int.toNat_natCast,yeJ (by omega),asT (by omega),asT (by omega),asCk,ck0,ck1,ck2,yjA (by omega) (by omega),ygj default (by omega),yeK,e1,yjz]
   show cbr ((l.getD i default).err != 0) _ _=_
   by_cases h:(l.getD i default).err=0
   · rw [cnF h,if_pos h];exact yDQ hf hl x0 x1 lg r (i+1) n (by omega) (by omega)
   · rw [cnT h,if_neg h,if_neg h];rfl
theorem yDR (hl:l.length<4611686018427387904) (x0:Int→Prop) (x1:List PV→List PV→List PV→Int→Int→Bool→Prop) (lg:List PV) (W) :
   ∀ (r i n:Nat),i+r=l.length→r<n→ybV W x0 x1 n (cks l) lg (cks l) l.length i =
     if yh1 (l.getD 0 default).len (l.drop i) then x1 (cks l) lg (cks l) l.length l.length false else x0 8
 | 0,i,n+1,hi,hn=>by
   unfold ybV
   rw [cbF (by omega),List.drop_of_length_le (by omega),show (i:Int)=l.length by omega];rfl
 | r+1,i,n+1,hi,hn=>by
   unfold ybV
   have e1:=wib (n:=(i:Int)+1) (by omega) (by omega)
   rw [cbT (by omega),yaX,Int.toNat_natCast,yeJ (by omega),yeJ (by omega),asT (by omega),asT (by omega),asCk,asT (by omega),asCk,ck0,ck0,ygj default (by omega),yh1,e1,yjz]
   by_cases h:(l.getD i default).len=(l.getD 0 default).len
   · rw [cnF h,decide_eq_true h,Bool.true_and];exact yDR hl x0 x1 lg W r (i+1) n (by omega) (by omega)
   · rw [cnT h,decide_eq_false h,Bool.false_and,if_neg (by simp)]
theorem yni (hf:finC l) (hl:l.length<4611686018427387904) (lg:List PV) (K:Int→Prop):yc6 (cks l) lg K=K (yem l lg.length):=by
 refine yvC _ _ _ (fun K k=>?_) K
 unfold yc6 yky
 unfold yem at k
 rw [yaX]
 by_cases a1:l.length>6
 · rw [cbT (by omega)];rw [if_pos a1] at k;exact k
 rw [cbF (by omega)];rw [if_neg a1] at k
 by_cases a2:lg.length>2000
 · rw [cbT (by omega)];rw [if_pos a2] at k;exact k
 rw [cbF (by omega)];rw [if_neg a2] at k
 by_cases a3:l.length=0
 · rw [ceT (by omega)];rw [if_pos a3] at k;exact k
 rw [ceF (by omega)];rw [if_neg a3] at k
 refine ⟨l.length+1,?_⟩
 have h0:=yDQ hf hl (fun c=>K c) (fun a d o p q r=>(∃ e:Nat,ybV yas (fun b=>(K b)) (fun f g i j m n=>(K (0:Int))) e a d a (((List.length a):Nat):Int) (0:Int))) lg l.length 0 (l.length+1) (by omega) (by omega)
 rw [show ((0:Nat):Int)=0 from rfl,List.drop_zero] at h0
 rw [h0]
 by_cases a4:yeK l=0
 · rw [if_pos a4] at k ⊢
   refine ⟨l.length+1,?_⟩
   have h1:=yDR hl (fun b=>(K b)) (fun f g i j m n=>(K (0:Int))) lg yas l.length 0 (l.length+1) (by omega) (by omega)
   rw [show ((0:Nat):Int)=0 from rfl,List.drop_zero] at h1
   rw [yaX,h1]
   split at k <;> rename_i h <;> simp only [h] <;> exact k
 · rw [if_neg a4] at k ⊢;exact k
theorem yDS (hf:finC l) (hl:l.length<4611686018427387904) (x0:Int→Prop) (x1:List PV→List PV→Int→Bool→Prop) (lg:List PV) :
   ∀ (r i n:Nat),i+r=l.length→r<n→ycU yaW x0 x1 n (cks l) lg i =
     if yeK (l.drop i)=0 then x1 (cks l) lg l.length false else x0 (yeK (l.drop i))
 | 0,i,n+1,hi,hn=>by
   unfold ycU
   rw [yaX,cbF (by omega),List.drop_of_length_le (by omega),show (i:Int)=l.length by omega];rfl
 | r+1,i,n+1,hi,hn=>by
   unfold ycU
   have e1:=wib (n:=(i:Int)+1) (by omega) (by omega)
   obtain ⟨f1,f2⟩:=hf i (by omega)
   rw [yaX,cbT (by omega),Int.toNat_natCast,yeJ (by omega),asT (by omega),asT (by omega),asCk,ck0,ck1,ck2,ynh (by omega) (by omega),ygj default (by omega),yeK,e1,yjz]
   show cbr ((l.getD i default).err != 0) _ _=_
   by_cases h:(l.getD i default).err=0
   · rw [cnF h,if_pos h];exact yDS hf hl x0 x1 lg r (i+1) n (by omega) (by omega)
   · rw [cnT h,if_neg h,if_neg h,asT (by omega),asT (by omega),asCk,ynh (by omega) (by omega)];rfl
theorem yDT (hl:l.length<4611686018427387904) (x0:Int→Prop) (x1:List PV→List PV→Int→Bool→Prop) (lg:List PV) (W) :
   ∀ (r i n:Nat),i+r=l.length→r<n→ybY W x0 x1 n (cks l) lg i =
     if yh1 (l.getD 0 default).len (l.drop i) then x1 (cks l) lg l.length false else x0 8
 | 0,i,n+1,hi,hn=>by
   unfold ybY
   rw [yaX,cbF (by omega),List.drop_of_length_le (by omega),show (i:Int)=l.length by omega];rfl
 | r+1,i,n+1,hi,hn=>by
   unfold ybY
   have e1:=wib (n:=(i:Int)+1) (by omega) (by omega)
   rw [yaX,cbT (by omega),Int.toNat_natCast,yeJ (by omega),yeJ (by omega),asT (by omega),asT (by omega),asCk,asT (by omega),asCk,ck0,ck0,ygj default (by omega),yh1,e1,yjz]
   by_cases h:(l.getD i default).len=(l.getD 0 default).len
   · rw [cnF h,decide_eq_true h,Bool.true_and];exact yDT hl x0 x1 lg W r (i+1) n (by omega) (by omega)
   · rw [cnT h,decide_eq_false h,Bool.false_and,if_neg (by simp)]
theorem yE1 (hf:finC l) (hl:l.length<4611686018427387904) (lg:List PV) (K:Int→Prop):yfo (cks l) lg K=K (yem l lg.length):=by
 refine yvM _ _ _ (fun K k=>?_) K
 unfold yfo ykT
 unfold yem at k
 rw [yaX]
 by_cases a1:l.length>6
 · rw [cbT (by omega)];rw [if_pos a1] at k;exact k
 rw [cbF (by omega)];rw [if_neg a1] at k
 by_cases a2:lg.length>2000
 · rw [cbT (by omega)];rw [if_pos a2] at k;exact k
 rw [cbF (by omega)];rw [if_neg a2] at k
 by_cases a3:l.length=0
 · rw [ceT (by omega)];rw [if_pos a3] at k;exact k
 rw [ceF (by omega)];rw [if_neg a3] at k
 refine ⟨l.length+1,?_⟩
 have h0:=yDS hf hl (fun b=>K b) (fun c d m n=>(∃ e:Nat,ybY yaW (fun a=>(K a)) (fun f g i j=>(K (0:Int))) e c d (0:Int))) lg l.length 0 (l.length+1) (by omega) (by omega)
 rw [show ((0:Nat):Int)=0 from rfl,List.drop_zero] at h0
 rw [h0]
 by_cases a4:yeK l=0
 · rw [if_pos a4] at k ⊢
   refine ⟨l.length+1,?_⟩
   have h1:=yDT hl (fun a=>(K a)) (fun f g i j=>(K (0:Int))) lg yaW l.length 0 (l.length+1) (by omega) (by omega)
   rw [show ((0:Nat):Int)=0 from rfl,List.drop_zero] at h1
   rw [h1]
   split at k <;> rename_i h <;> simp only [h] <;> exact k
 · rw [if_neg a4] at k ⊢;exact k
def Ck.low (c:Ck):Prop:=c.cuts.length≤1000∧c.dens.length≤1000
def lowC (l:List Ck):Prop:=∀ i,i<l.length→(l.getD i default).low
theorem yAX (l:List Int):ydj 1 (ints l)=true:=by cases l <;> rfl
theorem yqw {l:List Int} (h:l.length≤1000) (K:List PV→Prop):yc3 (ints l) K=K (ints l):=by
 show asr (yhb 1 8 (ints l)) (K (ints l))=_
 have:yhb 1 8 (ints l)=true:=by
   unfold yhb
   rw [yAX,yaD,Bool.true_and,decide_eq_true_iff]
   unfold room;omega
 rw [this,yan]
theorem asTT {c:Bool} {P:Prop} (h:c=true):asr c P=P:=by rw [h,yan]
theorem yDU (hf:lowC l) (hl:l.length≤1000) (x0:List PV→List PV→Int→Int→Bool→Prop) (x1:List PV→Int→Int→Bool→Prop) :
   ∀ (r i n:Nat) (acc:List PV),i+r=l.length→r<n→acc.length≤i→ycw yc3 x0 x1 n acc (cks l) l.length i=x0 (acc++cks (l.drop i)) (cks l) l.length l.length false
 | 0,i,n+1,acc,hi,hn,ha=>by
   unfold ycw
   rw [cbF (by omega),List.drop_of_length_le (by omega),show (i:Int)=l.length by omega]
   show _=x0 (acc++[]) _ _ _ _
   rw [List.append_nil]
 | r+1,i,n+1,acc,hi,hn,ha=>by
   unfold ycw
   have e1:=wib (n:=(i:Int)+1) (by omega) (by omega)
   obtain ⟨f1,f2⟩:=hf i (by omega)
   rw [cbT (by omega),yaX,Int.toNat_natCast,yeJ (by omega),asT (by omega),asT (by omega),asCk,ck0,ck1,ck2,yqw f1,yqw f2,asT rfl,asT (by omega),asTT (by rw [decide_eq_false (by omega)];rfl),asT rfl,asT (by unfold room;omega),asTT (by simp),e1,yjz]
   rw [yDU hf hl x0 x1 r (i+1) n _ (by omega) (by omega) (by simp;omega),ygj (i:=i) default (by omega),List.append_assoc];rfl
theorem yrD (hf:lowC l) (hl:l.length≤1000) (K:List PV→Prop):yc7 (cks l) K=K (cks l):=by
 refine yur _ _ (fun K k=>?_) K
 unfold yc7 yiJ
 cases hc:l with
 | nil =>
   refine ⟨0+1,?_⟩
   rw [hc] at k
   rw [yex,yaX,cbF (by simp)]
   exact k
 | cons c t =>
   rw [← hc]
   have h0:0<l.length:=by rw [hc];exact Nat.zero_lt_succ _
   refine ⟨(l.length+1)+1,?_⟩
   rw [yex]
   obtain ⟨f1,f2⟩:=hf 0 (by omega)
   have e1:=wib (n:=(0:Int)+1) (by omega) (by omega)
   rw [yaX,cbT (by omega),show (0:Int).toNat=0 from rfl,yeJ (by omega),asT (by omega),asT (by omega),asCk,ck0,ck1,ck2,yqw f1,yqw f2,asTT (by simp),e1,show (0:Int)+1=((0+1:Nat):Int) from rfl]
   rw [yDU hf hl _ _ (l.length-1) (0+1) (l.length+1) _ (by omega) (by omega) (by simp)]
   have e:[PV.agg [PV.int IntKind.i64 (l.getD 0 default).len,PV.data (ints (l.getD 0 default).cuts),PV.data (ints (l.getD 0 default).dens)]]++cks (l.drop (0+1))=cks l:=by
     conv=>rhs;rw [← List.drop_zero (l:=l),ygj default h0]
     rfl
   rw [e,asT rfl,asT (by omega),List.take_length]
   exact k
end
end Go.Pf.Vc
namespace Go.Pf.Vc
open Go Go.Pf
section
variable {l:List Ck}
theorem ysi:∀ (l:List Ck),yeK l=0→∀ i,i<l.length→(l.getD i default).ok
 | c::t,h,0,_=>by
   unfold yeK at h
   split at h
   · rename_i h1;exact ymM h1
   · rename_i h1;exact absurd h h1
 | c::t,h,i+1,hi=>by
   unfold yeK at h
   split at h
   · exact ysi t h i (by simpa using hi)
   · rename_i h1;exact absurd h h1
theorem yuW {n:Int}:∀ (l:List Ck),yh1 n l=true→∀ i,i<l.length→(l.getD i default).len=n
 | c::t,h,0,_=>by
   unfold yh1 at h
   simp only [Bool.and_eq_true,decide_eq_true_eq] at h
   exact h.1
 | c::t,h,i+1,hi=>by
   unfold yh1 at h
   simp only [Bool.and_eq_true,decide_eq_true_eq] at h
   exact yuW t h.2 i (by simpa using hi)
structure DK (l:List Ck):Prop where
 n6:l.length≤6
 n0:1≤l.length
 ok:∀ i,i<l.length→(l.getD i default).ok
 len:∀ i,i<l.length→(l.getD i default).len=(l.getD 0 default).len
theorem yh2 {m:Nat} (h:yem l m=0):DK l∧m≤2000:=by
 unfold yem at h
 split at h
 · omega
 split at h
 · omega
 split at h
 · omega
 split at h
 · rename_i h0 h1 h2 h3
   split at h
   · rename_i h4
     exact ⟨⟨by omega,by omega,ysi l h3,yuW l h4⟩,by omega⟩
   · omega
 · rename_i h3;exact absurd h h3
theorem DK.err {l:List Ck} (h:DK l) {m:Nat} (hm:m≤2000):yem l m=0:=by
 have f:∀ l:List Ck,(∀ i,i<l.length→(l.getD i default).ok)→yeK l=0:=by
   intro l
   induction l with
   | nil=>intro _;rfl
   | cons c t ih =>
     intro h
     unfold yeK
     rw [if_pos (show c.err=0 from (h 0 (Nat.zero_lt_succ _)).ck)]
     exact ih fun i hi=>h (i+1) (by simpa using hi)
 have g:∀ (n:Int) (l:List Ck),(∀ i,i<l.length→(l.getD i default).len=n)→yh1 n l=true:=by
   intro n l
   induction l with
   | nil=>intro _;rfl
   | cons c t ih =>
     intro h
     unfold yh1
     rw [Bool.and_eq_true,decide_eq_true_eq]
     exact ⟨h 0 (Nat.zero_lt_succ _),ih fun i hi=>h (i+1) (by simpa using hi)⟩
 have:=h.n6;have:=h.n0
 unfold yem
 rw [if_neg (by omega),if_neg (by omega),if_neg (by omega),if_pos (f l h.ok),if_pos (g _ l h.len)]
theorem DK.low {l:List Ck} (h:DK l):lowC l:=fun i hi=>by
 have h1:=(h.ok i hi).l1;have h2:=(h.ok i hi).l2
 exact ⟨by omega,by omega⟩
theorem DK.fin {l:List Ck} (h:DK l):finC l:=fun i hi=>by
 have h1:=(h.ok i hi).l1;have h2:=(h.ok i hi).l2
 exact ⟨by omega,by omega⟩
theorem yAY (hf:finC l) (hl:l.length<4611686018427387904) (K:List PV→List PV→Int→Prop):yaM (cks l) K=if yem l 0=0 then K (cks l) [] 0 else K [] [] (yem l 0):=by
 unfold yaM ymd
 rw [yni hf hl]
 show cbr (yem l 0 != 0) _ _=_
 by_cases h:yem l 0=0
 · have hd:=(yh2 h).1
   rw [cnF h,if_pos h,yrD hd.low (by have:=hd.n6;omega)]
 · rw [cnT h,if_neg h];rfl
def qrow (agent kind an ad bn bd cn cd:Int):PV:=.agg [.int .i64 agent,.int .u8 kind,.int .i64 an,.int .i64 ad,.int .i64 bn,.int .i64 bd,.int .i64 cn,.int .i64 cd]
def qryR (l:List Ck) (m:Nat) (agent:Int) (ans:Ck→Except Int Rat):Except Int Rat :=
 if yem l m=0 then (if 0≤agent∧agent<l.length then (match ans (l.getD agent.toNat default) with
   | .ok p=>if m≥2000 then .error 4 else .ok p
   | .error e=>.error e) else .error 2) else .error (yem l m)
def qryK (l:List Ck) (lg:List PV) (row:Rat→PV) (e:Except Int Rat) (K:List PV→List PV→Int→Int→Int→Prop):Prop :=
 match e with
 | .ok p=>K (cks l) (lg++[row p]) p.num p.den 0
 | .error c=>K [] [] 0 0 c
theorem yIs {w:(List PV→List PV→Int→Int→Int→Prop)→Prop} {l:List Ck} {lg:List PV} {row:Rat→PV} {e:Except Int Rat} (det:∀ r0 r1 r2 r3 r4,(∀ K:List PV→List PV→Int→Int→Int→Prop,K r0 r1 r2 r3 r4→w K)→∀ K,w K=K r0 r1 r2 r3 r4)
   (h:∀ K,qryK l lg row e K→w K) (K):w K=qryK l lg row e K:=by
 cases e with
 | ok q=>exact det _ _ _ _ _ h K
 | error c=>exact det _ _ _ _ _ h K
theorem mk1 {z q:PV} {lg:List PV} {m:Nat} (hm:m=lg.length) :
   List.take ((0+m)+1) ((List.take (0+(0+m)) (lg++(List.drop (0+m) (List.replicate (m+1) z))))++(([q]:List PV)++(List.drop ((0+(0+m))+1) (lg++(List.drop (0+m) (List.replicate (m+1) z))))))=lg++[q]:=by
 subst hm
 simp
 rw [List.take_of_length_le (by simp)]
theorem yCY (lg:List PV) (agent:Int) (K:Bool→Prop):ycx (cks l) lg agent K=K (decide (0≤agent∧agent<l.length)):=by
 unfold ycx yfO
 rw [yaX]
 by_cases h:agent≥0
 · rw [cbT h]
   congr 1
   rw [decide_eq_decide];omega
 · rw [cbF h,decide_eq_false (by omega)]
def Ck.mark (an ad vn vd:Int) (c:Ck):Except Int Rat:=mrkR c.len c.cuts c.dens an ad vn vd
def Ck.value (an ad bn bd:Int) (c:Ck):Except Int Rat:=valR c.len c.cuts c.dens an ad bn bd
theorem yGu (hf:finC l) (hl:l.length<4611686018427387904) {lg:List PV} (hlg:ydj 8 lg=true) {agent an ad vn vd:Int} (ha:I64 an) (ha':I64 ad) (hv:I64 vn) (hv':I64 vd) (K) :
   ycF (cks l) lg agent an ad vn vd K=qryK l lg (fun p=>qrow agent 2 an ad vn vd p.num p.den) (qryR l lg.length agent (Ck.mark an ad vn vd)) K:=by
 refine yIs (fun r0 r1 r2 r3 r4 h K=>yxY _ _ _ _ _ _ _ r0 r1 r2 r3 r4 h K) (fun K k=>?_) K
 unfold ycF ymf
 unfold qryR at k
 rw [yni hf hl]
 by_cases h:yem l lg.length=0
 case neg=>rw [cnT h];rw [if_neg h] at k;exact k
 obtain ⟨hd,hm⟩:=yh2 h
 rw [if_pos h] at k
 rw [cnF h,yCY]
 by_cases h2:0≤agent∧agent<l.length
 case neg=>rw [decide_eq_false h2,Bool.not_false,yac];rw [if_neg h2] at k;exact k
 rw [if_pos h2] at k
 obtain ⟨a,rfl⟩:∃ a:Nat,agent=a:=⟨agent.toNat,by omega⟩
 have ha2:a<l.length:=by omega
 rw [Int.toNat_natCast] at k
 obtain ⟨f1,f2⟩:=hf a ha2
 rw [decide_eq_true h2,Bool.not_true,yaa,yfQ,ye1,yaX,Int.toNat_natCast,yeJ ha2,asT (by omega),asT (by omega),asCk,ck0,ck1,ck2,yGr (by omega) (by omega) ha ha' hv hv']
 have em:Ck.mark an ad vn vd (l.getD a default)=mrkR (l.getD a default).len (l.getD a default).cuts (l.getD a default).dens an ad vn vd:=rfl
 rw [em] at k
 cases hr:mrkR (l.getD a default).len (l.getD a default).cuts (l.getD a default).dens an ad vn vd with
 | error c =>
   rw [hr] at k
   have k:K [] [] 0 0 c:=k
   rw [yyR]
   have hc:c≠0:=by
     intro hc
     subst hc
     unfold mrkR at hr
     split at hr
     · split at hr
       · unfold mrkC at hr
         split at hr
         · cases hr
         · have no:∀ (r i:Nat) (p v:Rat),mrkS (l.getD a default).cuts (l.getD a default).dens r i p v≠.error 0:=by
             intro r
             induction r with
             | zero=>intro i p v e;unfold mrkS at e;cases e
             | succ r ih =>
               intro i p v e
               unfold mrkS fit at e
               repeat' (first | split at e | dsimp only at e)
               all_goals first | exact ih _ _ _ e | cases e
           exact no _ _ _ _ hr
       · cases hr
     · rename_i h5;exact h5 (Except.error.inj hr)
   rw [cnT hc];exact k
 | ok p =>
   rw [hr] at k
   rw [yuV,cnF rfl]
   by_cases h3:lg.length≥2000
   · rw [cbT (by omega)]
     have k:qryK l lg _ (if lg.length≥2000 then .error 4 else .ok p) K:=k
     rw [if_pos h3] at k;exact k
   · have k:qryK l lg _ (if lg.length≥2000 then .error 4 else .ok p) K:=k
     rw [if_neg h3] at k
     have k:K (cks l) (lg++[qrow a 2 an ad vn vd p.num p.den]) p.num p.den 0:=k
     have e1:=wib (n:=(lg.length:Int)+1) (by omega) (by omega)
     have e2:((lg.length:Int)+1).toNat=lg.length+1:=by omega
     rw [cbF (by omega),e1,e2,asT (by omega),asT (by unfold room;omega),yrD hd.low (by have:=hd.n6;omega),hlg,yan]
     rw [asT (by simp),asT (by omega)]
     cases hlg2:lg with
     | nil =>
       rw [List.isEmpty_nil,yac,asT (by simp),asT (by simp),asT (by simp),asT (by simp),asT (by simp)]
       rw [hlg2] at k
       exact k
     | cons x t =>
       rw [← hlg2,show List.isEmpty lg=false by rw [hlg2];rfl,yaa,asT (by omega),asT (by simp),asT (by omega),asT (by omega),asT (by simp),asT (by omega)]
       rw [mk1 rfl]
       exact k
end
end Go.Pf.Vc
namespace Go.Pf.Vc
open Go Go.Pf
section
variable {l:List Ck}
theorem yGv (cuts dens:List Int):∀ (r i:Nat) (p v:Rat),mrkS cuts dens r i p v≠.error 0:=by
 intro r
 induction r with
 | zero=>intro i p v e;unfold mrkS at e;cases e
 | succ r ih =>
   intro i p v e
   unfold mrkS fit at e
   repeat' (first | split at e | dsimp only at e)
   all_goals first | exact ih _ _ _ e | cases e
theorem yGw {len:Int} {cuts dens:List Int} {an ad vn vd:Int}:mrkR len cuts dens an ad vn vd≠.error 0:=by
 intro hr
 unfold mrkR at hr
 split at hr
 · split at hr
   · unfold mrkC at hr
     split at hr
     · cases hr
     · exact yGv _ _ _ _ _ _ hr
   · cases hr
 · rename_i h5;exact h5 (Except.error.inj hr)
theorem yGx (cuts dens:List Int) (b:Rat):∀ (r i:Nat) (p v:Rat),valS cuts dens b r i p v≠.error 0:=by
 intro r
 induction r with
 | zero=>intro i p v e;unfold valS at e;cases e
 | succ r ih =>
   intro i p v e
   unfold valS fit at e
   repeat' (first | split at e | dsimp only at e)
   all_goals first | exact ih _ _ _ e | cases e
theorem yAZ {len:Int} {cuts dens:List Int} {an ad vn vd:Int}:valR len cuts dens an ad vn vd≠.error 0:=by
 intro hr
 unfold valR at hr
 split at hr
 · split at hr
   · exact yGx _ _ _ _ _ _ _ hr
   · cases hr
 · rename_i h5;exact h5 (Except.error.inj hr)
theorem yE2 (hf:finC l) (hl:l.length<4611686018427387904) {lg:List PV} (hlg:ydj 8 lg=true) {agent an ad vn vd:Int} (ha:I64 an) (ha':I64 ad) (hv:I64 vn) (hv':I64 vd) (K) :
   ybL (cks l) lg agent an ad vn vd K=qryK l lg (fun p=>qrow agent 1 an ad vn vd p.num p.den) (qryR l lg.length agent (Ck.value an ad vn vd)) K:=by
 refine yIs (fun r0 r1 r2 r3 r4 h K=>yvD _ _ _ _ _ _ _ r0 r1 r2 r3 r4 h K) (fun K k=>?_) K
 unfold ybL ykB
 unfold qryR at k
 rw [yni hf hl]
 by_cases h:yem l lg.length=0
 case neg=>rw [cnT h];rw [if_neg h] at k;exact k
 obtain ⟨hd,hm⟩:=yh2 h
 rw [if_pos h] at k
 rw [cnF h,yCY]
 by_cases h2:0≤agent∧agent<l.length
 case neg=>rw [decide_eq_false h2,Bool.not_false,yac];rw [if_neg h2] at k;exact k
 rw [if_pos h2] at k
 obtain ⟨a,rfl⟩:∃ a:Nat,agent=a:=⟨agent.toNat,by omega⟩
 have ha2:a<l.length:=by omega
 rw [Int.toNat_natCast] at k
 obtain ⟨f1,f2⟩:=hf a ha2
 rw [decide_eq_true h2,Bool.not_true,yaa,ye2,yeI,yaX,Int.toNat_natCast,yeJ ha2,asT (by omega),asT (by omega),asCk,ck0,ck1,ck2,yEW (by omega) (by omega) ha ha' hv hv']
 have em:Ck.value an ad vn vd (l.getD a default)=valR (l.getD a default).len (l.getD a default).cuts (l.getD a default).dens an ad vn vd:=rfl
 rw [em] at k
 cases hr:valR (l.getD a default).len (l.getD a default).cuts (l.getD a default).dens an ad vn vd with
 | error c =>
   rw [hr] at k
   have k:K [] [] 0 0 c:=k
   rw [yyR]
   have hc:c≠0:=fun hc=>yAZ (hc ▸ hr)
   rw [cnT hc];exact k
 | ok p =>
   rw [hr] at k
   rw [yuV,cnF rfl]
   by_cases h3:lg.length≥2000
   · rw [cbT (by omega)]
     have k:qryK l lg _ (if lg.length≥2000 then .error 4 else .ok p) K:=k
     rw [if_pos h3] at k;exact k
   · have k:qryK l lg _ (if lg.length≥2000 then .error 4 else .ok p) K:=k
     rw [if_neg h3] at k
     have k:K (cks l) (lg++[qrow a 1 an ad vn vd p.num p.den]) p.num p.den 0:=k
     have e1:=wib (n:=(lg.length:Int)+1) (by omega) (by omega)
     have e2:((lg.length:Int)+1).toNat=lg.length+1:=by omega
     rw [cbF (by omega),e1,e2,asT (by omega),asT (by unfold room;omega),yrD hd.low (by have:=hd.n6;omega),hlg,yan]
     rw [asT (by simp),asT (by omega)]
     cases hlg2:lg with
     | nil =>
       rw [List.isEmpty_nil,yac,asT (by simp),asT (by simp),asT (by simp),asT (by simp),asT (by simp)]
       rw [hlg2] at k
       exact k
     | cons x t =>
       rw [← hlg2,show List.isEmpty lg=false by rw [hlg2];rfl,yaa,asT (by omega),asT (by simp),asT (by omega),asT (by omega),asT (by simp),asT (by omega)]
       rw [mk1 rfl]
       exact k
def ypg (l:List Ck):Bool:=l.any (fun c=>decide (c.cuts.length>60)||decide (c.dens.length>60))||decide (l.length>10)
theorem yE3 {len:Int} {cuts dens:List Int} (K:Bool→Prop):yeg len (ints cuts) (ints dens) K=K (decide (cuts.length>60)||decide (dens.length>60)):=by
 unfold yeg ykI
 rw [yaD,yaD]
 by_cases h:cuts.length>60
 · rw [cbT (by omega),decide_eq_true h];rfl
 · rw [cbF (by omega),decide_eq_false h,Bool.false_or]
   congr 1;rw [decide_eq_decide];omega
theorem yli (hl:l.length≤9223372036854775807) (K:Bool→Prop) :
   ∀ (r i n:Nat),i+r=l.length→r<n→ybp yeg (fun a=>(K a)) (fun b _ _=>(K (decide ((((List.length b):Nat):Int)>(10:Int))))) n (cks l) i =
     K ((l.drop i).any (fun c=>decide (c.cuts.length>60)||decide (c.dens.length>60))||decide (l.length>10))
 | 0,i,n+1,hi,hn=>by
   unfold ybp
   rw [yaX,cbF (by omega),List.drop_of_length_le (by omega)]
   show K _=K (false||_)
   rw [Bool.false_or]
   congr 1;rw [decide_eq_decide];omega
 | r+1,i,n+1,hi,hn=>by
   unfold ybp
   have e1:=wib (n:=(i:Int)+1) (by omega) (by omega)
   rw [yaX,cbT (by omega),Int.toNat_natCast,yeJ (by omega),asT (by omega),asT (by omega),asCk,ck0,ck1,ck2,yE3,ygj default (by omega),List.any_cons,e1,yjz]
   cases hb:(decide ((l.getD i default).cuts.length>60)||decide ((l.getD i default).dens.length>60)) with
   | true=>rw [yac];rfl
   | false=>rw [yaa,Bool.false_or];exact yli hl K r (i+1) n (by omega) (by omega)
theorem yvX (hl:l.length≤9223372036854775807) (K:Bool→Prop):ycy (cks l) K=K (ypg l):=by
 refine ypd _ _ (fun K k=>?_) K
 unfold ycy yfR
 refine ⟨l.length+1,?_⟩
 have:=yli hl K l.length 0 (l.length+1) (by omega) (by omega)
 rw [show ((0:Nat):Int)=0 from rfl,List.drop_zero] at this
 rw [this];exact k
theorem yuX (h:ypg l=false):l.length≤10∧lowC l∧finC l:=by
 unfold ypg at h
 simp only [Bool.or_eq_false_iff,decide_eq_false_iff_not,List.any_eq_false,Bool.not_eq_true,Nat.not_lt] at h
 have hh:∀ i,i<l.length→(l.getD i default).cuts.length≤60∧(l.getD i default).dens.length≤60:=by
   intro i hi
   have hm:l.getD i default∈l:=by rw [List.getD_eq_getElem?_getD,List.getElem?_eq_getElem hi];exact List.getElem_mem hi
   have:=h.1 _ hm
   omega
 exact ⟨by omega,fun i hi=>⟨by have:=hh i hi;omega,by have:=hh i hi;omega⟩,fun i hi=>⟨by have:=hh i hi;omega,by have:=hh i hi;omega⟩⟩
def shr (c:Ck) (n:Int):Rat:=(totC c.cuts c.dens:Rat) / (n:Rat)
theorem ywF {n d:Int} (hn:-1000000000000000000≤n∧n≤1000000000000000000) (hd:1≤d∧d≤1000000000000000000):small ((n:Rat) / (d:Rat)):=by
 have e:(n:Rat) / (d:Rat)=mkRat n d.toNat:=by
   rw [Rat.mkRat_eq_div]
   have h1:((d.toNat:Nat):Int)=d:=by omega
   have h2:((d.toNat:Nat):Rat)=(d:Rat):=by rw [← Rat.intCast_natCast,h1]
   rw [h2]
 rw [e]
 unfold small
 rw [Rat.num_mkRat,Rat.den_mkRat,if_neg (by omega),if_neg (by omega)]
 have g0:0<d.toNat.gcd n.natAbs:=Nat.gcd_pos_of_pos_left _ (by omega)
 have h1:(n / (d.toNat.gcd n.natAbs:Nat)).natAbs≤n.natAbs:=by
   rw [Int.natAbs_ediv_of_dvd,Int.natAbs_natCast]
   · exact Nat.div_le_self _ _
   · rw [← Int.dvd_natAbs,Int.ofNat_dvd];exact Nat.gcd_dvd_right _ _
 have h2:d.toNat / d.toNat.gcd n.natAbs≤d.toNat:=Nat.div_le_self _ _
 generalize n / (d.toNat.gcd n.natAbs:Nat)=x at *
 generalize d.toNat / d.toNat.gcd n.natAbs=y at *
 omega
theorem ywG {c:Ck} (h:c.ok) {n:Int} (hn:1≤n∧n≤1000):small (shr c n):=by
 have:=yk1 h
 exact ywF (by omega) (by omega)
end
end Go.Pf.Vc
namespace Go.Pf.Vc
open Go Go.Pf
theorem rne {D:Int} (h:1≤D):(D:Rat)≠0:=fun e=>by have:=Rat.intCast_eq_zero_iff.1 e;omega
section
variable {len:Int} {cuts dens:List Int}
def rem (cuts dens:List Int):Nat→Nat→Int
 | 0,_=>0
 | r+1,i=>dens.getD i 0*(cuts.getD (i+1) 0-cuts.getD i 0)+rem cuts dens r (i+1)
theorem yuY (cuts dens:List Int):∀ (r i:Nat) (s:Int),totS cuts dens r i s=s+rem cuts dens r i
 | 0,i,s=>by unfold totS rem;omega
 | r+1,i,s=>by unfold totS rem;rw [yuY cuts dens r (i+1)];omega
theorem ywH (h:VC len cuts dens):∀ (r i:Nat),i+r=dens.length→0≤rem cuts dens r i∧rem cuts dens r i≤12*(len-cuts.getD i 0)
 | 0,i,hi=>by
   have:=h.l1
   have:=h.hi (i:=i) (by omega)
   unfold rem;omega
 | r+1,i,hi=>by
   unfold rem
   have l1:=h.l1
   have h2:=h.step (i:=i) (by omega)
   have h3:=yAV (h.den (i:=i) (by omega)) (x:=cuts.getD (i+1) 0-cuts.getD i 0) (by omega)
   have:=ywH h r (i+1) (by omega)
   omega
theorem yDV (h:VC len cuts dens):∀ (r i:Nat),i+r=dens.length→(∃ j,i≤j∧j<dens.length∧0<dens.getD j 0)→0<rem cuts dens r i
 | 0,i,hi,⟨j,h1,h2,_⟩=>by omega
 | r+1,i,hi,⟨j,h1,h2,h3⟩=>by
   unfold rem
   have l1:=h.l1
   have s:=h.step (i:=i) (by omega)
   have m:=yAV (h.den (i:=i) (by omega)) (x:=cuts.getD (i+1) 0-cuts.getD i 0) (by omega)
   have b:=ywH h r (i+1) (by omega)
   by_cases e:j=i
   · subst e
     have:=Int.mul_pos h3 (show 0<cuts.getD (j+1) 0-cuts.getD j 0 by omega)
     omega
   · have:=yDV h r (i+1) (by omega) ⟨j,by omega,h2,h3⟩
     omega
theorem yGy (h:VC len cuts dens):0<totC cuts dens:=by
 unfold totC
 rw [yuY]
 obtain ⟨d,hd,h0⟩:=h.2.2.2.2.2.2.2.2.2
 obtain ⟨j,hj,e⟩:=List.mem_iff_getElem.1 hd
 have:=yDV h dens.length 0 (by omega) ⟨j,by omega,hj,by rw [List.getD_eq_getElem?_getD,List.getElem?_eq_getElem hj];simpa [e] using h0⟩
 omega
end
end Go.Pf.Vc
namespace Go.Pf.Vc
open Go Go.Pf
structure Qy where
 agent:Int
 kind:Int
 an:Int
 ad:Int
 bn:Int
 bd:Int
 cn:Int
 cd:Int
 deriving DecidableEq
instance:Inhabited Qy:=⟨⟨0,0,0,0,0,0,0,0⟩⟩
def encQ (q:Qy):PV:=qrow q.agent q.kind q.an q.ad q.bn q.bd q.cn q.cd
def logs (l:List Qy):List PV:=l.map encQ
theorem yeR (l:List Qy):(logs l).length=l.length:=List.length_map ..
theorem ywI (l:List Qy):ydj 8 (logs l)=true:=by cases l <;> rfl
theorem yA0 (l m:List Qy):logs (l++m)=logs l++logs m:=List.map_append ..
structure Sp where
 a:Int
 b:Int
 c:Int
 d:Int
 deriving DecidableEq
instance:Inhabited Sp:=⟨⟨0,0,0,0⟩⟩
def encS (s:Sp):PV:=.agg [.int .i64 s.a,.int .i64 s.b,.int .i64 s.c,.int .i64 s.d]
def yGz (l:List Sp):List PV:=l.map encS
def pieces (l:List (List Sp)):List PV:=l.map fun s=>.data (yGz s)
theorem asD {r:List PV} {P:Prop}:asr (conf (.one .d) (.data r)) P=P:=rfl
end Go.Pf.Vc
namespace Go.Pf.Vc
open Go Go.Pf
def getR (e:Except Int Rat):Rat:=match e with | .ok q=>q | .error _=>0
theorem yHN {e:Except Int Rat} {q:Rat} (h:e=.ok q):e=.ok (getR e)∧getR e=q:=by subst h;exact ⟨rfl,rfl⟩
end Go.Pf.Vc
namespace Go.Pf.Vc
open Go Go.Pf
def dsC:DS:=.a [.i .i64,.s (.i .i64),.s (.i .i64)]
theorem yDW {n:Int} (h:inK .i64 n):I64 n:=by
 have e1:IntKind.i64.min=-9223372036854775808:=by decide
 have e2:IntKind.i64.max=9223372036854775807:=by decide
 unfold inK at h
 rw [e1,e2] at h
 exact h
theorem F_i {c:List PV} (h:HasF (.i .i64) c):∃ n,c=[.int .i64 n]∧I64 n:=by
 simp only [HasF] at h
 obtain ⟨n,e,k⟩:=h
 exact ⟨n,e,yDW k⟩
theorem yyS:∀ (rows:List PV),(∀ x∈rows,x.isAgg=(DS.i .i64).isA∧HasF (.i .i64) x.cells)→∃ l:List Int,rows=ints l∧∀ n∈l,I64 n
 | [],_=>⟨[],rfl,by simp⟩
 | x::r,h=>by
   obtain ⟨l,e,hl⟩:=yyS r (fun y hy=>h y (List.mem_cons_of_mem _ hy))
   obtain ⟨h1,h2⟩:=h x (List.mem_cons_self ..)
   obtain ⟨n,e2,hn⟩:=F_i h2
   have ex:x=.int .i64 n:=by
     cases x <;> first | (simp only [PV.cells,List.cons.injEq,and_true] at e2;exact e2) | (cases h1)
   refine ⟨n::l,by rw [ex,e];rfl,?_⟩
   intro m hm
   rcases List.mem_cons.1 hm with rfl | hm
   · exact hn
   · exact hl m hm
def Ck.i64 (c:Ck):Prop:=I64 c.len∧(∀ n∈c.cuts,I64 n)∧∀ n∈c.dens,I64 n
theorem F_c {c:List PV} (h:HasF dsC c):∃ k:Ck,c=[.int .i64 k.len,.data (ints k.cuts),.data (ints k.dens)]∧k.i64∧k.cuts.length≤9223372036854775807∧k.dens.length≤9223372036854775807:=by
 simp only [dsC,HasF,HasL] at h
 obtain ⟨c1,c2,rfl,⟨n,rfl,hn⟩,c3,c4,rfl,⟨r1,rfl,l1,h1⟩,c5,c6,rfl,⟨r2,rfl,l2,h2⟩,rfl⟩:=h
 obtain ⟨a,rfl,ha⟩:=yyS r1 (fun x hx=>⟨(h1 x hx).1,by simp only [HasF];exact (h1 x hx).2⟩)
 obtain ⟨b,rfl,hb⟩:=yyS r2 (fun x hx=>⟨(h2 x hx).1,by simp only [HasF];exact (h2 x hx).2⟩)
 rw [yaD] at l1 l2
 exact ⟨⟨n,a,b⟩,rfl,⟨yDW hn,ha,hb⟩,l1,l2⟩
theorem yI7 {x:PV} {l:List DS} (h:x.isAgg=(DS.a l).isA):x=.agg x.cells:=by
 cases x <;> first | rfl | cases h
theorem yGA:∀ (rows:List PV),(∀ x∈rows,x.isAgg=dsC.isA∧HasF dsC x.cells)→∃ l:List Ck,rows=cks l∧∀ c∈l,c.i64
 | [],_=>⟨[],rfl,by simp⟩
 | x::r,h=>by
   obtain ⟨l,e,hl⟩:=yGA r (fun y hy=>h y (List.mem_cons_of_mem _ hy))
   obtain ⟨h1,h2⟩:=h x (List.mem_cons_self ..)
   obtain ⟨k,e2,hk,_⟩:=F_c h2
   have ex:x=encC k:=by rw [yI7 h1,e2];rfl
   refine ⟨k::l,by rw [ex,e];rfl,?_⟩
   intro m hm
   rcases List.mem_cons.1 hm with rfl | hm
   · exact hk
   · exact hl m hm
theorem yJz {c:List PV} (h:HasF (.s dsC) c):∃ l:List Ck,c=[.data (cks l)]∧l.length≤9223372036854775807∧∀ k∈l,k.i64:=by
 simp only [HasF] at h
 obtain ⟨rows,rfl,hl,hr⟩:=h
 obtain ⟨l,rfl,hi⟩:=yGA rows hr
 rw [yaX] at hl
 exact ⟨l,rfl,hl,hi⟩
theorem yE4 {x y:PV} (h:x.isAgg=false) (e:x.cells=[y]):x=y:=by
 cases x <;> first | (simp only [PV.cells,List.cons.injEq,and_true] at e;exact e) | cases h
theorem yJA {as:List PV} (h:ypJ [.s dsC] as):∃ (l:List Ck),as=[.data (cks l)]∧l.length≤9223372036854775807∧∀ k∈l,k.i64:=by
 simp only [ypJ] at h
 obtain ⟨x,r,rfl,x1,x2,rfl⟩:=h
 obtain ⟨l,e1,hl,hi⟩:=yJz x2
 rw [yE4 x1 e1]
 exact ⟨l,rfl,hl,hi⟩
end Go.Pf.Vc
namespace Go.Pf.Vc
open Go Go.Pf
section
variable {l:List Ck}
theorem yE5 {a:Nat} (h2:a<l.length) (hok:(l.getD a default).ok) (hl:l.length≤1000) (lg:List PV) (K:Int→Int→Prop) :
   ydB (cks l) lg a K=K (shr (l.getD a default) l.length).num (shr (l.getD a default) l.length).den:=by
 unfold ydB ykV
 have tb:=yk1 hok
 rw [yaX,Int.toNat_natCast,yeJ h2,asT (by omega),asT (by omega),asCk,ck0,ck1,ck2,yEX hok,yGp ⟨by omega,by omega⟩ ⟨by omega,by omega⟩ (by omega),ydb]
 have:=ywG hok (n:=(l.length:Int)) ⟨by omega,by omega⟩
 unfold shr at this
 rw [if_pos this];rfl
end
end Go.Pf.Vc
namespace Go.Pf.Vc
open Go Go.Pf
section
variable {l:List Ck}
theorem yjB {α:Type} {q:Rat} {k:Rat→Except Int α} {x:α} (h:fit q k=.ok x):small q∧k q=.ok x:=by
 unfold fit at h
 split at h
 · rename_i hs;exact ⟨hs,h⟩
 · cases h
theorem yk2 {cuts dens:List Int}:∀ (r i:Nat) (p v q:Rat),mrkS cuts dens r i p v=.ok q→small q
 | 0,_,_,_,_,h=>by unfold mrkS at h;cases h
 | r+1,i,p,v,q,h=>by
   unfold mrkS at h
   split at h
   · exact yk2 r _ _ _ _ h
   · split at h
     · exact yk2 r _ _ _ _ h
     · obtain ⟨_,h⟩:=yjB h
       obtain ⟨_,h⟩:=yjB h
       split at h
       · obtain ⟨_,h⟩:=yjB h
         exact yk2 r _ _ _ _ h
       · obtain ⟨_,h⟩:=yjB h
         obtain ⟨s,h⟩:=yjB h
         cases h
         exact s
theorem yCZ {len:Int} {cuts dens:List Int} {an ad vn vd:Int} {q:Rat} (h:mrkR len cuts dens an ad vn vd=.ok q):small q:=by
 unfold mrkR at h
 split at h
 · split at h
   · rename_i hp
     unfold mrkC at h
     split at h
     · cases h;exact hp.1.pt.1
     · exact yk2 _ _ _ _ _ h
   · cases h
 · cases h
theorem yC0 {m:Nat} {agent an ad vn vd:Int} {p:Rat} (h:qryR l m agent (Ck.mark an ad vn vd)=.ok p):small p:=by
 unfold qryR at h
 split at h
 · split at h
   · split at h
     · rename_i q hq
       split at h
       · cases h
       · cases h;exact yCZ hq
     · cases h
   · cases h
 · cases h
def nts (r:List Nat):List PV:=ints (r.map fun n:Nat=>(n:Int))
theorem yim (r:List Nat):(nts r).length=r.length:=by unfold nts;rw [yaD,List.length_map]
theorem yI8 {r:List Nat} {i:Nat} (h:i<r.length):List.getD (nts r) i .nils=.int .i64 (r.getD i 0):=by
 unfold nts
 rw [yyH (by rw [List.length_map];exact h)]
 rw [List.getD_eq_getElem?_getD,List.getElem?_map,List.getElem?_eq_getElem h,List.getD_eq_getElem?_getD,List.getElem?_eq_getElem h]
 rfl
def shN (l:List Ck) (a:Nat):Rat:=shr (l.getD a default) l.length
def yh3 (l:List Ck) (an ad:Int) (m a:Nat):Except Int Rat:=qryR l m a (Ck.mark an ad (shN l a).num (shN l a).den)
def ymO (l:List Ck) (an ad:Int) (a:Nat) (p:Rat):Qy:=⟨a,2,an,ad,(shN l a).num,(shN l a).den,p.num,p.den⟩
theorem ygk (hd:DK l) {a:Nat} (h:a<l.length):small (shN l a):=ywG (hd.ok a h) ⟨by omega,by have:=hd.n6;omega⟩
end
end Go.Pf.Vc
namespace Go.Pf.Vc
open Go Go.Pf
section
variable {l:List Ck}
theorem yGB {bk:List Nat} {i:Nat} (h:i<bk.length):bk.getD i 0∈bk:=by
 rw [List.getD_eq_getElem?_getD,List.getElem?_eq_getElem h]
 exact List.getElem_mem h
end
end Go.Pf.Vc
namespace Go.Pf.Vc
open Go Go.Pf
section
variable {l:List Ck}
theorem range_take (n i:Nat) (_:i≤n):(List.range i).length=i:=List.length_range ..
end
end Go.Pf.Vc
namespace Go.Pf.Vc
open Go Go.Pf
section
variable {l:List Ck}
end
end Go.Pf.Vc
namespace Go.Pf.Vc
abbrev RS:Type:=Rat×Rat
end Go.Pf.Vc
namespace Go.Pf.Vc
def maxR (a b:Rat):Rat:=if a<b then b else a
end Go.Pf.Vc
namespace Go.Pf.Vc
def jn (f:Rat→Bool):List Rat→Option RS→List RS
 | x::y::r,none=>if f x then jn f (y::r) (some (x,y)) else jn f (y::r) none
 | x::y::r,some c=>if f x then (if c.2=x then jn f (y::r) (some (c.1,y)) else c::jn f (y::r) (some (x,y))) else jn f (y::r) (some c)
 | _,none=>[]
 | _,some c=>[c]
end Go.Pf.Vc
namespace Go.Pf.Vc
def minR (a b:Rat):Rat:=if a<b then a else b
theorem yez (a b:Rat):a≤maxR a b∧b≤maxR a b∧(maxR a b=a∨maxR a b=b):=by unfold maxR;split <;> grind
theorem yfW (a b:Rat):minR a b≤a∧minR a b≤b∧(minR a b=a∨minR a b=b):=by unfold minR;split <;> grind
end Go.Pf.Vc
namespace Go.Pf.Vc
open Go Go.Pf
def Sp.rs (s:Sp):RS:=(rt s.a s.b,rt s.c s.d)
end Go.Pf.Vc
namespace Go.Pf.Vc
open Go Go.Pf
def rsL (l:List Sp):List RS:=l.map Sp.rs
end Go.Pf.Vc
namespace Go.Pf.Vc
open Go Go.Pf
def spOf (r:RS):Sp:=⟨r.1.num,r.1.den,r.2.num,r.2.den⟩
def rsp (l:List RS):List PV:=yGz (l.map spOf)
end Go.Pf.Vc
namespace Go.Pf.Vc
open Go Go.Pf
theorem yC1:small 0:=by decide +kernel
end Go.Pf.Vc
namespace Go.Pf.Vc
open Go Go.Pf
section
variable {len:Int} {cuts dens:List Int}
def uC (cuts:List Int) (i:Nat) (x:Rat):Rat:=minR (maxR x (cuts.getD i 0:Int)) (cuts.getD (i+1) 0:Int)
def vu (cuts dens:List Int) (x:Rat):Nat→Nat→Rat
 | 0,_=>0
 | r+1,i=>(dens.getD i 0:Int)*uC cuts i x+vu cuts dens x r (i+1)
theorem yuZ (h:VC len cuts dens):∀ (r i:Nat) {x y:Rat},i+r=dens.length→x≤(cuts.getD i 0:Int)→y≤(cuts.getD i 0:Int)→vu cuts dens x r i=vu cuts dens y r i
 | 0,_,_,_,_,_,_=>rfl
 | r+1,i,x,y,hi,hx,hy=>by
   have l1:=h.l1
   have hst:((cuts.getD i 0:Int):Rat)<((cuts.getD (i+1) 0:Int):Rat):=Rat.intCast_lt_intCast.2 (h.step (i:=i) (by omega))
   have ih:=yuZ h r (i+1) (x:=x) (y:=y) (by omega) (by grind) (by grind)
   unfold vu
   rw [ih]
   have e:uC cuts i x=uC cuts i y:=by
     unfold uC
     have a1:=yez x (cuts.getD i 0:Int)
     have a2:=yez y (cuts.getD i 0:Int)
     have e1:maxR x (cuts.getD i 0:Int)=(cuts.getD i 0:Int):=by grind
     have e2:maxR y (cuts.getD i 0:Int)=(cuts.getD i 0:Int):=by grind
     rw [e1,e2]
   rw [e]
theorem yin {α:Type} {q:Rat} {k:Rat→Except Int α} {v:α} (h:fit q k=.ok v):k q=.ok v:=by
 unfold fit at h
 split at h
 · exact h
 · cases h
theorem ytb (h:VC len cuts dens) {b:Rat}:∀ (r i:Nat) (p sum v:Rat),i+r=dens.length→p≤b→(p=b∨((cuts.getD i 0:Int):Rat)≤p)→valS cuts dens b r i p sum=.ok v→v=sum+(vu cuts dens b r i-vu cuts dens p r i)
 | 0,i,p,sum,v,hi,hp,hc,hv=>by
   unfold valS at hv
   cases hv
   unfold vu
   grind
 | r+1,i,p,sum,v,hi,hp,hc,hv=>by
   have l1:=h.l1
   have hst:((cuts.getD i 0:Int):Rat)<((cuts.getD (i+1) 0:Int):Rat):=Rat.intCast_lt_intCast.2 (h.step (i:=i) (by omega))
   unfold valS at hv
   dsimp only at hv
   have hen:∃ en:Rat,(if b<((cuts.getD (i+1) 0:Int):Rat) then b else ((cuts.getD (i+1) 0:Int):Rat))=en∧en≤b∧en≤((cuts.getD (i+1) 0:Int):Rat)∧(en=b∨en=((cuts.getD (i+1) 0:Int):Rat)):=by
     refine ⟨_,rfl,?_⟩
     split <;> grind
   obtain ⟨en,e0,he1,he2,he3⟩:=hen
   rw [e0] at hv
   have low:=yuZ h r (i+1) (x:=en) (y:=p) (by omega)
   have m1:=yez b (cuts.getD i 0:Int)
   have m2:=yez p (cuts.getD i 0:Int)
   have n1:=yfW (maxR b (cuts.getD i 0:Int)) (cuts.getD (i+1) 0:Int)
   have n2:=yfW (maxR p (cuts.getD i 0:Int)) (cuts.getD (i+1) 0:Int)
   unfold vu uC
   generalize ((cuts.getD i 0:Int):Rat)=c0 at *
   generalize hc1:((cuts.getD (i+1) 0:Int):Rat)=c1 at *
   by_cases hlt:p<en
   · have hb:minR (maxR b c0) c1=en:=by grind
     have hq:minR (maxR p c0) c1=p:=by grind
     by_cases hd:dens.getD i 0=0
     · rw [if_pos (.inl hd),if_pos hlt] at hv
       have ih:=ytb h r (i+1) en sum v (by omega) he1 (by rw [hc1];grind) hv
       rw [ih,hd,low (by grind) (by grind)]
       grind
     · rw [if_neg (by intro k;rcases k with k | k;exact hd k;exact k hlt)] at hv
       have hv:=yin (yin (yin hv))
       have ih:=ytb h r (i+1) en _ v (by omega) he1 (by rw [hc1];grind) hv
       rw [ih,low (by grind) (by grind),hb,hq]
       grind
   · rw [if_pos (.inr hlt),if_neg hlt] at hv
     have ih:=ytb h r (i+1) p sum v (by omega) hp (by rw [hc1];grind) hv
     have:minR (maxR b c0) c1=minR (maxR p c0) c1:=by grind
     rw [ih,this]
     grind
end
end Go.Pf.Vc
namespace Go.Pf.Vc
open Go Go.Pf
section
variable {len:Int} {cuts dens:List Int}
def vX (cuts dens:List Int) (x:Rat):Rat:=vu cuts dens x dens.length 0
theorem yHO (h:VC len cuts dens) {a b v:Rat} (h0:0≤a) (hab:a≤b) (hv:valC cuts dens a b=.ok v):v=vX cuts dens b-vX cuts dens a:=by
 have c0:cuts.getD 0 0=0:=h.2.2.2.2.2.1
 have:=ytb h dens.length 0 a 0 v (by omega) hab (.inr (by rw [c0];exact h0)) hv
 unfold vX
 rw [this];grind
end
end Go.Pf.Vc
namespace Go.Pf.Vc
open Go Go.Pf
section
variable {len:Int} {cuts dens:List Int}
theorem yDX (h:VC len cuts dens) {i:Nat} (hi:i+1<cuts.length) {x y:Rat} (hxy:x≤y):uC cuts i x≤uC cuts i y:=by
 have hst:((cuts.getD i 0:Int):Rat)<((cuts.getD (i+1) 0:Int):Rat):=Rat.intCast_lt_intCast.2 (h.step (i:=i) hi)
 have m1:=yez x (cuts.getD i 0:Int)
 have m2:=yez y (cuts.getD i 0:Int)
 have n1:=yfW (maxR x (cuts.getD i 0:Int)) (cuts.getD (i+1) 0:Int)
 have n2:=yfW (maxR y (cuts.getD i 0:Int)) (cuts.getD (i+1) 0:Int)
 unfold uC
 grind
theorem yGC (h:VC len cuts dens) {i:Nat} (hi:i<dens.length):(0:Rat)≤((dens.getD i 0:Int):Rat):=Rat.intCast_nonneg.2 (h.den hi).1
theorem yyT (h:VC len cuts dens) {x y:Rat} (hxy:x≤y):∀ (r i:Nat),i+r=dens.length→vu cuts dens x r i≤vu cuts dens y r i
 | 0,_,_=>Rat.le_refl
 | r+1,i,hi=>by
   have l1:=h.l1
   have h1:=yDX h (i:=i) (by omega) hxy
   have h2:=yyT h hxy r (i+1) (by omega)
   have h3:=Rat.mul_le_mul_of_nonneg_left h1 (yGC h (i:=i) (by omega))
   unfold vu
   grind
theorem ynj (h:VC len cuts dens) {x y:Rat} (hxy:x≤y):vX cuts dens x≤vX cuts dens y:=yyT h hxy dens.length 0 (by omega)
theorem ytc (h:VC len cuts dens):∀ (r i:Nat) (p v q:Rat),i+r=dens.length→0<v→((cuts.getD i 0:Int):Rat)≤p→mrkS cuts dens r i p v=.ok q →
   vu cuts dens q r i-vu cuts dens p r i=v∧p<q∧q≤((cuts.getD dens.length 0:Int):Rat)∧∀ x,x<q→vu cuts dens x r i<vu cuts dens q r i
 | 0,_,_,_,_,_,_,_,e=>by cases e
 | r+1,i,p,v,q,hi,hv,hp,e=>by
   have l1:=h.l1
   have hst:((cuts.getD i 0:Int):Rat)<((cuts.getD (i+1) 0:Int):Rat):=Rat.intCast_lt_intCast.2 (h.step (i:=i) (by omega))
   have hd:=h.den (i:=i) (by omega)
   have hd0:=yGC h (i:=i) (by omega)
   have low:=fun {x y:Rat}=>yuZ h r (i+1) (x:=x) (y:=y) (by omega)
   have hmon:=fun {x:Rat} (hx:x<q)=>yDX h (i:=i) (by omega) (Rat.le_of_lt hx)
   have hmon2:=fun {x:Rat} (hx:x<q)=>yyT h (Rat.le_of_lt hx) r (i+1) (by omega)
   have m1:=yez p (cuts.getD i 0:Int)
   have m2:=yez q (cuts.getD i 0:Int)
   have n1:=yfW (maxR p (cuts.getD i 0:Int)) (cuts.getD (i+1) 0:Int)
   have n2:=yfW (maxR q (cuts.getD i 0:Int)) (cuts.getD (i+1) 0:Int)
   unfold mrkS at e
   by_cases c1:p<((cuts.getD (i+1) 0:Int):Rat)
   case neg =>
     rw [if_pos c1] at e
     obtain ⟨a1,a2,a3,a4⟩:=ytc h r (i+1) p v q (by omega) hv (Rat.not_lt.1 c1) e
     have eq:uC cuts i q=uC cuts i p:=by unfold uC;grind
     refine ⟨by unfold vu;rw [eq];grind,a2,a3,fun x hx=>?_⟩
     have b1:=a4 x hx
     have b2:=Rat.mul_le_mul_of_nonneg_left (hmon hx) hd0
     unfold vu
     grind
   rw [if_neg (fun k=>k c1)] at e
   by_cases c2:dens.getD i 0=0
   · rw [if_pos c2] at e
     obtain ⟨a1,a2,a3,a4⟩:=ytc h r (i+1) _ v q (by omega) hv Rat.le_refl e
     have e2:=low (x:=p) (y:=((cuts.getD (i+1) 0:Int):Rat)) (Rat.le_of_lt c1) Rat.le_refl
     refine ⟨by unfold vu;rw [e2,c2];grind,by grind,a3,fun x hx=>?_⟩
     have b1:=a4 x hx
     have b2:=Rat.mul_le_mul_of_nonneg_left (hmon hx) hd0
     unfold vu
     grind
   rw [if_neg c2] at e
   have e:=yin (yin e)
   have dpos:(0:Rat)<((dens.getD i 0:Int):Rat):=Rat.intCast_pos.2 (by omega)
   have up:uC cuts i p=p:=by unfold uC;grind
   by_cases c3:(((cuts.getD (i+1) 0:Int):Rat)-p)*((dens.getD i 0:Int):Rat)<v
   · rw [if_pos c3] at e
     have e:=yin e
     obtain ⟨a1,a2,a3,a4⟩:=ytc h r (i+1) _ _ q (by omega) (by grind) Rat.le_refl e
     have e2:=low (x:=p) (y:=((cuts.getD (i+1) 0:Int):Rat)) (Rat.le_of_lt c1) Rat.le_refl
     have uq:uC cuts i q=((cuts.getD (i+1) 0:Int):Rat):=by unfold uC;grind
     refine ⟨by unfold vu;rw [e2,up,uq];grind,by grind,a3,fun x hx=>?_⟩
     have b1:=a4 x hx
     have b2:=Rat.mul_le_mul_of_nonneg_left (hmon hx) hd0
     unfold vu
     grind
   · rw [if_neg c3] at e
     have e:=yin (yin e)
     cases e
     generalize hs:v / ((dens.getD i 0:Int):Rat)=s at *
     have es:s*((dens.getD i 0:Int):Rat)=v:=by rw [← hs];exact Rat.div_mul_cancel (by grind)
     have s0:0<s:=by
       refine Rat.not_le.1 fun k=>?_
       have:=Rat.mul_le_mul_of_nonneg_right k hd0
       grind
     have s1:p+s≤((cuts.getD (i+1) 0:Int):Rat):=by
       refine Rat.not_lt.1 fun k=>?_
       have:(((cuts.getD (i+1) 0:Int):Rat)-p)<s:=by grind
       have:=Rat.mul_lt_mul_of_pos_right this dpos
       grind
     have uq:uC cuts i (p+s)=p+s:=by unfold uC;grind
     have e2:=low (x:=p+s) (y:=p) s1 (Rat.le_of_lt c1)
     have hlast:cuts.getD (i+1) 0≤cuts.getD dens.length 0:=h.mono (by omega) (by omega)
     have hlast:((cuts.getD (i+1) 0:Int):Rat)≤((cuts.getD dens.length 0:Int):Rat):=Rat.intCast_le_intCast.2 hlast
     refine ⟨by unfold vu;rw [e2,up,uq];grind,by grind,by grind,fun x hx=>?_⟩
     have b1:=hmon2 hx
     have ux:uC cuts i x<p+s:=by
       have k1:=yez x (cuts.getD i 0:Int)
       have k2:=yfW (maxR x (cuts.getD i 0:Int)) (cuts.getD (i+1) 0:Int)
       unfold uC
       grind
     have b2:=Rat.mul_lt_mul_of_pos_left ux dpos
     unfold vu
     rw [uq]
     grind
theorem VC.last (h:VC len cuts dens):cuts.getD dens.length 0=len:=by
 have l1:=h.l1
 have:=h.2.2.2.2.2.2.1
 rw [show dens.length=cuts.length-1 by omega]
 exact this
theorem yHP (h:VC len cuts dens) {a v q:Rat} (h0:0≤a) (h1:a≤(len:Rat)) (hv:0≤v) (e:mrkC cuts dens a v=.ok q) :
   vX cuts dens q=vX cuts dens a+v∧a≤q∧q≤(len:Rat)∧(v=0→a=q)∧(v≠0→∀ x,x<q→vX cuts dens x<vX cuts dens q):=by
 unfold mrkC at e
 by_cases c:v=0
 · rw [if_pos c] at e
   cases e
   rw [c]
   exact ⟨by grind,Rat.le_refl,h1,fun _=>rfl,fun k=>absurd rfl k⟩
 · rw [if_neg c] at e
   have c0:cuts.getD 0 0=0:=h.2.2.2.2.2.1
   obtain ⟨a1,a2,a3,a4⟩:=ytc h dens.length 0 a v q (by omega) (by grind) (by rw [c0];exact h0) e
   rw [h.last] at a3
   exact ⟨by unfold vX;grind,Rat.le_of_lt a2,a3,fun k=>absurd k c,fun _=>a4⟩
end
end Go.Pf.Vc
namespace Go.Pf.Vc
open Go Go.Pf
def In (D:Int) (q:Rat):Prop:=∃ n:Int,q=(n:Rat) / (D:Rat)
theorem In.int {D:Int} (h:1≤D) (c:Int):In D (c:Rat):=⟨c*D,by rw [Rat.intCast_mul,Rat.mul_div_cancel (rne h)]⟩
theorem In.add {D:Int} {q r:Rat} (h:In D q) (k:In D r):In D (q+r):=by
 obtain ⟨n,rfl⟩:=h
 obtain ⟨m,rfl⟩:=k
 exact ⟨n+m,by rw [Rat.intCast_add];grind⟩
theorem In.sub {D:Int} {q r:Rat} (h:In D q) (k:In D r):In D (q-r):=by
 obtain ⟨n,rfl⟩:=h
 obtain ⟨m,rfl⟩:=k
 exact ⟨n-m,by rw [Rat.intCast_sub];grind⟩
theorem In.mulI {D:Int} {q:Rat} (h:In D q) (d:Int):In D (q*(d:Rat)):=by
 obtain ⟨n,rfl⟩:=h
 exact ⟨n*d,by rw [Rat.intCast_mul];grind⟩
theorem In.up {D d:Int} {q:Rat} (hD:1≤D) (hd:1≤d) (h:In D q):In (d*D) q:=by
 obtain ⟨n,rfl⟩:=h
 have h1:=rne hD
 have h2:=rne hd
 refine ⟨d*n,?_⟩
 rw [Rat.intCast_mul,Rat.intCast_mul]
 grind
theorem In.div {D d:Int} {q:Rat} (hD:1≤D) (hd:1≤d) (h:In D q):In (d*D) (q / (d:Rat)):=by
 obtain ⟨n,rfl⟩:=h
 have h1:=rne hD
 have h2:=rne hd
 refine ⟨n,?_⟩
 rw [Rat.intCast_mul]
 grind
theorem In.small {D M:Int} {q:Rat} (h:In D q) (hD:1≤D∧D≤1000000000000000000) (hM:M*D≤1000000000000000000) (h0:-(M:Rat)≤q) (h1:q≤(M:Rat)):small q:=by
 obtain ⟨n,rfl⟩:=h
 have hp:(0:Rat)<(D:Rat):=Rat.intCast_pos.2 (by omega)
 have e:(n:Rat) / (D:Rat)*(D:Rat)=(n:Rat):=Rat.div_mul_cancel (rne hD.1)
 have a:=Rat.mul_le_mul_of_nonneg_right h0 (Rat.le_of_lt hp)
 have b:=Rat.mul_le_mul_of_nonneg_right h1 (Rat.le_of_lt hp)
 rw [e] at a b
 have a':((-(M*D):Int):Rat)≤(n:Rat):=by rw [Rat.intCast_neg,Rat.intCast_mul];grind
 have b':(n:Rat)≤((M*D:Int):Rat):=by rw [Rat.intCast_mul];exact b
 have a2:=Rat.intCast_le_intCast.1 a'
 have b2:=Rat.intCast_le_intCast.1 b'
 exact ywF (d:=D) ⟨by omega,by omega⟩ ⟨by omega,by omega⟩
section
variable {len:Int} {cuts dens:List Int}
theorem ytd (h:VC len cuts dens) {i j:Nat} (hij:i≤j) (hj:j≤dens.length):((cuts.getD i 0:Int):Rat)≤((cuts.getD j 0:Int):Rat):=Rat.intCast_le_intCast.2 (h.mono hij (by have:=h.l1;omega))
theorem yGD (h:VC len cuts dens):∀ (r i:Nat),i+r=dens.length→vu cuts dens (len:Rat) r i-vu cuts dens ((cuts.getD i 0:Int):Rat) r i=((rem cuts dens r i:Int):Rat)
 | 0,_,_=>by unfold vu rem;show (0:Rat)-0=0;grind
 | r+1,i,hi=>by
   have ih:=yGD h r (i+1) (by omega)
   have hst:((cuts.getD i 0:Int):Rat)≤((cuts.getD (i+1) 0:Int):Rat):=ytd h (Nat.le_succ i) (by omega)
   have hl:((cuts.getD (i+1) 0:Int):Rat)≤(len:Rat):=by rw [← h.last];exact ytd h (by omega) (Nat.le_refl _)
   have low:=yuZ h r (i+1) (x:=((cuts.getD i 0:Int):Rat)) (y:=((cuts.getD (i+1) 0:Int):Rat)) (by omega) hst Rat.le_refl
   have m1:=yez (len:Rat) (cuts.getD i 0:Int)
   have n1:=yfW (maxR (len:Rat) (cuts.getD i 0:Int)) (cuts.getD (i+1) 0:Int)
   have m2:=yez ((cuts.getD i 0:Int):Rat) (cuts.getD i 0:Int)
   have n2:=yfW (maxR ((cuts.getD i 0:Int):Rat) (cuts.getD i 0:Int)) (cuts.getD (i+1) 0:Int)
   have e1:uC cuts i (len:Rat)=((cuts.getD (i+1) 0:Int):Rat):=by unfold uC;grind
   have e2:uC cuts i ((cuts.getD i 0:Int):Rat)=((cuts.getD i 0:Int):Rat):=by unfold uC;grind
   unfold vu rem
   rw [e1,e2,low,Rat.intCast_add,Rat.intCast_mul,Rat.intCast_sub,← ih]
   grind
theorem yGE (h:VC len cuts dens):vX cuts dens (len:Rat)-vX cuts dens 0=((totC cuts dens:Int):Rat):=by
 have c0:cuts.getD 0 0=0:=h.2.2.2.2.2.1
 have:=yGD h dens.length 0 (by omega)
 rw [c0] at this
 unfold totC
 rw [yuY,show (0:Int)+rem cuts dens dens.length 0=rem cuts dens dens.length 0 by omega]
 exact this
end
end Go.Pf.Vc
namespace Go.Pf.Vc
open Go Go.Pf
section
variable {len:Int} {cuts dens:List Int}
theorem yDY (h:VC len cuts dens):(1:Rat)≤(len:Rat)∧(len:Rat)≤1000:=by
 have:=h.len0
 exact ⟨Rat.intCast_le_intCast.2 this.1,Rat.intCast_le_intCast.2 this.2⟩
theorem yDZ (h:VC len cuts dens) {i:Nat} (hi:i<dens.length):(0:Rat)≤((dens.getD i 0:Int):Rat)∧((dens.getD i 0:Int):Rat)≤12:=by
 have:=h.den hi
 exact ⟨Rat.intCast_le_intCast.2 this.1,Rat.intCast_le_intCast.2 this.2⟩
theorem yD0 {x d:Rat} (h0:0≤x) (hd:0≤d∧d≤12):0≤x*d∧x*d≤12*x:=by
 have a:=Rat.mul_nonneg h0 hd.1
 have b:=Rat.mul_le_mul_of_nonneg_left hd.2 h0
 exact ⟨a,by grind⟩
theorem yrE (h:VC len cuts dens) {D:Int} (hD:1≤D∧D≤50000000000000) {b:Rat} (hb:In D b) (b1:b≤(len:Rat)) :
   ∀ (r i:Nat) (p sum:Rat),i+r=dens.length→In D p→In D sum→0≤p→p≤(len:Rat)→0≤sum→sum≤12*p→∃ v,valS cuts dens b r i p sum=.ok v
 | 0,i,p,sum,_,_,_,_,_,_,_=>⟨sum,rfl⟩
 | r+1,i,p,sum,hi,hp,hs,p0,p1,s0,s1=>by
   have l1:=h.l1
   have hl:=yDY h
   have hd:=yDZ h (i:=i) (by omega)
   have hc1:((cuts.getD (i+1) 0:Int):Rat)≤(len:Rat):=by rw [← h.last];exact ytd h (by omega) (Nat.le_refl _)
   unfold valS
   have hen:∃ en:Rat,(if b<((cuts.getD (i+1) 0:Int):Rat) then b else ((cuts.getD (i+1) 0:Int):Rat))=en∧In D en∧en≤(len:Rat):=by
     refine ⟨_,rfl,?_,?_⟩
     · split
       · exact hb
       · exact In.int hD.1 _
     · split <;> grind
   obtain ⟨en,e0,e1,e2⟩:=hen
   rw [e0]
   dsimp only
   split
   · refine yrE h hD hb b1 r (i+1) _ sum (by omega) ?_ hs ?_ ?_ s0 ?_
     · split
       · exact e1
       · exact hp
     · split <;> grind
     · split <;> grind
     · split <;> grind
   · rename_i hn
     have hlt:p<en:=by
       refine Classical.byContradiction fun k=>hn (.inr k)
     have m:=yD0 (x:=en-p) (by grind) hd
     have i1:=e1.sub hp
     have i2:=i1.mulI (dens.getD i 0)
     have i3:=hs.add i2
     rw [ye5 (i1.small (M:=1000) ⟨by omega,by omega⟩ (by omega) (by show -(1000:Rat)≤_;grind) (by show _≤(1000:Rat);grind)),
       ye5 (i2.small (M:=12000) ⟨by omega,by omega⟩ (by omega) (by show -(12000:Rat)≤_;grind) (by show _≤(12000:Rat);grind)),
       ye5 (i3.small (M:=12000) ⟨by omega,by omega⟩ (by omega) (by show -(12000:Rat)≤_;grind) (by show _≤(12000:Rat);grind))]
     exact yrE h hD hb b1 r (i+1) en _ (by omega) e1 i3 (by grind) e2 (by grind) (by grind)
theorem ywJ (h:VC len cuts dens) {D:Int} (hD:1≤D∧D≤50000000000000) {a b:Rat} (ha:In D a) (hb:In D b) (a0:0≤a) (hab:a≤b) (b1:b≤(len:Rat)):valC cuts dens a b=.ok (vX cuts dens b-vX cuts dens a):=by
 obtain ⟨v,e⟩:=yrE h hD hb b1 dens.length 0 a 0 (by omega) ha (In.int hD.1 0) a0 (by grind) (by grind) (by grind)
 have e:valC cuts dens a b=.ok v:=e
 rw [e,yHO h a0 hab e]
end
end Go.Pf.Vc
namespace Go.Pf.Vc
open Go Go.Pf
set_option maxRecDepth 100000
theorem yGF {α:Type} {l:List α} {n:Nat} (h:l.length=n+1):∃ a r,l=a::r∧r.length=n:=by
 cases l with
 | nil=>cases h
 | cons a r=>exact ⟨a,r,rfl,by simpa using h⟩
end Go.Pf.Vc
namespace Go.Pf.Vc
open Go Go.Pf
def meets (s t:RS):Bool:=decide (s.1<t.2)&&decide (t.1<s.2)
end Go.Pf.Vc
namespace Go.Pf.Vc
open Go Go.Pf
theorem datD (l:List PV):ybq (PV.data l)=l:=rfl
def rspL (A:List (List RS)):List PV:=A.map fun a=>.data (rsp a)
theorem yHQ {A:List (List RS)} {i:Nat} (h:i<A.length):List.getD (rspL A) i .nils=.data (rsp (A.getD i [])):=by
 unfold rspL
 rw [List.getD_eq_getElem?_getD,List.getD_eq_getElem?_getD,List.getElem?_map,List.getElem?_eq_getElem h]
 rfl
end Go.Pf.Vc
namespace Go.Pf.Vc
open Go Go.Pf
def QR (cs:List Ck) (q:Qy):Prop :=
 (0≤q.agent∧q.agent<cs.length)∧(I64 q.an∧I64 q.ad∧I64 q.bn∧I64 q.bd) ∧
   ∃ p:Rat,(q.cn=p.num∧q.cd=p.den) ∧
     ((q.kind=2∧mrkR (cs.getD q.agent.toNat default).len (cs.getD q.agent.toNat default).cuts (cs.getD q.agent.toNat default).dens q.an q.ad q.bn q.bd=.ok p) ∨
      (q.kind=1∧valR (cs.getD q.agent.toNat default).len (cs.getD q.agent.toNat default).cuts (cs.getD q.agent.toNat default).dens q.an q.ad q.bn q.bd=.ok p))
end Go.Pf.Vc
namespace Go.Pf.Vc
open Go Go.Pf
structure LD (cs:List Ck) (A:List (List RS)) (t:Nat→Rat) (τ:Nat→Nat):Prop where
 d:DK cs
 l:A.length=cs.length
 t0:t 0=0
 tn:t cs.length=((cs.getD 0 default).len:Rat)
 lt:∀ j,j<cs.length→t j<t (j+1)
 sm:∀ j,j≤cs.length→small (t j)
 at_:∀ a,a<cs.length→τ a<cs.length∧A.getD a []=[(t (τ a),t (τ a+1))]
 inj:∀ a b,a<cs.length→b<cs.length→τ a=τ b→a=b
 sur:∀ j,j<cs.length→∃ a,a<cs.length∧τ a=j
section
variable {cs:List Ck} {A:List (List RS)} {t:Nat→Rat} {τ:Nat→Nat}
theorem LD.mono (h:LD cs A t τ):∀ {j i:Nat},i≤j→j≤cs.length→t i≤t j
 | 0,i,hij,_=>by
   obtain rfl:i=0:=by omega
   exact Rat.le_refl
 | j+1,i,hij,hj=>by
   by_cases e:i=j+1
   · subst e;exact Rat.le_refl
   · have:=h.mono (j:=j) (i:=i) (by omega) (by omega)
     have:=h.lt j (by omega)
     grind
theorem LD.bound (h:LD cs A t τ) {j:Nat} (hj:j≤cs.length):0≤t j∧t j≤((cs.getD 0 default).len:Rat):=by
 have a:=h.mono (Nat.zero_le j) hj
 have b:=h.mono hj (Nat.le_refl _)
 rw [h.t0] at a
 rw [h.tn] at b
 exact ⟨a,b⟩
end
end Go.Pf.Vc
namespace Go.Pf.Vc
open Go Go.Pf
section
variable {len:Int} {cuts dens:List Int}
theorem yqx (h:VC len cuts dens):∀ (r i:Nat) (p v:Rat),i+r=dens.length→((cuts.getD i 0:Int):Rat)≤p→p≤(len:Rat)→0<v→v≤vu cuts dens (len:Rat) r i-vu cuts dens p r i →
   ∀ D,1≤D→D≤1000000000000→In D p→In D v→v≤12000→∃ q d,mrkS cuts dens r i p v=.ok q∧(1≤d∧d≤12)∧In (d*D) q
 | 0,i,p,v,hi,_,_,v0,v1=>by
   unfold vu at v1
   grind
 | r+1,i,p,v,hi,hp,p1,v0,v1=>by
   intro D D1 D2 hpD hvD hv
   have l1:=h.l1
   have hl:=yDY h
   have hd:=yDZ h (i:=i) (by omega)
   have hd2:=h.den (i:=i) (by omega)
   have hc0:(0:Rat)≤((cuts.getD i 0:Int):Rat):=Rat.intCast_nonneg.2 (h.lo (by omega))
   have hst:((cuts.getD i 0:Int):Rat)<((cuts.getD (i+1) 0:Int):Rat):=Rat.intCast_lt_intCast.2 (h.step (i:=i) (by omega))
   have hc1:((cuts.getD (i+1) 0:Int):Rat)≤(len:Rat):=by rw [← h.last];exact ytd h (by omega) (Nat.le_refl _)
   have low:=yuZ h r (i+1) (x:=p) (y:=((cuts.getD (i+1) 0:Int):Rat)) (by omega)
   have m1:=yez p (cuts.getD i 0:Int)
   have m2:=yez (len:Rat) (cuts.getD i 0:Int)
   have n1:=yfW (maxR p (cuts.getD i 0:Int)) (cuts.getD (i+1) 0:Int)
   have n2:=yfW (maxR (len:Rat) (cuts.getD i 0:Int)) (cuts.getD (i+1) 0:Int)
   have el:uC cuts i (len:Rat)=((cuts.getD (i+1) 0:Int):Rat):=by unfold uC;grind
   unfold vu at v1
   rw [el] at v1
   unfold mrkS
   by_cases c1:p<((cuts.getD (i+1) 0:Int):Rat)
   case neg =>
     rw [if_pos c1]
     have ep:uC cuts i p=((cuts.getD (i+1) 0:Int):Rat):=by unfold uC;grind
     rw [ep] at v1
     exact yqx h r (i+1) p v (by omega) (Rat.not_lt.1 c1) p1 v0 (by grind) D D1 D2 hpD hvD hv
   rw [if_neg (fun k=>k c1)]
   have ep:uC cuts i p=p:=by unfold uC;grind
   rw [ep,low (Rat.le_of_lt c1) Rat.le_refl] at v1
   by_cases cz:dens.getD i 0=0
   · rw [if_pos cz]
     rw [cz] at v1
     have e0:((0:Int):Rat)=0:=rfl
     exact yqx h r (i+1) ((cuts.getD (i+1) 0:Int):Rat) v (by omega) Rat.le_refl hc1 v0 (by grind) D D1 D2 (In.int D1 _) hvD hv
   rw [if_neg cz]
   have hd1:0<dens.getD i 0:=by omega
   have dpos:(0:Rat)<((dens.getD i 0:Int):Rat):=Rat.intCast_pos.2 hd1
   have m:=yD0 (x:=((cuts.getD (i+1) 0:Int):Rat)-p) (by grind) hd
   by_cases c3:(((cuts.getD (i+1) 0:Int):Rat)-p)*((dens.getD i 0:Int):Rat)<v
   · have i1:=(In.int D1 (cuts.getD (i+1) 0)).sub hpD
     have i2:=i1.mulI (dens.getD i 0)
     have i3:=hvD.sub i2
     rw [ye5 (i1.small (M:=1000) ⟨by omega,by omega⟩ (by omega) (by show -(1000:Rat)≤_;grind) (by show _≤(1000:Rat);grind)),
       ye5 (i2.small (M:=12000) ⟨by omega,by omega⟩ (by omega) (by show -(12000:Rat)≤_;grind) (by show _≤(12000:Rat);grind)),if_pos c3,
       ye5 (i3.small (M:=12000) ⟨by omega,by omega⟩ (by omega) (by show -(12000:Rat)≤_;grind) (by show _≤(12000:Rat);grind))]
     exact yqx h r (i+1) ((cuts.getD (i+1) 0:Int):Rat) (v-(((cuts.getD (i+1) 0:Int):Rat)-p)*((dens.getD i 0:Int):Rat)) (by omega) Rat.le_refl hc1 (by grind) (by grind) D D1 D2 (In.int D1 _) i3 (by grind)
   · have i1:=(In.int D1 (cuts.getD (i+1) 0)).sub hpD
     have i2:=i1.mulI (dens.getD i 0)
     have i3:=hvD.div D1 (d:=dens.getD i 0) (by omega)
     have i4:=(hpD.up D1 (d:=dens.getD i 0) (by omega)).add i3
     have hDD:dens.getD i 0*D≤12*D:=Int.mul_le_mul_of_nonneg_right hd2.2 (by omega)
     have hDD1:1*1≤dens.getD i 0*D:=Int.mul_le_mul (by omega) D1 (by omega) (by omega)
     generalize hs:v / ((dens.getD i 0:Int):Rat)=s at *
     have es:s*((dens.getD i 0:Int):Rat)=v:=by rw [← hs];exact Rat.div_mul_cancel (by grind)
     have s0:0≤s:=by
       refine Rat.not_lt.1 fun k=>?_
       have:=Rat.mul_lt_mul_of_pos_right k dpos
       grind
     have s1:p+s≤((cuts.getD (i+1) 0:Int):Rat):=by
       refine Rat.not_lt.1 fun k=>?_
       have:(((cuts.getD (i+1) 0:Int):Rat)-p)<s:=by grind
       have:=Rat.mul_lt_mul_of_pos_right this dpos
       grind
     rw [ye5 (i1.small (M:=1000) ⟨by omega,by omega⟩ (by omega) (by show -(1000:Rat)≤_;grind) (by show _≤(1000:Rat);grind)),
       ye5 (i2.small (M:=12000) ⟨by omega,by omega⟩ (by omega) (by show -(12000:Rat)≤_;grind) (by show _≤(12000:Rat);grind)),if_neg c3,
       ye5 (i3.small (M:=1000) ⟨by omega,by omega⟩ (by omega) (by show -(1000:Rat)≤_;grind) (by show _≤(1000:Rat);grind)),
       ye5 (i4.small (M:=1000) ⟨by omega,by omega⟩ (by omega) (by show -(1000:Rat)≤_;grind) (by show _≤(1000:Rat);grind))]
     exact ⟨_,dens.getD i 0,rfl,⟨by omega,hd2.2⟩,i4⟩
theorem yGG (h:VC len cuts dens) {p v:Rat} (p0:0≤p) (p1:p≤(len:Rat)) (v0:0<v) (hv:v≤vX cuts dens (len:Rat)-vX cuts dens p) {D:Int} (D1:1≤D) (D2:D≤1000000000000) (hp:In D p) (hvD:In D v) :
   ∃ q d,mrkC cuts dens p v=.ok q∧(1≤d∧d≤12)∧In (d*D) q∧vX cuts dens q=vX cuts dens p+v∧p<q∧q≤(len:Rat)∧∀ x,x<q→vX cuts dens x<vX cuts dens q:=by
 have c0:cuts.getD 0 0=0:=h.2.2.2.2.2.1
 have t:=yGE h
 have m0:=ynj h p0
 have tb:((totC cuts dens:Int):Rat)≤12000:=Rat.intCast_le_intCast.2 (yk1 h).2
 obtain ⟨q,d,e,hd,hq⟩:=yqx h dens.length 0 p v (by omega) (by rw [c0];exact p0) p1 v0 hv D D1 D2 hp hvD (by grind)
 have ec:mrkC cuts dens p v=.ok q:=by
   unfold mrkC
   rw [if_neg (by grind)]
   exact e
 obtain ⟨k1,k2,k3,_,k5⟩:=yHP h p0 p1 (Rat.le_of_lt v0) ec
 refine ⟨q,d,ec,hd,hq,k1,?_,k3,k5 (by grind)⟩
 by_cases hlt:p<q
 · exact hlt
 · have:p=q:=by grind
   rw [← this] at k1
   grind
end
end Go.Pf.Vc
namespace Go.Pf.Vc
open Go Go.Pf
section
variable {l:List Ck}
theorem yte (hd:DK l) {a:Nat} (h:a<l.length):0<shN l a:=by
 have t:=yGy (hd.ok a h)
 have n0:=hd.n0
 have t2:(0:Rat)<((totC (l.getD a default).cuts (l.getD a default).dens:Int):Rat):=Rat.intCast_pos.2 t
 have hn:(0:Rat)<((l.length:Int):Rat):=Rat.intCast_pos.2 (by omega)
 have e:shN l a*((l.length:Int):Rat)=((totC (l.getD a default).cuts (l.getD a default).dens:Int):Rat):=Rat.div_mul_cancel (by grind)
 refine Rat.not_le.1 fun k=>?_
 have:=Rat.mul_le_mul_of_nonneg_right k (Rat.le_of_lt hn)
 grind
theorem yHR (hd:DK l) {a:Nat} (_:a<l.length):((l.length:Int):Rat)*shN l a=((totC (l.getD a default).cuts (l.getD a default).dens:Int):Rat):=by
 have n0:=hd.n0
 have hn:(0:Rat)<((l.length:Int):Rat):=Rat.intCast_pos.2 (by omega)
 have e:shN l a*((l.length:Int):Rat)=((totC (l.getD a default).cuts (l.getD a default).dens:Int):Rat):=Rat.div_mul_cancel (by grind)
 grind
theorem yI9 (l:List Ck) (a:Nat):In (l.length:Int) (shN l a):=⟨totC (l.getD a default).cuts (l.getD a default).dens,rfl⟩
def mkM (l:List Ck) (p:Rat) (a:Nat):Rat:=getR (mrkC (l.getD a default).cuts (l.getD a default).dens p (shN l a))
theorem yGH (hd:DK l) {a:Nat} (h:a<l.length) {p:Rat} (p0:0≤p) (p1:p≤((l.getD 0 default).len:Rat)) (hv:shN l a≤vX (l.getD a default).cuts (l.getD a default).dens ((l.getD 0 default).len:Rat)-vX (l.getD a default).cuts (l.getD a default).dens p)
   {D:Int} (D1:1≤D) (D2:D≤1000000000000) (hp:In D p) (hs:In D (shN l a)) :
   mrkC (l.getD a default).cuts (l.getD a default).dens p (shN l a)=.ok (mkM l p a)∧(∃ d:Int,(1≤d∧d≤12)∧In (d*D) (mkM l p a))∧vX (l.getD a default).cuts (l.getD a default).dens (mkM l p a)=vX (l.getD a default).cuts (l.getD a default).dens p+shN l a∧p<mkM l p a∧mkM l p a≤((l.getD 0 default).len:Rat):=by
 have hok:=hd.ok a h
 have hlen:=hd.len a h
 rw [← hlen] at p1 hv ⊢
 obtain ⟨q,d,e,hd12,hq,k1,k2,k3,_⟩:=yGG hok p0 p1 (yte hd h) hv D1 D2 hp hs
 obtain ⟨g1,g2⟩:=yHN e
 have g2:mkM l p a=q:=g2
 rw [g2]
 exact ⟨e,⟨d,hd12,hq⟩,k1,k2,k3⟩
theorem yA1 (hd:DK l) {a:Nat} (h:a<l.length) {p:Rat} (hs:small p) (p0:0≤p) (p1:p≤((l.getD 0 default).len:Rat)) (e:mrkC (l.getD a default).cuts (l.getD a default).dens p (shN l a)=.ok (mkM l p a)) :
   mrkR (l.getD a default).len (l.getD a default).cuts (l.getD a default).dens p.num p.den (shN l a).num (shN l a).den=.ok (mkM l p a):=by
 have hok:=hd.ok a h
 have hsh:=ygk hd h
 have hp:=yte hd h
 unfold mrkR
 rw [if_pos hok.ck,if_pos ⟨yAW hs p0 (by rw [hd.len a h];exact p1),hsh.rv,Rat.num_nonneg.2 (Rat.le_of_lt hp)⟩,ygz,ygz]
 exact e
theorem ywK (hd:DK l) {a:Nat} (h:a<l.length) {p:Rat} (hs:small p) (p0:0≤p) (p1:p≤((l.getD 0 default).len:Rat)) (e:mrkC (l.getD a default).cuts (l.getD a default).dens p (shN l a)=.ok (mkM l p a)) {m:Nat} (hm:m<2000) :
   yh3 l p.num p.den m a=.ok (mkM l p a):=by
 unfold yh3 qryR
 rw [if_pos (hd.err (by omega)),if_pos ⟨by omega,by omega⟩,Int.toNat_natCast]
 have:Ck.mark p.num p.den (shN l a).num (shN l a).den (l.getD a default)=.ok (mkM l p a):=yA1 hd h hs p0 p1 e
 rw [this]
 show (if m≥2000 then _ else _)=_
 rw [if_neg (by omega)]
theorem yGI (hd:DK l) {a:Nat} (h:a<l.length) {p:Rat} (hs:small p) (p0:0≤p) (p1:p≤((l.getD 0 default).len:Rat)) (e:mrkC (l.getD a default).cuts (l.getD a default).dens p (shN l a)=.ok (mkM l p a)):QR l (ymO l p.num p.den a (mkM l p a)):=by
 have hsh:=ygk hd h
 refine ⟨⟨by show (0:Int)≤a;omega,by show (a:Int)<_;omega⟩,⟨hs.i1,hs.i2,hsh.i1,hsh.i2⟩,mkM l p a,⟨rfl,rfl⟩,.inl ⟨rfl,?_⟩⟩
 show mrkR (l.getD a default).len (l.getD a default).cuts (l.getD a default).dens p.num p.den (shN l a).num (shN l a).den=_
 exact yA1 hd h hs p0 p1 e
end
end Go.Pf.Vc
namespace Go.Pf.Vc
open Go Go.Pf
section
variable {l:List Ck}
def vXA (l:List Ck) (a:Nat) (p:Rat):Rat:=vX (l.getD a default).cuts (l.getD a default).dens p
def lenR (l:List Ck):Rat:=((l.getD 0 default).len:Rat)
def spT (t:Nat→Rat) (j:Nat):Sp:=⟨(t j).num,(t j).den,(t (j+1)).num,(t (j+1)).den⟩
end
end Go.Pf.Vc
namespace Go.Pf.Vc
open Go Go.Pf
section
variable {l:List Ck}
theorem yu0 {q r:Rat} (hq:small q) (hr:small r) (K:Bool→Prop):ydC q.num q.den r.num r.den K=K (decide (r<q)):=by
 unfold ydC ykW
 rw [yDO hq hr]
 congr 1
 unfold cmpQ
 by_cases h:q<r
 · rw [if_pos h]
   have:¬r<q:=fun h'=>by grind
   simp [this]
 · rw [if_neg h]
   by_cases h2:r<q
   · have:¬q=r:=fun e=>by grind
     simp [h2]
   · have:q=r:=by grind
     simp [this]
theorem ygl (hd:DK l) {a:Nat} (h2:a<l.length) {lg:List PV} (hm:lg.length≤2000) (K:Int→Int→Prop):yc9 (cks l) lg a K=K (shN l a).num (shN l a).den:=by
 have hok:=hd.ok a h2
 have tb:=yk1 hok
 have n6:=hd.n6
 have h1:=VC.l1 hok;have h3:=VC.l2 hok
 unfold yc9 yiO yme ykA
 rw [yni hd.fin (by omega),hd.err hm,cnF rfl,yCY,decide_eq_true (by omega),Bool.not_true,yaa]
 simp only [lt]
 rw [yaX,Int.toNat_natCast,yeJ h2,asT (by omega),asT (by omega),asCk,ck0,ck1,ck2,yEV (by omega) (by omega),if_pos (VC.ck hok),yGk ⟨by omega,by omega⟩ ⟨by omega,by omega⟩ (by omega),ydb]
 have:=ygk hd h2
 unfold shN shr at this ⊢
 rw [if_pos this]
structure TSt where
 lg:List Qy
 p:Rat
 w:Nat
 k:Nat
def valQ (an ad:Int) (a:Nat) (p v:Rat):Qy:=⟨a,1,an,ad,p.num,p.den,v.num,v.den⟩
def valE (l:List Ck) (an ad:Int) (m a:Nat) (p:Rat):Except Int Rat:=qryR l m a (Ck.value an ad p.num p.den)
def tR (l:List Ck) (an ad:Int):List Nat→TSt→Except Int TSt
 | [],s=>.ok s
 | a::r,s=>match valE l an ad s.lg.length a s.p with
   | .error e=>.error e
   | .ok v=>if shN l a<v then
       (match yh3 l an ad (s.lg.length+1) a with
        | .error e=>.error e
        | .ok q=>tR l an ad r ⟨(s.lg++[valQ an ad a s.p v])++[ymO l an ad a q],q,a,s.k+1⟩)
     else tR l an ad r ⟨s.lg++[valQ an ad a s.p v],s.p,s.w,s.k⟩
theorem yA2 (cuts dens:List Int) (b:Rat):∀ (r i:Nat) (p sum v:Rat),small sum→valS cuts dens b r i p sum=.ok v→small v:=by
 intro r
 induction r with
 | zero=>intro i p sum v hs e;unfold valS at e;cases e;exact hs
 | succ r ih =>
   intro i p sum v hs e
   unfold valS fit at e
   repeat' (first | split at e | dsimp only at e)
   all_goals first | exact ih _ _ _ _ hs e | (rename_i h;exact ih _ _ _ _ h e) | cases e
theorem yA3 {an ad:Int} {m a:Nat} {p v:Rat} (h:valE l an ad m a p=.ok v):small v:=by
 unfold valE qryR at h
 split at h
 · split at h
   · split at h
     · rename_i q hq
       split at h
       · cases h
       · cases h
         have hq:valR (l.getD a default).len (l.getD a default).cuts (l.getD a default).dens an ad p.num p.den=.ok v:=hq
         unfold valR at hq
         split at hq
         · split at hq
           · unfold valC at hq
             exact yA2 _ _ _ _ _ _ _ _ (by have:=yfq (x:=0) (by omega);simpa using this) hq
           · cases hq
         · cases hq
     · cases h
   · cases h
 · cases h
theorem yio {an ad:Int} {m a:Nat} {q:Rat} (h:yh3 l an ad m a=.ok q):small q:=yC0 h
theorem ynk (hd:DK l) {a:Nat} (_:a<l.length) {an ad:Int} (ha:I64 an) (ha':I64 ad) (lg:List Qy) {p:Rat} (hp:small p) (K:List PV→List PV→Int→Int→Int→Prop) :
   ybL (cks l) (logs lg) a an ad p.num p.den K =
     match valE l an ad lg.length a p with
     | .ok v=>K (cks l) (logs (lg++[valQ an ad a p v])) v.num v.den 0
     | .error e=>K [] [] 0 0 e:=by
 have n6:=hd.n6
 rw [yE2 hd.fin (by omega) (ywI lg) ha ha' hp.i1 hp.i2,yeR]
 have em:qryR l lg.length a (Ck.value an ad p.num p.den)=valE l an ad lg.length a p:=rfl
 rw [em]
 cases valE l an ad lg.length a p with
 | ok v =>
   show K (cks l) (logs lg++[_]) _ _ _=K (cks l) (logs (lg++[_])) _ _ _
   rw [yA0];rfl
 | error c=>rfl
theorem yqy (hd:DK l) {a:Nat} (h:a<l.length) {an ad:Int} (ha:I64 an) (ha':I64 ad) (lg:List Qy) (K:List PV→List PV→Int→Int→Int→Prop) :
   ycF (cks l) (logs lg) a an ad (shN l a).num (shN l a).den K =
     match yh3 l an ad lg.length a with
     | .ok p=>K (cks l) (logs (lg++[ymO l an ad a p])) p.num p.den 0
     | .error e=>K [] [] 0 0 e:=by
 have hs:=ygk hd h
 have n6:=hd.n6
 rw [yGu hd.fin (by omega) (ywI lg) ha ha' hs.i1 hs.i2,yeR]
 have em:qryR l lg.length a (Ck.mark an ad (shN l a).num (shN l a).den)=yh3 l an ad lg.length a:=rfl
 rw [em]
 cases yh3 l an ad lg.length a with
 | ok p =>
   show K (cks l) (logs lg++[_]) _ _ _=K (cks l) (logs (lg++[_])) _ _ _
   rw [yA0];rfl
 | error c=>rfl
theorem yA4 {m:Nat} {agent:Int} {k:Ck→Except Int Rat} (hk:∀ c,k c≠.error 0):qryR l m agent k≠.error 0:=by
 unfold qryR
 intro h
 split at h
 · split at h
   · split at h
     · split at h
       · cases h
       · cases h
     · rename_i c hc
       cases h
       exact hk _ hc
   · cases h
 · rename_i h0;exact h0 (Except.error.inj h)
theorem yA5 {an ad:Int} {m a:Nat} {p:Rat}:valE l an ad m a p≠.error 0:=yA4 fun _=>yAZ
theorem ynl {an ad:Int} {m a:Nat}:yh3 l an ad m a≠.error 0:=yA4 fun _=>yGw
theorem yC2 {an ad:Int}:∀ (r:List Nat) (s:TSt),tR l an ad r s≠.error 0
 | [],s,h=>by cases h
 | a::r,s,h=>by
   unfold tR at h
   cases hv:valE l an ad s.lg.length a s.p with
   | error e=>rw [hv] at h;cases h;exact yA5 hv
   | ok v =>
     rw [hv] at h
     dsimp only at h
     split at h
     · cases hq:yh3 l an ad (s.lg.length+1) a with
       | error e=>rw [hq] at h;cases h;exact ynl hq
       | ok q=>rw [hq] at h;exact yC2 r _ h
     · exact yC2 r _ h
theorem yeL {A:List Nat} {Z:List PV} {i:Nat} (h:i<A.length):List.getD (nts A++Z) i .nils=.int .i64 (A.getD i 0):=by
 rw [List.getD_eq_getElem?_getD,List.getElem?_append_left (by rw [yim];exact h),← List.getD_eq_getElem?_getD,yI8 h]
theorem ycJ (A:List Nat) (Z:List PV):(nts A++Z).length=A.length+Z.length:=by rw [List.length_append,yim]
theorem yGJ {A r:List Nat} {i a:Nat} (h:A.drop i=a::r):i<A.length∧A.getD i 0=a∧A.drop (i+1)=r:=by
 have hlt:i<A.length:=by
   have:=congrArg List.length h
   rw [List.length_drop,List.length_cons] at this
   omega
 rw [List.drop_eq_getElem_cons hlt] at h
 rw [List.getD_eq_getElem?_getD,List.getElem?_eq_getElem hlt]
 exact ⟨hlt,(List.cons.inj h).1,(List.cons.inj h).2⟩
theorem ag0 (hd:DK l) {an ad:Int} (ha:I64 an) (ha':I64 ad) {A:List Nat} (hA:∀ a∈A,a<l.length) (hA6:A.length≤1000) (h2:2≤A.length) (Z:List PV) (b:List PV→List PV→List PV→Int→Int→Int→Int→Int→Int→Int→Int→Nat→Nat→Nat→Int→Int→Int→Int→Int→Int→Nat→Nat→Nat→Int→Int→Bool→Prop) (d:List PV→List PV→List PV→Int→Int→Int→Int→Int→Int→Int→Int→Nat→Nat→Nat→Int→Int→Int→Int→Int→Int→Int→Int→Nat→Nat→Nat→Int→Int→Bool→Prop) (c:List PV→List PV→List PV→Int→Int→Int→Int→Int→Int→Int→Int→Int→Int→Int→Int→Int→Int→Int→Prop) (i6:Int) (i7:Int) (n12:Nat) (n13:Nat) (i14:Int) (i15:Int) (i16:Int) (i17:Int) (i18:Int) (i19:Int) (n22:Nat) :
   ∀ (r:List Nat) (i:Nat) (s:TSt),A.drop i=r→1≤i→i≤A.length→small s.p→s.lg.length+2*r.length≤1900→s.k≤i →
   (match tR l an ad r s with | .ok s'=>b (nts A++Z) (cks l) (logs s'.lg) an ad (s'.w:Int) i6 i7 s'.p.num s'.p.den (s'.k:Int) A.length n12 n13 i14 i15 i16 i17 i18 i19 A.length (A.length+Z.length) n22 ((A.length:Nat):Int) ((A.length:Nat):Int) false | .error e=>∀ (q1:List PV) (q2:List PV) (q5:Int) (q8:Int) (q9:Int) (q10:Int),c (nts A++Z) q1 q2 an ad q5 i6 i7 q8 q9 q10 (0:Int) (0:Int) (0:Int) (0:Int) (0:Int) (0:Int) e)→∃ n,yaF yau ybL yc9 ydC ycF b d c n (nts A++Z) (cks l) (logs s.lg) an ad (s.w:Int) i6 i7 s.p.num s.p.den (s.k:Int) A.length n12 n13 i14 i15 i16 i17 i18 i19 A.length (A.length+Z.length) n22 ((A.length:Nat):Int) ((i:Nat):Int)
 | [],i,s,hr,h1,hi,hs,hl,hk,h=>by
   have e:i=A.length:=by
     have:=congrArg List.length hr
     rw [List.length_drop,List.length_nil] at this
     omega
   subst e
   refine ⟨1,?_⟩
   unfold yaF
   rw [cbF (by omega)]
   exact h
 | a::r,i,s,hr,h1,hi,hs,hl,hk,h=>by
   obtain ⟨hlt,hg,hr'⟩:=yGJ hr
   have ham:a<l.length:=hA a (by rw [← hg,List.getD_eq_getElem?_getD,List.getElem?_eq_getElem hlt];exact List.getElem_mem hlt)
   have IH:=ag0 hd ha ha' hA hA6 h2 Z b d c i6 i7 n12 n13 i14 i15 i16 i17 i18 i19 n22 r (i+1)
   have ew:IntKind.i64.wrap ((i:Int)+1)=((i+1:Nat):Int):=by rw [wib (by omega) (by omega)];omega
   have ek:IntKind.i64.wrap ((s.k:Int)+1)=((s.k+1:Nat):Int):=by rw [wib (by omega) (by omega)];omega
   have step:∀ s1:TSt,tR l an ad (a::r) s=tR l an ad r s1→small s1.p→s1.lg.length≤s.lg.length+2→s1.k≤i+1→∃ n,yaF yau ybL yc9 ydC ycF b d c n (nts A++Z) (cks l) (logs s1.lg) an ad (s1.w:Int) i6 i7 s1.p.num s1.p.den (s1.k:Int) A.length n12 n13 i14 i15 i16 i17 i18 i19 A.length (A.length+Z.length) n22 ((A.length:Nat):Int) ((i+1:Nat):Int):=by
     intro s1 he hs1 hl1 hk1
     refine IH s1 hr' (by omega) (by omega) hs1 (by rw [List.length_cons] at hl;omega) hk1 ?_
     rw [he] at h
     exact h
   have hh:=h
   unfold tR at hh
   cases hv:valE l an ad s.lg.length a s.p with
   | error e =>
     rw [hv] at hh
     have he0:e≠0:=fun e0=>yA5 (e0 ▸ hv)
     refine ⟨1,?_⟩
     unfold yaF
     simp only [Go.Pf.jn,lt]
     rw [cbT (by omega),asT (by omega),asT (by omega),ycJ,asT (by omega),asT (by omega),Nat.zero_add,Int.toNat_natCast,yeL hlt,hg]
     simp only [conf,yfz,decide_true,yan,yab]
     rw [ceF (by omega),cbT (by omega),ynk hd ham ha ha' s.lg hs,hv]
     dsimp only
     rw [cnT he0]
     exact hh ..
   | ok v =>
     rw [hv] at hh
     dsimp only at hh
     have sv:small v:=yA3 hv
     by_cases hm:shN l a<v
     · rw [if_pos hm] at hh
       cases hq:yh3 l an ad (s.lg.length+1) a with
       | error e =>
         rw [hq] at hh
         have he0:e≠0:=fun e0=>ynl (e0 ▸ hq)
         refine ⟨1,?_⟩
         unfold yaF
         simp only [Go.Pf.jn,lt]
         rw [cbT (by omega),asT (by omega),asT (by omega),ycJ,asT (by omega),asT (by omega),Nat.zero_add,Int.toNat_natCast,yeL hlt,hg]
         simp only [conf,yfz,decide_true,yan,yab]
         rw [ceF (by omega),cbT (by omega),ynk hd ham ha ha' s.lg hs,hv]
         dsimp only
         rw [cnF rfl,ygl hd ham (by rw [yeR,List.length_append,List.length_singleton];rw [List.length_cons] at hl;omega),yu0 sv (ygk hd ham),decide_eq_true hm,Bool.not_true,yaa]
         rw [ygl hd ham (by rw [yeR,List.length_append,List.length_singleton];rw [List.length_cons] at hl;omega),yqy hd ham ha ha' (s.lg++[valQ an ad a s.p v]),List.length_append,List.length_singleton,hq]
         dsimp only
         rw [ceF he0,cnT he0]
         exact hh ..
       | ok q =>
         rw [hq] at hh
         have sq:=yio hq
         have he:tR l an ad (a::r) s=tR l an ad r ⟨(s.lg++[valQ an ad a s.p v])++[ymO l an ad a q],q,a,s.k+1⟩:=by
           rw [tR,hv]
           dsimp only
           rw [if_pos hm,hq]
         obtain ⟨n,hn⟩:=step _ he sq (by simp) (by show s.k+1≤i+1;omega)
         refine ⟨n+1,?_⟩
         unfold yaF
         simp only [Go.Pf.jn,lt]
         rw [cbT (by omega),asT (by omega),asT (by omega),ycJ,asT (by omega),asT (by omega),Nat.zero_add,Int.toNat_natCast,yeL hlt,hg]
         simp only [conf,yfz,decide_true,yan,yab]
         rw [ceF (by omega),cbT (by omega),ynk hd ham ha ha' s.lg hs,hv]
         dsimp only
         rw [cnF rfl,ygl hd ham (by rw [yeR,List.length_append,List.length_singleton];rw [List.length_cons] at hl;omega),yu0 sv (ygk hd ham),decide_eq_true hm,Bool.not_true,yaa]
         rw [ygl hd ham (by rw [yeR,List.length_append,List.length_singleton];rw [List.length_cons] at hl;omega),yqy hd ham ha ha' (s.lg++[valQ an ad a s.p v]),List.length_append,List.length_singleton,hq]
         dsimp only
         rw [ceT rfl,cnF rfl,ew,ek]
         try simp only [decide_true,Nat.beq_refl,Bool.and_self,yan]
         exact hn
     · have he:tR l an ad (a::r) s=tR l an ad r ⟨s.lg++[valQ an ad a s.p v],s.p,s.w,s.k⟩:=by
         rw [tR,hv]
         dsimp only
         rw [if_neg hm]
       obtain ⟨n,hn⟩:=step _ he hs (by simp) (by show s.k≤i+1;omega)
       refine ⟨n+1,?_⟩
       unfold yaF
       simp only [Go.Pf.jn,lt]
       rw [cbT (by omega),asT (by omega),asT (by omega),ycJ,asT (by omega),asT (by omega),Nat.zero_add,Int.toNat_natCast,yeL hlt,hg]
       simp only [conf,yfz,decide_true,yan,yab]
       rw [ceF (by omega),cbT (by omega),ynk hd ham ha ha' s.lg hs,hv]
       dsimp only
       rw [cnF rfl,ygl hd ham (by rw [yeR,List.length_append,List.length_singleton];rw [List.length_cons] at hl;omega),yu0 sv (ygk hd ham),decide_eq_false hm,Bool.not_false,yac,ew]
       try simp only [decide_true,Nat.beq_refl,Bool.and_self,yan]
       exact hn
theorem yot {x:Int} {P:Prop}:asr (conf (.one (.i .i64)) (.int .i64 x)) P=P:=rfl
theorem ywL (a:Int) (K:Int→Int→Prop):yau a K=K a 1:=rfl
theorem iov {k:IntKind} {x:Int}:yab (.int k x)=x:=rfl
def ydu (l:List Ck) (an ad:Int) (lg:List Qy):List Nat→Except Int TSt
 | []=>.error 2
 | [a]=>.ok ⟨lg,(((l.getD 0 default).len:Int):Rat),a,0⟩
 | a::b::r=>match yh3 l an ad lg.length a with
   | .error e=>.error e
   | .ok p=>tR l an ad (b::r) ⟨lg++[ymO l an ad a p],p,a,0⟩
theorem yE6 (hd:DK l) {an ad:Int} (ha:I64 an) (ha':I64 ad) {A:List Nat} (hA:∀ a∈A,a<l.length) (hA6:A.length≤900) (h0:A≠[]) (Z:List PV) (c:Nat) {lg:List Qy} (hl:lg.length+2*A.length≤1900) (K)
   (h:match ydu l an ad lg A with
     | .ok s=>K (cks l) (logs s.lg) (s.w:Int) an ad s.p.num s.p.den (s.k:Int) 0 (nts A++Z)
     | .error e=>K [] [] 0 0 0 0 0 0 e (nts A++Z)):yaA (cks l) (logs lg) (nts A++Z) A.length (A.length+Z.length) c an ad K:=by
 have n0:=hd.n0
 obtain ⟨a,r,rfl⟩:∃ a r,A=a::r:=by cases A with | nil=>exact absurd rfl h0 | cons a r=>exact ⟨a,r,rfl⟩
 have hlen:(a::r).length=r.length+1:=rfl
 have hlt:0<(a::r).length:=by omega
 have ham:a<l.length:=hA a List.mem_cons_self
 have hg:(a::r).getD 0 0=a:=rfl
 unfold yaA yiP
 simp only [lt,Go.Pf.jn]
 rw [asT (by omega),ycJ,asT (by omega),asT (by omega),yeL hlt,hg,yot,iov,yaX,asT (by omega),yeJ (by omega),asCk,ck0]
 rw [ywL]
 cases r with
 | nil =>
   refine ⟨1,?_⟩
   unfold yaF
   simp only [Go.Pf.jn,lt]
   rw [cbT (by simp),asT (by omega),asT (by simp),ycJ,asT (by omega),asT (by simp;omega),show (0:Nat)+(0:Int).toNat=0 from rfl,yeL hlt,hg]
   simp only [conf,yfz,decide_true,yan,yab]
   rw [ceT (by simp)]
   have e1:((((l.getD 0 default).len:Int):Rat)).num=(l.getD 0 default).len:=Rat.num_intCast _
   have e2:(((((l.getD 0 default).len:Int):Rat)).den:Int)=1:=by rw [Rat.den_intCast];rfl
   simp only [ydu] at h
   rw [e1] at h
   have h:=h
   simp only [e2] at h
   exact h
 | cons b r =>
   simp only [ydu] at h
   cases hq:yh3 l an ad lg.length a with
   | error e =>
     rw [hq] at h
     have he0:e≠0:=fun e0=>ynl (e0 ▸ hq)
     refine ⟨1,?_⟩
     unfold yaF
     simp only [Go.Pf.jn,lt]
     rw [cbT (by omega),asT (by omega),asT (by omega),ycJ,asT (by omega),asT (by simp only [Int.toNat_zero];omega),show (0:Nat)+(0:Int).toNat=0 from rfl,yeL hlt,hg]
     simp only [conf,yfz,decide_true,yan,yab]
     rw [ceF (by simp only [List.length_cons];omega),cbF (by omega),ygl hd ham (by rw [yeR];omega),yqy hd ham ha ha' lg,hq]
     dsimp only
     rw [ceF he0,cnT he0]
     exact h
   | ok p =>
     rw [hq] at h
     have sp:=yio hq
     simp only [List.length_cons] at hl hA6
     obtain ⟨n,hn⟩:=ag0 hd ha ha' hA (by simp only [List.length_cons];omega) (by simp only [List.length_cons];omega) Z (fun v0 v1 v2 _ _ v5 v6 v7 v8 v9 v10 _ _ _ _ _ _ _ _ _ _ _ _ _ _ _=>asr (decide (v0.length=(a::b::r).length+Z.length)) (K v1 v2 v5 v6 v7 v8 v9 v10 0 v0)) (fun v0 v1 v2 _ _ v5 v6 v7 v8 v9 v10 _ _ _ _ _ _ _ _ _ _ _ _ _ _ _ _ _=>asr (decide (v0.length=(a::b::r).length+Z.length)) (K v1 v2 v5 v6 v7 v8 v9 v10 0 v0)) (fun v0 _ _ _ _ _ _ _ _ _ _ v11 v12 v13 v14 v15 v16 v17=>asr (decide (v0.length=(a::b::r).length+Z.length)) (K [] [] v11 v12 v13 v14 v15 v16 v17 v0)) an ad ((a::b::r).length+Z.length) c 0 0 0 0 0 0 c (b::r) 1 ⟨lg++[ymO l an ad a p],p,a,0⟩ rfl (by omega) (by simp only [List.length_cons];omega) sp (by simp only [List.length_append,List.length_cons,List.length_nil];omega) (Nat.zero_le _) (by
       revert h
       dsimp only
       cases hr:tR l an ad (b::r) ⟨lg++[ymO l an ad a p],p,a,0⟩ with
       | ok s'=>intro h;dsimp only;rw [ycJ,asT (by omega)];exact h
       | error e=>intro h;dsimp only;intros;rw [ycJ,asT (by omega)];exact h)
     refine ⟨n+1,?_⟩
     unfold yaF
     simp only [Go.Pf.jn,lt]
     rw [cbT (by simp only [List.length_cons];omega),asT (by omega),asT (by simp only [List.length_cons];omega),ycJ,asT (by omega),asT (by simp only [Int.toNat_zero,List.length_cons];omega),show (0:Nat)+(0:Int).toNat=0 from rfl,yeL hlt,hg]
     simp only [conf,yfz,decide_true,yan,yab]
     rw [ceF (by simp only [List.length_cons];omega),cbF (by omega),ygl hd ham (by rw [yeR];omega),yqy hd ham ha ha' lg,hq]
     dsimp only
     rw [ceT rfl,cnF rfl]
     exact hn
end
end Go.Pf.Vc
namespace Go.Pf.Vc
open Go Go.Pf
theorem yqz (a b:List Nat):nts (a++b)=nts a++nts b:=by unfold nts ints;rw [List.map_append,List.map_append]
theorem yjC (P Y:List Nat) (w:Nat):(P++w::Y).getD P.length 0=w:=by
 rw [List.getD_eq_getElem?_getD,List.getElem?_append_right (Nat.le_refl _),Nat.sub_self];rfl
theorem ywM (P Y:List Nat) (c w:Nat):(P++c::w::Y).getD (P.length+1) 0=w:=by
 rw [List.getD_eq_getElem?_getD,List.getElem?_append_right (by omega),show P.length+1-P.length=1 by omega];rfl
theorem yD1 (P Y:List Nat) (c y:Nat) (Z:List PV):List.set (nts (P++c::y::Y)++Z) P.length (.int .i64 y)=nts ((P++[y])++y::Y)++Z:=by
 have e:P.length=(nts P).length:=(yim P).symm
 rw [yqz,List.append_assoc,e,List.set_append_right _ _ (Nat.le_refl _),Nat.sub_self,yqz,yqz]
 simp [nts,ints]
theorem sr0 (Z:List PV) {A Y:List Nat} {w:Nat} (b:List PV→List PV→List PV→List PV→Nat→Nat→Nat→List PV→Int→List PV→List PV→Int→Int→Int→Int→Int→Int→List PV→List PV→Int→Int→Int→Int→Int→Int→Nat→Nat→Nat→Int→Int→Bool→Prop) (a:List PV→List PV→List PV→List PV→Nat→Nat→Nat→List PV→Int→List PV→List PV→Int→Int→Int→Int→Int→Int→List PV→List PV→Int→Int→Int→Int→Int→Int→Int→Prop) (l0:List PV) (l2:List PV) (l3:List PV) (n4:Nat) (n5:Nat) (n6:Nat) (l9:List PV) (i10:Int) (l11:List PV) (l12:List PV) (i14:Int) (i15:Int) (i16:Int) (i17:Int) (i18:Int) (l19:List PV) (l20:List PV) (i21:Int) (i22:Int) (i23:Int) (i24:Int) (i25:Int) (i26:Int) (n29:Nat):∀ (X2 P:List Nat) (n:Nat),A=P++X2++w::Y→w∉X2→A.length≤1000→X2.length<n →
   a l0 (nts A++Z) l2 l3 n4 n5 n6 l9 i10 l11 l12 (w:Int) i14 i15 i16 i17 i18 l19 l20 i21 i22 i23 i24 i25 i26 (((P++X2).length:Nat):Int)→ydq yaM yau yaA b a n l0 (nts A++Z) l2 l3 n4 n5 n6 l9 i10 l11 l12 (w:Int) i14 i15 i16 i17 i18 l19 l20 i21 i22 i23 i24 i25 i26 A.length (A.length+Z.length) n29 ((A.length:Nat):Int) ((P.length:Nat):Int)
 | [],P,n,hA,hw,h6,hn,h=>by
   obtain ⟨n,rfl⟩:∃ k,n=k+1:=⟨n-1,by omega⟩
   rw [List.append_nil] at hA h
   have hl:=congrArg List.length hA
   simp only [List.length_append,List.length_cons] at hl
   have hg:A.getD P.length 0=w:=by rw [hA];exact yjC P Y w
   unfold ydq
   simp only [lt]
   rw [cbT (by omega),asT (by omega),asT (by omega),ycJ,asT (by omega),asT (by omega),Nat.zero_add,Int.toNat_natCast,yeL (by omega),hg,yot,iov,ceT rfl]
   exact h
 | x::X2,P,n,hA,hw,h6,hn,h=>by
   obtain ⟨n,rfl⟩:∃ k,n=k+1:=⟨n-1,by omega⟩
   have hl:=congrArg List.length hA
   simp only [List.length_append,List.length_cons] at hl
   simp only [List.length_cons] at hn
   have hg:A.getD P.length 0=x:=by rw [hA,List.append_assoc];exact yjC P _ x
   have hx:(x:Int)≠(w:Int):=fun e=>hw (by rw [Int.ofNat_inj.1 e];exact List.mem_cons_self)
   have ew:IntKind.i64.wrap ((P.length:Int)+1)=(((P++[x]).length:Nat):Int):=by rw [wib (by omega) (by omega)];simp only [List.length_append,List.length_cons,List.length_nil];omega
   have:=sr0 Z (Y:=Y) b a l0 l2 l3 n4 n5 n6 l9 i10 l11 l12 i14 i15 i16 i17 i18 l19 l20 i21 i22 i23 i24 i25 i26 n29 X2 (P++[x]) n (by rw [hA];simp) (fun hm=>hw (List.mem_cons_of_mem _ hm)) h6 (by omega) (by
     have e:((P++[x])++X2).length=(P++x::X2).length:=by simp
     rw [e];exact h)
   unfold ydq
   simp only [lt]
   rw [cbT (by omega),asT (by omega),asT (by omega),ycJ,asT (by omega),asT (by omega),Nat.zero_add,Int.toNat_natCast,yeL (by omega),hg,yot,iov,ceF hx,ew]
   try simp only [decide_true,Bool.and_self,yan]
   exact this
theorem rm0 (Z:List PV) {w N:Nat} (a:List PV→List PV→List PV→List PV→Nat→Nat→Nat→List PV→Int→List PV→List PV→Int→Int→Int→Int→Int→Int→List PV→List PV→Int→Int→Int→Int→Int→Int→Nat→Nat→Nat→Int→Int→Bool→Prop) (l0:List PV) (l2:List PV) (l3:List PV) (n4:Nat) (n5:Nat) (n6:Nat) (l9:List PV) (i10:Int) (l11:List PV) (l12:List PV) (i14:Int) (i15:Int) (i16:Int) (i17:Int) (i18:Int) (l19:List PV) (l20:List PV) (i21:Int) (i22:Int) (i23:Int) (i24:Int) (i25:Int) (i26:Int) (n29:Nat):∀ (Y2 P:List Nat) (c n:Nat),w∉Y2→P.length+1+Y2.length=N→N≤1000→Y2.length<n →
   (∀ c',a l0 (nts ((P++Y2)++[c'])++Z) l2 l3 n4 n5 n6 l9 i10 l11 l12 (w:Int) i14 i15 i16 i17 i18 l19 l20 i21 i22 i23 i24 i25 i26 N (N+Z.length) n29 (((P++Y2).length:Nat):Int) ((N:Nat):Int) false)→yds yaM yau yaA a n l0 (nts (P++c::Y2)++Z) l2 l3 n4 n5 n6 l9 i10 l11 l12 (w:Int) i14 i15 i16 i17 i18 l19 l20 i21 i22 i23 i24 i25 i26 N (N+Z.length) n29 ((P.length:Nat):Int) ((P.length+1:Nat):Int)
 | [],P,c,n,hw,hN,h6,hn,h=>by
   obtain ⟨n,rfl⟩:∃ k,n=k+1:=⟨n-1,by omega⟩
   simp only [List.length_nil] at hN
   have h:=h c
   rw [List.append_nil] at h
   have e:N=P.length+1:=by omega
   subst e
   unfold yds
   rw [cbF (by omega)]
   exact h
 | y::Y3,P,c,n,hw,hN,h6,hn,h=>by
   obtain ⟨n,rfl⟩:∃ k,n=k+1:=⟨n-1,by omega⟩
   simp only [List.length_cons] at hn hN
   have hy:(y:Int)≠(w:Int):=fun e=>hw (by rw [Int.ofNat_inj.1 e];exact List.mem_cons_self)
   have hlen:(P++c::y::Y3).length=N:=by simp only [List.length_append,List.length_cons];omega
   have e1:IntKind.i64.wrap ((P.length:Int)+1)=(((P++[y]).length:Nat):Int):=by rw [wib (by omega) (by omega)];simp only [List.length_append,List.length_cons,List.length_nil];omega
   have e2:IntKind.i64.wrap (((P.length+1:Nat):Int)+1)=(((P++[y]).length+1:Nat):Int):=by rw [wib (by omega) (by omega)];simp only [List.length_append,List.length_cons,List.length_nil];omega
   have:=rm0 Z a l0 l2 l3 n4 n5 n6 l9 i10 l11 l12 i14 i15 i16 i17 i18 l19 l20 i21 i22 i23 i24 i25 i26 n29 Y3 (P++[y]) y n (fun hm=>hw (List.mem_cons_of_mem _ hm)) (by rw [List.length_append];simp only [List.length_cons,List.length_nil];omega) h6 (by omega) (by
     intro c'
     have:=h c'
     rw [show P++y::Y3=P++[y]++Y3 by simp] at this
     exact this)
   unfold yds
   simp only [lt,Go.Pf.jn]
   rw [cbT (by omega),asT (by omega),asT (by omega),ycJ,hlen,asT (by omega),asT (by omega),Nat.zero_add,Int.toNat_natCast,yeL (by omega),ywM,yot,iov,yuK hy,Bool.not_false,yac]
   rw [asT (by omega),asT (by omega),asT (by omega),Nat.zero_add,Int.toNat_natCast,asT (by omega),yeL (by omega),yjC,yot,yD1,e1,e2]
   try simp only [decide_true,Bool.and_self,yan]
   exact this
theorem sr1 (Z:List PV) {A Y:List Nat} {w:Nat} (b:List PV→List PV→List PV→List PV→Nat→Nat→Nat→List PV→Int→List PV→List PV→Int→Int→Int→Int→Int→Int→List PV→List PV→Int→Int→Int→Int→Int→Int→Nat→Nat→Nat→Int→Int→Bool→Prop) (a:List PV→List PV→List PV→List PV→Nat→Nat→Nat→List PV→Int→List PV→List PV→Int→Int→Int→Int→Int→Int→List PV→List PV→Int→Int→Int→Int→Int→Int→Int→Prop) (l0:List PV) (l2:List PV) (l3:List PV) (n4:Nat) (n5:Nat) (n6:Nat) (l9:List PV) (i10:Int) (l11:List PV) (l12:List PV) (i14:Int) (i15:Int) (i16:Int) (i17:Int) (i18:Int) (l19:List PV) (l20:List PV) (i21:Int) (i22:Int) (i23:Int) (i24:Int) (i25:Int) (i26:Int) (n29:Nat):∀ (X2 P:List Nat) (n:Nat),A=P++X2++w::Y→w∉X2→A.length≤1000→X2.length<n →
   a l0 (nts A++Z) l2 l3 n4 n5 n6 l9 i10 l11 l12 (w:Int) i14 i15 i16 i17 i18 l19 l20 i21 i22 i23 i24 i25 i26 (((P++X2).length:Nat):Int)→ydr yaM yau yaA b a n l0 (nts A++Z) l2 l3 n4 n5 n6 l9 i10 l11 l12 (w:Int) i14 i15 i16 i17 i18 l19 l20 i21 i22 i23 i24 i25 i26 A.length (A.length+Z.length) n29 ((A.length:Nat):Int) ((P.length:Nat):Int)
 | [],P,n,hA,hw,h6,hn,h=>by
   obtain ⟨n,rfl⟩:∃ k,n=k+1:=⟨n-1,by omega⟩
   rw [List.append_nil] at hA h
   have hl:=congrArg List.length hA
   simp only [List.length_append,List.length_cons] at hl
   have hg:A.getD P.length 0=w:=by rw [hA];exact yjC P Y w
   unfold ydr
   simp only [lt]
   rw [cbT (by omega),asT (by omega),asT (by omega),ycJ,asT (by omega),asT (by omega),Nat.zero_add,Int.toNat_natCast,yeL (by omega),hg,yot,iov,ceT rfl]
   exact h
 | x::X2,P,n,hA,hw,h6,hn,h=>by
   obtain ⟨n,rfl⟩:∃ k,n=k+1:=⟨n-1,by omega⟩
   have hl:=congrArg List.length hA
   simp only [List.length_append,List.length_cons] at hl
   simp only [List.length_cons] at hn
   have hg:A.getD P.length 0=x:=by rw [hA,List.append_assoc];exact yjC P _ x
   have hx:(x:Int)≠(w:Int):=fun e=>hw (by rw [Int.ofNat_inj.1 e];exact List.mem_cons_self)
   have ew:IntKind.i64.wrap ((P.length:Int)+1)=(((P++[x]).length:Nat):Int):=by rw [wib (by omega) (by omega)];simp only [List.length_append,List.length_cons,List.length_nil];omega
   have:=sr1 Z (Y:=Y) b a l0 l2 l3 n4 n5 n6 l9 i10 l11 l12 i14 i15 i16 i17 i18 l19 l20 i21 i22 i23 i24 i25 i26 n29 X2 (P++[x]) n (by rw [hA];simp) (fun hm=>hw (List.mem_cons_of_mem _ hm)) h6 (by omega) (by
     have e:((P++[x])++X2).length=(P++x::X2).length:=by simp
     rw [e];exact h)
   unfold ydr
   simp only [lt]
   rw [cbT (by omega),asT (by omega),asT (by omega),ycJ,asT (by omega),asT (by omega),Nat.zero_add,Int.toNat_natCast,yeL (by omega),hg,yot,iov,ceF hx,ew]
   try simp only [decide_true,Bool.and_self,yan]
   exact this
theorem rm1 (Z:List PV) {w N:Nat} (a:List PV→List PV→List PV→List PV→Nat→Nat→Nat→List PV→Int→List PV→List PV→Int→Int→Int→Int→Int→Int→List PV→List PV→Int→Int→Int→Int→Int→Int→Nat→Nat→Nat→Int→Int→Bool→Prop) (l0:List PV) (l2:List PV) (l3:List PV) (n4:Nat) (n5:Nat) (n6:Nat) (l9:List PV) (i10:Int) (l11:List PV) (l12:List PV) (i14:Int) (i15:Int) (i16:Int) (i17:Int) (i18:Int) (l19:List PV) (l20:List PV) (i21:Int) (i22:Int) (i23:Int) (i24:Int) (i25:Int) (i26:Int) (n29:Nat):∀ (Y2 P:List Nat) (c n:Nat),w∉Y2→P.length+1+Y2.length=N→N≤1000→Y2.length<n →
   (∀ c',a l0 (nts ((P++Y2)++[c'])++Z) l2 l3 n4 n5 n6 l9 i10 l11 l12 (w:Int) i14 i15 i16 i17 i18 l19 l20 i21 i22 i23 i24 i25 i26 N (N+Z.length) n29 (((P++Y2).length:Nat):Int) ((N:Nat):Int) false)→ydt yaM yau yaA a n l0 (nts (P++c::Y2)++Z) l2 l3 n4 n5 n6 l9 i10 l11 l12 (w:Int) i14 i15 i16 i17 i18 l19 l20 i21 i22 i23 i24 i25 i26 N (N+Z.length) n29 ((P.length:Nat):Int) ((P.length+1:Nat):Int)
 | [],P,c,n,hw,hN,h6,hn,h=>by
   obtain ⟨n,rfl⟩:∃ k,n=k+1:=⟨n-1,by omega⟩
   simp only [List.length_nil] at hN
   have h:=h c
   rw [List.append_nil] at h
   have e:N=P.length+1:=by omega
   subst e
   unfold ydt
   rw [cbF (by omega)]
   exact h
 | y::Y3,P,c,n,hw,hN,h6,hn,h=>by
   obtain ⟨n,rfl⟩:∃ k,n=k+1:=⟨n-1,by omega⟩
   simp only [List.length_cons] at hn hN
   have hy:(y:Int)≠(w:Int):=fun e=>hw (by rw [Int.ofNat_inj.1 e];exact List.mem_cons_self)
   have hlen:(P++c::y::Y3).length=N:=by simp only [List.length_append,List.length_cons];omega
   have e1:IntKind.i64.wrap ((P.length:Int)+1)=(((P++[y]).length:Nat):Int):=by rw [wib (by omega) (by omega)];simp only [List.length_append,List.length_cons,List.length_nil];omega
   have e2:IntKind.i64.wrap (((P.length+1:Nat):Int)+1)=(((P++[y]).length+1:Nat):Int):=by rw [wib (by omega) (by omega)];simp only [List.length_append,List.length_cons,List.length_nil];omega
   have:=rm1 Z a l0 l2 l3 n4 n5 n6 l9 i10 l11 l12 i14 i15 i16 i17 i18 l19 l20 i21 i22 i23 i24 i25 i26 n29 Y3 (P++[y]) y n (fun hm=>hw (List.mem_cons_of_mem _ hm)) (by rw [List.length_append];simp only [List.length_cons,List.length_nil];omega) h6 (by omega) (by
     intro c'
     have:=h c'
     rw [show P++y::Y3=P++[y]++Y3 by simp] at this
     exact this)
   unfold ydt
   simp only [lt,Go.Pf.jn]
   rw [cbT (by omega),asT (by omega),asT (by omega),ycJ,hlen,asT (by omega),asT (by omega),Nat.zero_add,Int.toNat_natCast,yeL (by omega),ywM,yot,iov,yuK hy,Bool.not_false,yac]
   rw [asT (by omega),asT (by omega),asT (by omega),Nat.zero_add,Int.toNat_natCast,asT (by omega),yeL (by omega),yjC,yot,yD1,e1,e2]
   try simp only [decide_true,Bool.and_self,yan]
   exact this
end Go.Pf.Vc
namespace Go.Pf.Vc
open Go Go.Pf
structure Tn where
 a:Nat
 f:Rat
 t:Rat
 k:Nat
def tnE (x:Tn):PV:=.agg [.int .i64 x.a,.int .i64 x.f.num,.int .i64 x.f.den,.int .i64 x.t.num,.int .i64 x.t.den,.int .i64 x.k]
def tns (l:List Tn):List PV:=l.map tnE
def spE (x:Tn):PV:=.data [.agg [.int .i64 x.f.num,.int .i64 x.f.den,.int .i64 x.t.num,.int .i64 x.t.den]]
def pcs (n:Nat) (ts:List Tn):List PV:=ts.foldl (fun P t=>P.set t.a (spE t)) (List.replicate n (.data []))
theorem yD2 (a:List Tn) (x:Tn):tns (a++[x])=tns a++[tnE x]:=by unfold tns;rw [List.map_append];rfl
theorem yhn (a:List Tn):(tns a).length=a.length:=by unfold tns;rw [List.length_map]
theorem ytf (n:Nat) (a:List Tn) (x:Tn):pcs n (a++[x])=(pcs n a).set x.a (spE x):=by unfold pcs;rw [List.foldl_append];rfl
def ysj:List PV→Prop
 | []=>True
 | x::r=>(∃ d,x=.data d)∧ysj r
theorem ywN:∀ (l:List PV) (i:Nat) (d:List PV),ysj l→ysj (l.set i (.data d))
 | [],_,_,_=>trivial
 | _::_,0,d,h=>⟨⟨d,rfl⟩,h.2⟩
 | _::r,i+1,d,h=>⟨h.1,ywN r i d h.2⟩
theorem ynm:∀ n:Nat,ysj (List.replicate n (.data []))
 | 0=>trivial
 | n+1=>⟨⟨[],rfl⟩,ynm n⟩
theorem ywO:∀ (l:List PV) (i:Nat),ysj l→i<l.length→∃ d,List.getD l i .nils=.data d
 | [],i,_,h=>by simp at h
 | x::r,0,h,_=>h.1
 | x::r,i+1,h,hi=>ywO r i h.2 (by simpa using hi)
theorem yqA:∀ (ts:List Tn) (P:List PV) (n:Nat),P.length=n→ysj P→(ts.foldl (fun P t=>P.set t.a (spE t)) P).length=n∧ysj (ts.foldl (fun P t=>P.set t.a (spE t)) P)
 | [],P,n,h1,h2=>⟨h1,h2⟩
 | t::r,P,n,h1,h2=>yqA r (P.set t.a (spE t)) n (by rw [List.length_set];exact h1) (ywN P t.a _ h2)
theorem yeV (n:Nat) (ts:List Tn):(pcs n ts).length=n:=(yqA ts _ n List.length_replicate (ynm n)).1
theorem yC3 (n:Nat) (ts:List Tn) {i:Nat} (h:i<n):∃ d,List.getD (pcs n ts) i .nils=.data d:=ywO _ i (yqA ts _ n List.length_replicate (ynm n)).2 (by rw [yeV];exact h)
def nofn (l:List PV):Prop:=yaN (noY 0) (fun _=>true) l=true
theorem yu1:∀ l:List PV,ysj l→nofn l
 | [],_=>rfl
 | x::r,⟨⟨d,e⟩,h⟩=>by subst e;exact yu1 r h
theorem yu2 (n:Nat) (ts:List Tn):nofn (pcs n ts):=yu1 _ (yqA ts _ n List.length_replicate (ynm n)).2
theorem yu3:∀ ts:List Tn,nofn (tns ts)
 | []=>rfl
 | _::r=>yu3 r
theorem yjD:∀ (a b:List PV),nofn a→nofn b→nofn (a++b)
 | [],b,_,h=>h
 | x::r,b,h,k=>by
   unfold nofn at h ⊢
   simp only [yaN,Bool.and_eq_true] at h
   simp only [List.cons_append,yaN,Bool.and_eq_true]
   exact ⟨h.1,yjD r b h.2 k⟩
theorem yjE:∀ A:List Nat,nofn (nts A)
 | []=>rfl
 | _::r=>yjE r
theorem yD3 (B:List Nat) (c:Nat) (Z:List PV):List.take B.length (nts (B++[c])++Z)++(List.replicate 1 (PV.int .i64 0)++List.drop (B.length+1) (nts (B++[c])++Z))=nts B++(.int .i64 0::Z):=by
 have e:B.length=(nts B).length:=(yim B).symm
 have e1:nts (B++[c])++Z=nts B++(.int .i64 c::Z):=by rw [yqz,List.append_assoc];rfl
 rw [e1,e,List.take_left,List.drop_append,List.drop_of_length_le (by omega)]
 simp
theorem ynn {X Y:List Nat} {w:Nat} (h:w∉X):(X++w::Y).erase w=X++Y:=by
 rw [List.erase_append_right _ h,List.erase_cons_head]
section
variable {l:List Ck}
theorem yGK {an ad:Int}:∀ (r:List Nat) (s s':TSt),tR l an ad r s=.ok s'→small s.p→(s'.w=s.w∨s'.w∈r)∧small s'.p∧s'.lg.length≤s.lg.length+2*r.length∧s'.k≤s.k+r.length
 | [],s,s',h,hs=>by cases h;exact ⟨.inl rfl,hs,by omega,by omega⟩
 | a::r,s,s',h,hs=>by
   unfold tR at h
   cases hv:valE l an ad s.lg.length a s.p with
   | error e=>rw [hv] at h;cases h
   | ok v =>
     rw [hv] at h
     dsimp only at h
     split at h
     · cases hq:yh3 l an ad (s.lg.length+1) a with
       | error e=>rw [hq] at h;cases h
       | ok q =>
         rw [hq] at h
         obtain ⟨h1,h2,h3,h4⟩:=yGK r _ s' h (yio hq)
         refine ⟨.inr ?_,h2,?_,?_⟩
         · rcases h1 with h1 | h1
           · rw [h1];exact List.mem_cons_self
           · exact List.mem_cons_of_mem _ h1
         · simp only [List.length_append,List.length_cons,List.length_nil] at h3 ⊢;omega
         · simp only [List.length_cons];simp only at h4;omega
     · obtain ⟨h1,h2,h3,h4⟩:=yGK r _ s' h hs
       refine ⟨?_,h2,?_,?_⟩
       · rcases h1 with h1 | h1
         · exact .inl h1
         · exact .inr (List.mem_cons_of_mem _ h1)
       · simp only [List.length_append,List.length_cons,List.length_nil] at h3 ⊢;omega
       · simp only [List.length_cons];simp only at h4;omega
theorem yrF (hd:DK l) {an ad:Int} {lg:List Qy} {A:List Nat} {s:TSt} (h:ydu l an ad lg A=.ok s):s.w∈A∧small s.p∧s.lg.length≤lg.length+2*A.length∧s.k≤A.length:=by
 cases A with
 | nil=>cases h
 | cons a r =>
   cases r with
   | nil =>
     simp only [ydu,Except.ok.injEq] at h
     subst h
     have hok:=hd.ok 0 (by have:=hd.n0;omega)
     have:=VC.len0 hok
     exact ⟨List.mem_cons_self,yfq (by omega),by simp only [List.length_cons];omega,by simp only [List.length_cons];omega⟩
   | cons b r =>
     simp only [ydu] at h
     cases hq:yh3 l an ad lg.length a with
     | error e=>rw [hq] at h;cases h
     | ok p =>
       rw [hq] at h
       obtain ⟨h1,h2,h3,h4⟩:=yGK _ _ s h (yio hq)
       refine ⟨?_,h2,?_,?_⟩
       · rcases h1 with h1 | h1
         · rw [h1];exact List.mem_cons_self
         · exact List.mem_cons_of_mem _ h1
       · simp only [List.length_append,List.length_cons,List.length_nil] at h3 ⊢;omega
       · simp only [List.length_cons] at h4 ⊢;omega
def tGo (l:List Ck):Nat→List Nat→List Qy→Rat→List Tn→Except Int (List Tn×List Qy)
 | 0,_,_,_,_=>.error 2
 | m+1,A,lg,q,ts=>match ydu l q.num q.den lg A with
   | .error e=>.error e
   | .ok s=>if A.length=1 then .ok (ts++[⟨s.w,q,s.p,s.k⟩],s.lg) else tGo l m (A.erase s.w) s.lg s.p (ts++[⟨s.w,q,s.p,s.k⟩])
theorem yk3 {an ad:Int} {lg:List Qy} {A:List Nat}:ydu l an ad lg A≠.error 0:=by
 intro h
 cases A with
 | nil=>cases h
 | cons a r =>
   cases r with
   | nil=>cases h
   | cons b r =>
     simp only [ydu] at h
     cases hq:yh3 l an ad lg.length a with
     | error e=>rw [hq] at h;cases h;exact ynl hq
     | ok p=>rw [hq] at h;exact yC2 _ _ h
theorem ygm (hd:DK l) {an ad:Int} (ha:I64 an) (ha':I64 ad) {A:List Nat} (hA:∀ a∈A,a<l.length) (hA6:A.length≤900) (h0:A≠[]) (Z:List PV) (c:Nat) {lg:List Qy} (hl:lg.length+2*A.length≤1900) (K)
   (h1:∀ s,ydu l an ad lg A=.ok s→K (cks l) (logs s.lg) (s.w:Int) an ad s.p.num s.p.den (s.k:Int) 0 (nts A++Z)) (h2:∀ e,ydu l an ad lg A=.error e→K [] [] 0 0 0 0 0 0 e (nts A++Z)) :
   yaA (cks l) (logs lg) (nts A++Z) A.length (A.length+Z.length) c an ad K:=by
 refine yE6 hd ha ha' hA hA6 h0 Z c hl K ?_
 cases h:ydu l an ad lg A with
 | ok s=>exact h1 s h
 | error e=>exact h2 e h
theorem yD4:∀ (m:Nat) (A:List Nat) (lg:List Qy) (q:Rat) (ts:List Tn),tGo l m A lg q ts≠.error 0
 | 0,A,lg,q,ts,h=>by cases h
 | m+1,A,lg,q,ts,h=>by
   unfold tGo at h
   cases hR:ydu l q.num q.den lg A with
   | error e=>rw [hR] at h;cases h;exact yk3 hR
   | ok s =>
     rw [hR] at h
     dsimp only at h
     split at h
     · cases h
     · exact yD4 m _ _ _ _ h
theorem asTw {P:Prop}:asr (decide True) P=P:=by rw [decide_true];rfl
theorem yIt {n:Nat} {P:Prop}:asr (!decide (0+n+1≤n)) P=P:=by rw [decide_eq_false (by omega)];rfl
theorem asOr {a:Int} {b:Bool} {P:Prop}:asr (decide (a≤a)||b) P=P:=by rw [decide_eq_true (by omega)];rfl
theorem yD5 {d:List PV} {P:Prop}:asr (conf (.one .d) (.data d)) P=P:=rfl
theorem go1 (hd:DK l) (f:List PV→List PV→List PV→List PV→Nat→Nat→Nat→List PV→Int→List PV→List PV→Nat→Nat→Nat→Int→Int→Bool→Prop) (b:List PV→List PV→List PV→List PV→Nat→Nat→Nat→List PV→Int→List PV→List PV→Int→Int→Int→Int→Int→Int→Prop) (d:List PV→List PV→List PV→List PV→Nat→Nat→Nat→List PV→Int→List PV→List PV→Int→Int→Int→Int→Int→Int→List PV→List PV→Int→Int→Int→Int→Int→Int→Nat→Nat→Nat→Int→Int→List PV→List PV→Int→Bool→List PV→List PV→Int→Int→Int→Int→Int→Int→Bool→Bool→Prop):∀ (m:Nat) (A:List Nat) (Z:List PV) (c:Nat) (q:Rat) (lg:List Qy) (ts:List Tn) (lgd:List PV),A.length=m+1→A.Nodup→(∀ a∈A,a<l.length)→ts.length+A.length=l.length→small q→lg.length≤20*ts.length→nofn Z →
   (match tGo l (m+1) A lg q ts with
     | .ok (ts',lg')=>∀ (r1:List PV) (j9:List PV) (j10:List PV) (j11:Int) (j12:Int) (j13:Int) (j14:Int) (j15:Int) (j16:Int) (j17:List PV) (j18:List PV) (j19:Int) (j20:Int) (j21:Int) (j22:Int) (j23:Int) (j24:Int) (j25:Nat) (j26:Nat) (j27:Nat) (j28:Int) (j29:Int) (j30:List PV) (j31:List PV) (j32:Int) (j33:Bool) (j34:List PV) (j35:List PV) (j36:Int) (j37:Int) (j38:Int) (j39:Int) (j40:Int) (j41:Int) (j42:Bool) (j43:Bool),nofn r1→d (pcs l.length ts') r1 (tns ts') (cks l) l.length l.length l.length (logs lg') 0 j9 j10 j11 j12 j13 j14 j15 j16 j17 j18 j19 j20 j21 j22 j23 j24 j25 j26 j27 j28 j29 j30 j31 j32 j33 j34 j35 j36 j37 j38 j39 j40 j41 j42 j43
     | .error e=>∀ (r1:List PV) (ts':List Tn) (lgx:List PV) (j9:List PV) (j10:List PV) (j11:Int) (j12:Int) (j13:Int) (j14:Int) (j15:Int) (j16:Int),nofn r1→b (pcs l.length ts') r1 (tns ts') (cks l) l.length l.length l.length lgx e j9 j10 j11 j12 j13 j14 j15 j16)→∃ n,ycH yaM yau yaA f b d n (pcs l.length ts) (nts A++Z) (tns ts) (cks l) l.length l.length l.length lgd 0 (cks l) (logs lg) A.length (A.length+Z.length) c q.num q.den:=by
 intro m
 induction m with
 | zero =>
   intro A Z c q lg ts lgd hm hnd hA hts hq hlg hZ h
   have n6:=hd.n6
   unfold tGo at h
   refine ⟨1,?_⟩
   unfold ycH
   simp only [Go.Pf.jn,lt]
   rw [cbT (by omega)]
   refine ygm hd hq.i1 hq.i2 hA (by omega) (fun e=>by rw [e] at hm;cases hm) Z c (by omega) _ (fun s hR=>?_) (fun e hR=>?_)
   case refine_2 =>
     rw [hR] at h
     show cbr _ _ _
     rw [cnT (fun e0=>yk3 (e0 ▸ hR))]
     exact h _ _ _ _ _ _ _ _ _ _ _ (yjD _ _ (yjE A) hZ)
   case refine_1 =>
     rw [hR] at h
     obtain ⟨hw,hsp,hsl,hsk⟩:=yrF hd hR
     have hwl:s.w<l.length:=hA _ hw
     obtain ⟨d0,hd0⟩:=yC3 l.length ts hwl
     have n6:=hd.n6
     dsimp only at h
     rw [if_pos hm] at h
     show cbr _ _ _
     rw [cnF rfl,asTw,asT (by omega),yIt,asTw,asT (by rw [yhn];unfold room;omega),asT (by omega),asT (by omega),yeV,asT (by omega),Int.toNat_natCast,Nat.zero_add,asT (by omega),hd0,yD5,ceT (by rw [List.length_append,yhn,yaX];simp only [List.length_cons,List.length_nil];omega)]
     have:=h (nts A++Z)
     rw [ytf,yD2] at this
     exact this _ _ _ _ _ _ _ _ _ _ _ _ _ _ _ _ _ _ _ _ _ _ _ _ _ _ _ _ _ _ _ _ _ _ _ (yjD _ _ (yjE A) hZ)
 | succ m ih =>
   intro A Z c q lg ts lgd hm hnd hA hts hq hlg hZ h
   have n6:=hd.n6
   unfold tGo at h
   cases hR:ydu l q.num q.den lg A with
   | error e =>
     rw [hR] at h
     refine ⟨1,?_⟩
     unfold ycH
     simp only [Go.Pf.jn,lt]
     rw [cbT (by omega)]
     refine ygm hd hq.i1 hq.i2 hA (by omega) (fun e=>by rw [e] at hm;cases hm) Z c (by omega) _ (fun s' hR'=>by rw [hR] at hR';cases hR') (fun e' hR'=>?_)
     rw [hR] at hR'
     cases hR'
     show cbr _ _ _
     rw [cnT (fun e0=>yk3 (e0 ▸ hR))]
     exact h _ _ _ _ _ _ _ _ _ _ _ (yjD _ _ (yjE A) hZ)
   | ok s =>
     rw [hR] at h
     obtain ⟨hw,hsp,hsl,hsk⟩:=yrF hd hR
     have hwl:s.w<l.length:=hA _ hw
     obtain ⟨d0,hd0⟩:=yC3 l.length ts hwl
     have n6:=hd.n6
     dsimp only at h
     rw [if_neg (by omega)] at h
     obtain ⟨X,Y,rfl,hX⟩:=List.eq_append_cons_of_mem hw
     have hY:s.w∉Y:=fun hm=>by
       have:=hnd
       rw [List.nodup_append] at this
       exact (List.nodup_cons.1 this.2.1).1 hm
     have hXY:(X++Y).length=m+1:=by
       simp only [List.length_append,List.length_cons] at hm ⊢;omega
     have hnd2:(X++Y).Nodup:=by
       have:=hnd.erase s.w
       rwa [ynn hX] at this
     rw [ynn hX] at h
     have eXY:(X++Y).length=X.length+Y.length:=List.length_append
     have eN:(X++s.w::Y).length=(X++Y).length+1:=by simp only [List.length_append,List.length_cons];omega
     obtain ⟨n,hn⟩:=ih (X++Y) (.int .i64 0::Z) (c-0) s.p s.lg (ts++[⟨s.w,q,s.p,s.k⟩]) (logs s.lg) hXY hnd2 (fun a ha=>hA a (by
         rcases List.mem_append.1 ha with h1 | h1
         · exact List.mem_append_left _ h1
         · exact List.mem_append_right _ (List.mem_cons_of_mem _ h1))) (by simp only [List.length_append,List.length_cons,List.length_nil] at hts hXY ⊢;omega) hsp (by simp only [List.length_append,List.length_cons,List.length_nil] at hsl ⊢;omega) hZ h
     rw [ytf,yD2] at hn
     refine ⟨n+1,?_⟩
     unfold ycH
     simp only [Go.Pf.jn,lt]
     rw [cbT (by omega)]
     refine ygm hd hq.i1 hq.i2 hA (by omega) (fun e=>by rw [e] at hm;cases hm) Z c (by omega) _ (fun s' hR'=>?_) (fun e' hR'=>by rw [hR] at hR';cases hR')
     rw [hR] at hR'
     cases hR'
     show cbr _ _ _
     rw [cnF rfl,asTw,asT (by omega),yIt,asTw,asT (by rw [yhn];unfold room;omega),asT (by omega),asT (by omega),yeV,asT (by omega),Int.toNat_natCast,Nat.zero_add,asT (by omega),hd0,yD5,ceF (by rw [List.length_append,yhn,yaX];simp only [List.length_cons,List.length_nil];omega)]
     try simp only [decide_true,Bool.and_self,yan]
     refine ⟨X.length+1,sr1 Z (A:=X++s.w::Y) (Y:=Y) (w:=s.w) _ _ _ _ _ _ _ _ _ _ _ _ _ _ _ _ _ _ _ _ _ _ _ _ _ _ X [] _ (by simp) hX (by omega) (by omega) ?_⟩
     show cbr _ _ _
     simp only [List.nil_append]
     rw [ceF (by omega),show IntKind.i64.wrap ((X.length:Int)+1)=((X.length+1:Nat):Int) by rw [wib (by omega) (by omega)];omega]
     try simp only [decide_true,Nat.beq_refl,Bool.and_self,yan]
     refine ⟨Y.length+1,rm1 Z (w:=s.w) (N:=(X++s.w::Y).length) _ _ _ _ _ _ _ _ _ _ _ _ _ _ _ _ _ _ _ _ _ _ _ _ _ Y X s.w _ hY (by simp only [List.length_append,List.length_cons];omega) (by omega) (by omega) fun c'=>?_⟩
     show asr _ _
     have e9:((((X++s.w::Y).length:Nat):Int)-(((X++Y).length:Nat):Int)).toNat=1:=by omega
     rw [e9,asT (by omega),asT (by omega),asOr,cbF (by omega),ycJ,asT (by simp only [List.length_append,List.length_cons,List.length_nil];omega),Int.toNat_natCast,Nat.zero_add,asT (by omega),yD3,asT (by omega),asTT (by simp;omega)]
     try simp only [decide_true,Nat.beq_refl,Bool.and_self,yan]
     have e10:((((X++Y).length:Nat):Int)-0).toNat=(X++Y).length:=by omega
     have e11:(X++s.w::Y).length+Z.length=(X++Y).length+(PV.int IntKind.i64 0::Z).length:=by rw [eN];simp only [List.length_cons];omega
     rw [e10,e11]
     exact hn
theorem go0 (hd:DK l) (o:List PV→List PV→List PV→Nat→Nat→Nat→List PV→Int→List PV→List PV→Nat→Nat→Nat→Int→Int→Bool→Prop) (g:List PV→List PV→List PV→Nat→Nat→Nat→List PV→Int→List PV→List PV→Int→Int→Int→Int→Int→Int→Prop) (i:List PV→List PV→List PV→List PV→Nat→Nat→Nat→List PV→Int→List PV→List PV→Int→Int→Int→Int→Int→Int→List PV→List PV→Int→Int→Int→Int→Int→Int→Nat→Nat→Nat→Int→Int→List PV→List PV→Int→Bool→List PV→List PV→Int→Int→Int→Int→Int→Int→Bool→Bool→Prop) (j:List PV→List PV→List PV→List PV→Nat→Nat→Nat→List PV→Int→List PV→List PV→Nat→Nat→Nat→Int→Int→Bool→Prop) (d:List PV→List PV→List PV→List PV→Nat→Nat→Nat→List PV→Int→List PV→List PV→Int→Int→Int→Int→Int→Int→Prop) (f:List PV→List PV→List PV→List PV→Nat→Nat→Nat→List PV→Int→List PV→List PV→Int→Int→Int→Int→Int→Int→List PV→List PV→Int→Int→Int→Int→Int→Int→Nat→Nat→Nat→Int→Int→List PV→List PV→Int→Bool→List PV→List PV→Int→Int→Int→Int→Int→Int→Bool→Bool→Prop):∀ (m:Nat) (A:List Nat) (Z:List PV) (c:Nat) (q:Rat) (lg:List Qy) (lgd:List PV),A.length=m+1→A.Nodup→(∀ a∈A,a<l.length)→A.length=l.length→small q→lg.length=0→nofn Z →
   (match tGo l (m+1) A lg q [] with
     | .ok (ts',lg')=>(∀ (r1:List PV) (j9:List PV) (j10:List PV) (j11:Int) (j12:Int) (j13:Int) (j14:Int) (j15:Int) (j16:Int) (j17:List PV) (j18:List PV) (j19:Int) (j20:Int) (j21:Int) (j22:Int) (j23:Int) (j24:Int) (j25:Nat) (j26:Nat) (j27:Nat) (j28:Int) (j29:Int) (j30:List PV) (j31:List PV) (j32:Int) (j33:Bool) (j34:List PV) (j35:List PV) (j36:Int) (j37:Int) (j38:Int) (j39:Int) (j40:Int) (j41:Int) (j42:Bool) (j43:Bool),nofn r1→i (pcs l.length ts') r1 (tns ts') (cks l) l.length l.length l.length (logs lg') 0 j9 j10 j11 j12 j13 j14 j15 j16 j17 j18 j19 j20 j21 j22 j23 j24 j25 j26 j27 j28 j29 j30 j31 j32 j33 j34 j35 j36 j37 j38 j39 j40 j41 j42 j43)∧(∀ (r1:List PV) (j9:List PV) (j10:List PV) (j11:Int) (j12:Int) (j13:Int) (j14:Int) (j15:Int) (j16:Int) (j17:List PV) (j18:List PV) (j19:Int) (j20:Int) (j21:Int) (j22:Int) (j23:Int) (j24:Int) (j25:Nat) (j26:Nat) (j27:Nat) (j28:Int) (j29:Int) (j30:List PV) (j31:List PV) (j32:Int) (j33:Bool) (j34:List PV) (j35:List PV) (j36:Int) (j37:Int) (j38:Int) (j39:Int) (j40:Int) (j41:Int) (j42:Bool) (j43:Bool),nofn r1→f (pcs l.length ts') r1 (tns ts') (cks l) l.length l.length l.length (logs lg') 0 j9 j10 j11 j12 j13 j14 j15 j16 j17 j18 j19 j20 j21 j22 j23 j24 j25 j26 j27 j28 j29 j30 j31 j32 j33 j34 j35 j36 j37 j38 j39 j40 j41 j42 j43)
     | .error e=>(∀ (r1 lgx:List PV) (j8:List PV) (j9:List PV) (j10:Int) (j11:Int) (j12:Int) (j13:Int) (j14:Int) (j15:Int),nofn r1→g (pcs l.length []) r1 (cks l) l.length l.length l.length lgx e j8 j9 j10 j11 j12 j13 j14 j15)∧(∀ (r1:List PV) (ts':List Tn) (lgx:List PV) (j9:List PV) (j10:List PV) (j11:Int) (j12:Int) (j13:Int) (j14:Int) (j15:Int) (j16:Int),nofn r1→d (pcs l.length ts') r1 (tns ts') (cks l) l.length l.length l.length lgx e j9 j10 j11 j12 j13 j14 j15 j16))→∃ n,ycI yaM yau yaA o g i j d f n (pcs l.length []) (nts A++Z) (cks l) l.length l.length l.length lgd 0 (cks l) (logs lg) A.length (A.length+Z.length) c q.num q.den:=by
 intro m A Z c q lg lgd hm hnd hA hts hq hlg hZ h
 have n6:=hd.n6
 unfold tGo at h
 cases hR:ydu l q.num q.den lg A with
 | error e =>
   rw [hR] at h
   refine ⟨1,?_⟩
   unfold ycI
   simp only [Go.Pf.jn,lt]
   rw [cbT (by omega)]
   refine ygm hd hq.i1 hq.i2 hA (by omega) (fun e=>by rw [e] at hm;cases hm) Z c (by omega) _ (fun s' hR'=>by rw [hR] at hR';cases hR') (fun e' hR'=>?_)
   rw [hR] at hR'
   cases hR'
   show cbr _ _ _
   rw [cnT (fun e0=>yk3 (e0 ▸ hR))]
   exact h.1 _ _ _ _ _ _ _ _ _ _ (yjD _ _ (yjE A) hZ)
 | ok s =>
   rw [hR] at h
   obtain ⟨hw,hsp,hsl,hsk⟩:=yrF hd hR
   have hwl:s.w<l.length:=hA _ hw
   obtain ⟨d0,hd0⟩:=yC3 l.length [] hwl
   have n6:=hd.n6
   dsimp only at h
   cases m with
   | zero =>
     rw [if_pos hm] at h
     refine ⟨1,?_⟩
     unfold ycI
     simp only [Go.Pf.jn,lt]
     rw [cbT (by omega)]
     refine ygm hd hq.i1 hq.i2 hA (by omega) (fun e=>by rw [e] at hm;cases hm) Z c (by omega) _ (fun s' hR'=>?_) (fun e' hR'=>by rw [hR] at hR';cases hR')
     rw [hR] at hR'
     cases hR'
     show cbr _ _ _
     rw [cnF rfl,asT (by omega),asT (by omega),yeV,asT (by omega),Int.toNat_natCast,Nat.zero_add,asT (by omega),hd0,yD5,ceT (by rw [yaX];omega)]
     have:=h.1 (nts A++Z)
     rw [ytf] at this
     exact this _ _ _ _ _ _ _ _ _ _ _ _ _ _ _ _ _ _ _ _ _ _ _ _ _ _ _ _ _ _ _ _ _ _ _ (yjD _ _ (yjE A) hZ)
   | succ m =>
     rw [if_neg (by omega)] at h
     obtain ⟨X,Y,rfl,hX⟩:=List.eq_append_cons_of_mem hw
     have hY:s.w∉Y:=fun hm=>by
       have:=hnd
       rw [List.nodup_append] at this
       exact (List.nodup_cons.1 this.2.1).1 hm
     have hXY:(X++Y).length=m+1:=by
       simp only [List.length_append,List.length_cons] at hm ⊢;omega
     have hnd2:(X++Y).Nodup:=by
       have:=hnd.erase s.w
       rwa [ynn hX] at this
     rw [ynn hX] at h
     have eXY:(X++Y).length=X.length+Y.length:=List.length_append
     have eN:(X++s.w::Y).length=(X++Y).length+1:=by simp only [List.length_append,List.length_cons];omega
     obtain ⟨n,hn⟩:=go1 hd j d f m (X++Y) (.int .i64 0::Z) (c-0) s.p s.lg ([]++[⟨s.w,q,s.p,s.k⟩]) (logs s.lg) hXY hnd2 (fun a ha=>hA a (by
         rcases List.mem_append.1 ha with h1 | h1
         · exact List.mem_append_left _ h1
         · exact List.mem_append_right _ (List.mem_cons_of_mem _ h1))) (by simp only [List.length_append,List.length_cons,List.length_nil] at hts hXY ⊢;omega) hsp (by simp only [List.length_append,List.length_cons,List.length_nil] at hsl hts ⊢;omega) hZ (by
           revert h
           cases tGo l (m+1) (X++Y) s.lg s.p ([]++[⟨s.w,q,s.p,s.k⟩]) with
           | ok x=>obtain ⟨a,b⟩:=x;intro h;exact h.2
           | error e=>intro h;exact h.2)
     rw [ytf] at hn
     refine ⟨n+1,?_⟩
     unfold ycI
     simp only [Go.Pf.jn,lt]
     rw [cbT (by omega)]
     refine ygm hd hq.i1 hq.i2 hA (by omega) (fun e=>by rw [e] at hm;cases hm) Z c (by omega) _ (fun s' hR'=>?_) (fun e' hR'=>by rw [hR] at hR';cases hR')
     rw [hR] at hR'
     cases hR'
     show cbr _ _ _
     rw [cnF rfl,asT (by omega),asT (by omega),yeV,asT (by omega),Int.toNat_natCast,Nat.zero_add,asT (by omega),hd0,yD5,ceF (by rw [yaX];omega)]
     try simp only [List.length_cons,List.length_nil,decide_true,Bool.and_self,yan]
     refine ⟨X.length+1,sr0 Z (A:=X++s.w::Y) (Y:=Y) (w:=s.w) _ _ _ _ _ _ _ _ _ _ _ _ _ _ _ _ _ _ _ _ _ _ _ _ _ _ X [] _ (by simp) hX (by omega) (by omega) ?_⟩
     show cbr _ _ _
     simp only [List.nil_append]
     rw [ceF (by omega),show IntKind.i64.wrap ((X.length:Int)+1)=((X.length+1:Nat):Int) by rw [wib (by omega) (by omega)];omega]
     try simp only [decide_true,Nat.beq_refl,Bool.and_self,yan]
     refine ⟨Y.length+1,rm0 Z (w:=s.w) (N:=(X++s.w::Y).length) _ _ _ _ _ _ _ _ _ _ _ _ _ _ _ _ _ _ _ _ _ _ _ _ _ Y X s.w _ hY (by simp only [List.length_append,List.length_cons];omega) (by omega) (by omega) fun c'=>?_⟩
     show asr _ _
     have e9:((((X++s.w::Y).length:Nat):Int)-(((X++Y).length:Nat):Int)).toNat=1:=by omega
     rw [e9,asT (by omega),asT (by omega),asOr,cbF (by omega),ycJ,asT (by simp only [List.length_append,List.length_cons,List.length_nil];omega),Int.toNat_natCast,Nat.zero_add,asT (by omega),yD3,asT (by omega),asTT (by simp;omega)]
     try simp only [decide_true,Nat.beq_refl,Bool.and_self,yan]
     have e10:((((X++Y).length:Nat):Int)-0).toNat=(X++Y).length:=by omega
     have e11:(X++s.w::Y).length+Z.length=(X++Y).length+(PV.int IntKind.i64 0::Z).length:=by rw [eN];simp only [List.length_cons];omega
     rw [e10,e11]
     exact hn
theorem go0e (hd:DK l) (i:List PV→List PV→List PV→Nat→Nat→Nat→List PV→Int→List PV→List PV→Nat→Nat→Nat→Int→Int→Bool→Prop) (b:List PV→List PV→List PV→Nat→Nat→Nat→List PV→Int→List PV→List PV→Int→Int→Int→Int→Int→Int→Prop) (d:List PV→List PV→List PV→List PV→Nat→Nat→Nat→List PV→Int→List PV→List PV→Int→Int→Int→Int→Int→Int→List PV→List PV→Int→Int→Int→Int→Int→Int→Nat→Nat→Nat→Int→Int→List PV→List PV→Int→Bool→List PV→List PV→Int→Int→Int→Int→Int→Int→Bool→Bool→Prop) (j:List PV→List PV→List PV→List PV→Nat→Nat→Nat→List PV→Int→List PV→List PV→Nat→Nat→Nat→Int→Int→Bool→Prop) (f:List PV→List PV→List PV→List PV→Nat→Nat→Nat→List PV→Int→List PV→List PV→Int→Int→Int→Int→Int→Int→Prop) (g:List PV→List PV→List PV→List PV→Nat→Nat→Nat→List PV→Int→List PV→List PV→Int→Int→Int→Int→Int→Int→List PV→List PV→Int→Int→Int→Int→Int→Int→Nat→Nat→Nat→Int→Int→List PV→List PV→Int→Bool→List PV→List PV→Int→Int→Int→Int→Int→Int→Bool→Bool→Prop) (m:Nat) (A:List Nat) (Z:List PV) (c:Nat) (q:Rat) (lg:List Qy) (lgd:List PV) (hm:A.length=m+1) (hnd:A.Nodup) (hA:∀ a∈A,a<l.length) (hts:A.length=l.length) (hq:small q) (hlg:lg.length=0) (hZ:nofn Z) {pc rows dl:List PV} {n10 n11:Nat} {i13 i14:Int} (e0:pc=pcs l.length []) (e1:rows=nts A++Z) (e2:n10=A.length) (e3:n11=A.length+Z.length) (e4:i13=q.num) (e5:i14=q.den) (e6:dl=logs lg)
   (h:match tGo l (m+1) A lg q [] with
     | .ok (ts',lg')=>(∀ (r1:List PV) (j9:List PV) (j10:List PV) (j11:Int) (j12:Int) (j13:Int) (j14:Int) (j15:Int) (j16:Int) (j17:List PV) (j18:List PV) (j19:Int) (j20:Int) (j21:Int) (j22:Int) (j23:Int) (j24:Int) (j25:Nat) (j26:Nat) (j27:Nat) (j28:Int) (j29:Int) (j30:List PV) (j31:List PV) (j32:Int) (j33:Bool) (j34:List PV) (j35:List PV) (j36:Int) (j37:Int) (j38:Int) (j39:Int) (j40:Int) (j41:Int) (j42:Bool) (j43:Bool),nofn r1→d (pcs l.length ts') r1 (tns ts') (cks l) l.length l.length l.length (logs lg') 0 j9 j10 j11 j12 j13 j14 j15 j16 j17 j18 j19 j20 j21 j22 j23 j24 j25 j26 j27 j28 j29 j30 j31 j32 j33 j34 j35 j36 j37 j38 j39 j40 j41 j42 j43)∧(∀ (r1:List PV) (j9:List PV) (j10:List PV) (j11:Int) (j12:Int) (j13:Int) (j14:Int) (j15:Int) (j16:Int) (j17:List PV) (j18:List PV) (j19:Int) (j20:Int) (j21:Int) (j22:Int) (j23:Int) (j24:Int) (j25:Nat) (j26:Nat) (j27:Nat) (j28:Int) (j29:Int) (j30:List PV) (j31:List PV) (j32:Int) (j33:Bool) (j34:List PV) (j35:List PV) (j36:Int) (j37:Int) (j38:Int) (j39:Int) (j40:Int) (j41:Int) (j42:Bool) (j43:Bool),nofn r1→g (pcs l.length ts') r1 (tns ts') (cks l) l.length l.length l.length (logs lg') 0 j9 j10 j11 j12 j13 j14 j15 j16 j17 j18 j19 j20 j21 j22 j23 j24 j25 j26 j27 j28 j29 j30 j31 j32 j33 j34 j35 j36 j37 j38 j39 j40 j41 j42 j43)
     | .error e=>(∀ (r1 lgx:List PV) (j8:List PV) (j9:List PV) (j10:Int) (j11:Int) (j12:Int) (j13:Int) (j14:Int) (j15:Int),nofn r1→b (pcs l.length []) r1 (cks l) l.length l.length l.length lgx e j8 j9 j10 j11 j12 j13 j14 j15)∧(∀ (r1:List PV) (ts':List Tn) (lgx:List PV) (j9:List PV) (j10:List PV) (j11:Int) (j12:Int) (j13:Int) (j14:Int) (j15:Int) (j16:Int),nofn r1→f (pcs l.length ts') r1 (tns ts') (cks l) l.length l.length l.length lgx e j9 j10 j11 j12 j13 j14 j15 j16)):∃ n,ycI yaM yau yaA i b d j f g n pc rows (cks l) l.length l.length l.length lgd 0 (cks l) dl n10 n11 c i13 i14:=by
 subst e0;subst e1;subst e2;subst e3;subst e4;subst e5;subst e6
 exact go0 hd i b d j f g m A Z c q lg lgd hm hnd hA hts hq hlg hZ h
theorem ini (x:List PV→List PV→List PV→Nat→Nat→Nat→List PV→Int→List PV→List PV→Nat→Nat→Nat→Int→Int→Bool→Prop) (l0 l2:List PV) (n3 n4 n5:Nat) (l6:List PV) (i7:Int) (l8 l9:List PV) {N c:Nat} (hN:N≤1000):∀ (r i n:Nat),i+r=N→r<n →
   x l0 (nts (List.range N)) l2 n3 n4 n5 l6 i7 l8 l9 N N c ((N:Nat):Int) ((N:Nat):Int) false→ydp yaM yau yaA x n l0 (nts (List.range i)++List.replicate r (.int .i64 0)) l2 n3 n4 n5 l6 i7 l8 l9 N N c ((N:Nat):Int) ((i:Nat):Int)
 | 0,i,n,hi,hn,h=>by
   obtain ⟨n,rfl⟩:∃ k,n=k+1:=⟨n-1,by omega⟩
   have e:i=N:=by omega
   subst e
   unfold ydp
   rw [cbF (by omega),List.replicate_zero,List.append_nil]
   exact h
 | r+1,i,n,hi,hn,h=>by
   obtain ⟨n,rfl⟩:∃ k,n=k+1:=⟨n-1,by omega⟩
   have IH:=ini x l0 l2 n3 n4 n5 l6 i7 l8 l9 (c:=c) hN r (i+1) n (by omega) (by omega) h
   have hlen:(nts (List.range i)++List.replicate (r+1) (PV.int IntKind.i64 0)).length=N:=by
     rw [List.length_append,yim,List.length_range,List.length_replicate];omega
   have hrow:List.getD (nts (List.range i)++List.replicate (r+1) (PV.int IntKind.i64 0)) i .nils=.int .i64 0:=by
     rw [List.getD_eq_getElem?_getD,List.getElem?_append_right (by rw [yim,List.length_range];exact Nat.le_refl _),yim,List.length_range,Nat.sub_self]
     rfl
   have hset:List.set (nts (List.range i)++List.replicate (r+1) (PV.int IntKind.i64 0)) i (.int .i64 i)=nts (List.range (i+1))++List.replicate r (PV.int IntKind.i64 0):=by
     have e:i=(nts (List.range i)).length:=by rw [yim,List.length_range]
     rw [List.range_succ,yqz,List.append_assoc]
     conv=>lhs;arg 2;rw [e]
     rw [List.set_append_right _ _ (Nat.le_refl _),Nat.sub_self]
     rfl
   have ew:IntKind.i64.wrap ((i:Int)+1)=((i+1:Nat):Int):=by rw [wib (by omega) (by omega)];omega
   unfold ydp
   simp only [lt]
   rw [cbT (by omega),asT (by omega),asT (by omega),hlen,asT (by omega),Nat.zero_add,Int.toNat_natCast,asT (by omega),hrow,yot,hset,ew]
   exact IH
def tRun (l:List Ck):Except Int (List Tn×List Qy):=if yem l 0=0 then tGo l l.length (List.range l.length) [] 0 [] else .error (yem l 0)
end
end Go.Pf.Vc
namespace Go.Pf.Vc
open Go Go.Pf
section
variable {l:List Ck}
theorem take_all {a:List PV} {n:Nat} (h:a.length=n):List.take n a=a:=List.take_of_length_le (by omega)
theorem yD6 (hf:finC l) (hl:l.length<4611686018427387904) (K:List PV→List PV→List PV→Int→Prop) :
   ybZ (cks l) K=match tRun l with
     | .ok (ts,lg)=>K (pcs l.length ts) (tns ts) (logs lg) 0
     | .error e=>K [] [] [] e:=by
 unfold tRun
 by_cases h0:yem l 0=0
 case neg =>
   rw [if_neg h0]
   refine ykX _ [] [] [] (yem l 0) (fun K k=>?_) K
   unfold ybZ yik
   rw [yAY hf hl,if_neg h0,cnT h0]
   exact k
 rw [if_pos h0]
 obtain ⟨hd,_⟩:=yh2 h0
 have n6:=hd.n6
 have n0:=hd.n0
 obtain ⟨m,hm⟩:∃ m,l.length=m+1:=⟨l.length-1,by omega⟩
 have hnd:(List.range l.length).Nodup:=List.nodup_range
 have hA:∀ a∈List.range l.length,a<l.length:=fun a ha=>List.mem_range.1 ha
 have s0:small (0:Rat):=by have:=yfq (x:=0) (by omega);simpa using this
 have main:∀ K:List PV→List PV→List PV→Int→Prop,(match tGo l l.length (List.range l.length) [] 0 [] with
     | .ok (ts,lg)=>K (pcs l.length ts) (tns ts) (logs lg) 0
     | .error e=>e≠0∧K [] [] [] e)→ybZ (cks l) K:=by
   intro K k
   unfold ybZ yik
   rw [yAY hf hl,if_pos h0,cnF rfl]
   rw [yaX,asT (by omega),asT (by omega),asT (by unfold room;omega),asT (by omega),asT (by omega),asT (by unfold room;omega)]
   refine ⟨l.length+1,ini _ _ _ _ _ _ _ _ _ _ (N:=l.length) (by omega) l.length 0 _ (by omega) (by omega) ?_⟩
   show yau 0 _
   rw [ywL]
   refine go0e hd _ _ _ _ _ _ m (List.range l.length) [] _ 0 [] _ (by rw [List.length_range];exact hm) hnd hA List.length_range s0 rfl rfl rfl (List.append_nil _).symm List.length_range.symm (by rw [List.length_range];rfl) rfl rfl rfl ?_
   rw [← hm]
   revert k
   cases tGo l l.length (List.range l.length) [] 0 [] with
   | ok x =>
     obtain ⟨ts,lg⟩:=x
     intro k
     have hp:=yu2 l.length ts
     have ht:=yu3 ts
     unfold nofn at hp ht
     refine ⟨?_,?_⟩
     · intro r1
       intros
       rename_i hr
       unfold nofn at hr
       show asr _ _
       rw [asTT (by simp only [noYH,yaN,ycz,noY,Bool.and_self,hr,hp,ht])]
       show cbr _ _ _
       rw [cnF rfl,yeV,asT (by omega),asT (by omega),asT (by omega),asT (by omega),take_all (yeV _ _),take_all rfl]
       exact k
     · intro r1
       intros
       rename_i hr
       unfold nofn at hr
       show asr _ _
       rw [asTT (by simp only [noYH,yaN,ycz,noY,Bool.and_self,hr,hp,ht])]
       show cbr _ _ _
       rw [cnF rfl,yeV,asT (by omega),asT (by omega),asT (by omega),asT (by omega),take_all (yeV _ _),take_all rfl]
       exact k
   | error e =>
     intro k
     refine ⟨?_,?_⟩
     · intro r1 lgx
       intros
       rename_i hr
       have hp:=yu2 l.length []
       unfold nofn at hr hp
       show asr _ _
       rw [asTT (by simp only [noYH,yaN,ycz,noY,Bool.and_self,hr,hp])]
       show cbr _ _ _
       rw [cnT k.1]
       exact k.2
     · intro r1 ts' lgx
       intros
       rename_i hr
       have hp:=yu2 l.length ts'
       have ht:=yu3 ts'
       unfold nofn at hr hp ht
       show asr _ _
       rw [asTT (by simp only [noYH,yaN,ycz,noY,Bool.and_self,hr,hp,ht])]
       show cbr _ _ _
       rw [cnT k.1]
       exact k.2
 cases hT:tGo l l.length (List.range l.length) [] 0 [] with
 | ok x =>
   obtain ⟨ts,lg⟩:=x
   refine ykX _ (pcs l.length ts) (tns ts) (logs lg) 0 (fun K k=>main K ?_) K
   rw [hT]
   exact k
 | error e =>
   refine ykX _ [] [] [] e (fun K k=>main K ?_) K
   rw [hT]
   exact ⟨fun e0=>yD4 _ _ _ _ _ (e0 ▸ hT),k⟩
end
end Go.Pf.Vc
namespace Go.Pf.Vc
open Go Go.Pf
section
variable {l:List Ck}
theorem yE7 (hd:DK l) {a:Nat} (h2:a<l.length) (lg:List PV) (K:Int→Int→Prop):ydB (cks l) lg a K=K (shN l a).num (shN l a).den :=
 yE5 h2 (hd.ok a h2) (by have:=hd.n6;omega) lg K
end
end Go.Pf.Vc
namespace Go.Pf.Vc
open Go Go.Pf
section
variable {l:List Ck}
theorem yJa {ts:List Tn} {i:Nat} (h:i<ts.length):∃ x,List.getD (tns ts) i .nils=tnE x:=by
 unfold tns
 rw [List.getD_eq_getElem?_getD,List.getElem?_map,List.getElem?_eq_getElem h]
 exact ⟨ts[i],rfl⟩
theorem ywP (ts:List Tn) (h6:ts.length≤1000) {x0 x1}:∀ (r i n:Nat),i+r=ts.length→r<n→x0 (tns ts) (tns ts) ((ts.length:Nat):Int) false→yby x0 x1 n (tns ts) (tns ts) ((i:Nat):Int)
 | 0,i,n,hi,hn,h=>by
   obtain ⟨n,rfl⟩:∃ k,n=k+1:=⟨n-1,by omega⟩
   have e:i=ts.length:=by omega
   subst e
   unfold yby
   rw [yhn,cbF (by omega)]
   exact h
 | r+1,i,n,hi,hn,h=>by
   obtain ⟨n,rfl⟩:∃ k,n=k+1:=⟨n-1,by omega⟩
   obtain ⟨x,hx⟩:=yJa (ts:=ts) (i:=i) (by omega)
   have ew:IntKind.i64.wrap ((i:Int)+1)=((i+1:Nat):Int):=by rw [wib (by omega) (by omega)];omega
   have ec:∀ P:Prop,asr (conf (.agg [.i .i64,.i .i64,.i .i64,.i .i64,.i .i64,.i .i64]) (tnE x)) P=P:=fun P=>rfl
   unfold yby
   simp only [lt]
   rw [yhn,cbT (by omega),asT (by omega),asT (by omega),Int.toNat_natCast,hx,ec,asT (by omega),asT (by omega),ec,beq_self_eq_true,beq_self_eq_true,beq_self_eq_true,beq_self_eq_true,beq_self_eq_true,beq_self_eq_true]
   simp only [Bool.and_self,Bool.not_true,yaa]
   rw [ew]
   exact ywP ts h6 r (i+1) n (by omega) (by omega) h
theorem yu4 {ts:List Tn} (h6:ts.length≤1000) (K:Bool→Prop):ycV (tns ts) (tns ts) K=K true:=by
 refine yqm _ _ _ (fun K k=>?_) K
 unfold ycV ygc
 rw [cnF rfl]
 exact ⟨ts.length+1,ywP ts h6 ts.length 0 _ (by omega) (by omega) k⟩
def dvT (n:Nat) (ts:List Tn):List (List Sp):=ts.foldl (fun P t=>P.set t.a [⟨t.f.num,t.f.den,t.t.num,t.t.den⟩]) (List.replicate n [])
theorem ysk:∀ (ts:List Tn) (P:List (List Sp)),pieces (ts.foldl (fun P t=>P.set t.a [⟨t.f.num,t.f.den,t.t.num,t.t.den⟩]) P)=ts.foldl (fun P t=>P.set t.a (spE t)) (pieces P)
 | [],P=>rfl
 | t::r,P=>by
   show pieces (r.foldl _ (P.set t.a _))=r.foldl _ ((pieces P).set t.a (spE t))
   rw [ysk r]
   congr 1
   unfold pieces
   rw [List.map_set]
   rfl
theorem yu5 (n:Nat) (ts:List Tn):pcs n ts=pieces (dvT n ts):=by
 unfold dvT pcs
 rw [ysk]
 congr 1
 unfold pieces
 rw [List.map_replicate]
 rfl
theorem yD7 (n:Nat) (ts:List Tn):(dvT n ts).length=n:=by
 have:=yeV n ts
 rw [yu5] at this
 unfold pieces at this
 rwa [List.length_map] at this
end
end Go.Pf.Vc
namespace Go.Pf.Vc
open Go Go.Pf
section
variable {l:List Ck}
def bndV (n:Int):Int×Int:=if n<1∨n>6 then (0,2) else (IntKind.i64.wrap (IntKind.i64.wrap (n*n)-1),0)
theorem yE8 (n:Int) (K:Int→Int→Prop):yhm n K=K (bndV n).1 (bndV n).2:=by
 unfold yhm yiR bndV
 simp only [Go.Pf.jn,lt]
 by_cases h:n<1
 · rw [cbT h,yac,if_pos (.inl h)]
 · rw [cbF h]
   by_cases h2:n>6
   · rw [cbT h2,if_pos (.inr h2)]
   · rw [cbF h2,if_neg (fun x=>x.elim h h2)]
end
end Go.Pf.Vc
namespace Go.Pf.Vc
open Go Go.Pf
section
variable {l:List Ck}
theorem yE9 (hd:DK l) {a:Nat} (h:a<l.length) {q p:Rat} (hs:small q) (hp:small p) (q0:0≤q) (qp:q≤p) (p1:p≤lenR l) {D:Int} (hD:1≤D∧D≤50000000000000) (hq:In D q) (hpD:In D p) {m:Nat} (hm:m<2000) :
   valE l q.num q.den m a p=.ok (vXA l a p-vXA l a q)∧QR l (valQ q.num q.den a p (vXA l a p-vXA l a q)):=by
 have hok:=hd.ok a h
 have hlen:=hd.len a h
 have p1':p≤((l.getD a default).len:Rat):=by rw [hlen];exact p1
 have e:valR (l.getD a default).len (l.getD a default).cuts (l.getD a default).dens q.num q.den p.num p.den=.ok (vXA l a p-vXA l a q):=by
   unfold valR
   rw [if_pos hok.ck,ygz,ygz,if_pos ⟨yAW hs q0 (Rat.le_trans qp p1'),yAW hp (Rat.le_trans q0 qp) p1',Rat.not_lt.2 qp⟩]
   exact ywJ hok hD hq hpD q0 qp p1'
 refine ⟨?_,⟨by show (0:Int)≤a;omega,by show (a:Int)<_;omega⟩,⟨hs.i1,hs.i2,hp.i1,hp.i2⟩,vXA l a p-vXA l a q,⟨rfl,rfl⟩,.inr ⟨rfl,?_⟩⟩
 · unfold valE qryR
   rw [if_pos (hd.err (by omega)),if_pos ⟨by omega,by omega⟩,Int.toNat_natCast]
   have:Ck.value q.num q.den p.num p.den (l.getD a default)=.ok (vXA l a p-vXA l a q):=e
   rw [this]
   show (if m≥2000 then _ else _)=_
   rw [if_neg (by omega)]
 · exact e
theorem yA6 (hd:DK l) {q p:Rat} {d D:Int} (q0:0≤q) (qp:q≤p) (p1:p≤lenR l) (hd12:1≤d∧d≤12) (D1:1≤D) (D2:D≤1000000000000) (h:In (d*D) p):small p:=by
 have hn:=hd.n0
 have l0:=(hd.ok 0 (by omega)).len0
 have hL:lenR l≤1000:=Rat.intCast_le_intCast.2 l0.2
 have hdD:d*D≤12*D:=Int.mul_le_mul_of_nonneg_right hd12.2 (by omega)
 have hdD1:1*1≤d*D:=Int.mul_le_mul hd12.1 D1 (by omega) (by omega)
 exact h.small (M:=1000) ⟨by omega,by omega⟩ (by omega) (by show -(1000:Rat)≤_;grind) (by show _≤(1000:Rat);grind)
structure TOk (l:List Ck) (q:Rat) (D:Int) (s:TSt):Prop where
 lt:q<s.p
 le:s.p≤lenR l
 inD:∃ d:Int,(1≤d∧d≤12)∧In (d*D) s.p
 sh:vXA l s.w s.p=vXA l s.w q+shN l s.w
theorem yyU (hd:DK l) {q:Rat} (hs:small q) (q0:0≤q) {D:Int} (D1:1≤D) (D2:D≤1000000000000) (hq:In D q) (hsh:∀ a,In D (shN l a)) :
   ∀ (rest:List Nat) (s:TSt),(∀ a∈rest,a<l.length)→(∀ a∈rest,shN l a≤vXA l a (lenR l)-vXA l a q)→s.lg.length+2*rest.length<2000→TOk l q D s →
     ∃ s',tR l q.num q.den rest s=.ok s'∧TOk l q D s'∧s'.p≤s.p∧(∀ a∈rest,vXA l a s'.p≤vXA l a q+shN l a)∧(s'.w=s.w∨s'.w∈rest)∧s'.k≤s.k+rest.length ∧
       ∃ qs,s'.lg=s.lg++qs∧(∀ x∈qs,QR l x)∧qs.length≤2*rest.length
 | [],s,_,_,_,h=>⟨s,rfl,h,Rat.le_refl,fun _ h=>(by cases h),.inl rfl,Nat.le_refl _,[],by rw [List.append_nil],fun _ h=>(by cases h),Nat.zero_le _⟩
 | a::r,s,hr,hv,hl,h=>by
   have ha:=hr a List.mem_cons_self
   have hok:=hd.ok a ha
   have hll:(a::r).length=r.length+1:=rfl
   rw [hll] at hl
   obtain ⟨d,hd12,hpD⟩:=h.inD
   have hdD:d*D≤12*D:=Int.mul_le_mul_of_nonneg_right hd12.2 (by omega)
   have hdD1:1*1≤d*D:=Int.mul_le_mul hd12.1 D1 (by omega) (by omega)
   have hps:small s.p:=yA6 hd q0 (Rat.le_of_lt h.lt) h.le hd12 D1 D2 hpD
   obtain ⟨e1,g1⟩:=yE9 hd ha hs hps q0 (Rat.le_of_lt h.lt) h.le (D:=d*D) ⟨by omega,by omega⟩ (hq.up D1 hd12.1) hpD (m:=s.lg.length) (by omega)
   have hr':∀ b∈r,b<l.length:=fun b hb=>hr b (List.mem_cons_of_mem _ hb)
   have hv':∀ b∈r,shN l b≤vXA l b (lenR l)-vXA l b q:=fun b hb=>hv b (List.mem_cons_of_mem _ hb)
   by_cases hc:shN l a<vXA l a s.p-vXA l a q
   · obtain ⟨k1,k2,k3,k4,k5⟩:=yGH hd ha q0 (Rat.le_trans (Rat.le_of_lt h.lt) h.le) (hv a List.mem_cons_self) D1 D2 hq (hsh a)
     have e2:=ywK hd ha hs q0 (Rat.le_trans (Rat.le_of_lt h.lt) h.le) k1 (m:=s.lg.length+1) (by omega)
     have g2:=yGI hd ha hs q0 (Rat.le_trans (Rat.le_of_lt h.lt) h.le) k1
     have hle:mkM l q a≤s.p:=Rat.not_lt.1 fun hlt=>by
       have m1:vXA l a s.p≤vXA l a (mkM l q a):=ynj hok (Rat.le_of_lt hlt)
       have k3':vXA l a (mkM l q a)=vXA l a q+shN l a:=k3
       grind
     obtain ⟨s',f1,f2,f3,f4,f5,f6,qs,f7,f8,f9⟩:=yyU hd hs q0 D1 D2 hq hsh r ⟨(s.lg++[valQ q.num q.den a s.p (vXA l a s.p-vXA l a q)])++[ymO l q.num q.den a (mkM l q a)],mkM l q a,a,s.k+1⟩ hr' hv' (by simp only [List.length_append,List.length_cons,List.length_nil];omega) ⟨k4,k5,k2,k3⟩
     refine ⟨s',?_,f2,Rat.le_trans f3 hle,fun b hb=>?_,?_,?_,valQ q.num q.den a s.p (vXA l a s.p-vXA l a q)::ymO l q.num q.den a (mkM l q a)::qs,?_,fun x hx=>?_,?_⟩
     · unfold tR
       rw [e1]
       dsimp only
       rw [if_pos hc,e2]
       exact f1
     · rcases List.mem_cons.1 hb with rfl | hb
       · have m1:vXA l b s'.p≤vXA l b (mkM l q b):=ynj hok f3
         have k3':vXA l b (mkM l q b)=vXA l b q+shN l b:=k3
         grind
       · exact f4 b hb
     · rcases f5 with f5 | f5
       · exact .inr (by rw [f5];exact List.mem_cons_self)
       · exact .inr (List.mem_cons_of_mem _ f5)
     · have:s'.k≤s.k+1+r.length:=f6
       omega
     · rw [f7];simp only [List.append_assoc,List.cons_append,List.nil_append]
     · rcases List.mem_cons.1 hx with rfl | hx
       · exact g1
       · rcases List.mem_cons.1 hx with rfl | hx
         · exact g2
         · exact f8 x hx
     · simp only [List.length_cons];omega
   · obtain ⟨s',f1,f2,f3,f4,f5,f6,qs,f7,f8,f9⟩:=yyU hd hs q0 D1 D2 hq hsh r ⟨s.lg++[valQ q.num q.den a s.p (vXA l a s.p-vXA l a q)],s.p,s.w,s.k⟩ hr' hv' (by simp only [List.length_append,List.length_cons,List.length_nil];omega) ⟨h.lt,h.le,h.inD,h.sh⟩
     refine ⟨s',?_,f2,f3,fun b hb=>?_,?_,?_,valQ q.num q.den a s.p (vXA l a s.p-vXA l a q)::qs,?_,fun x hx=>?_,?_⟩
     · unfold tR
       rw [e1]
       dsimp only
       rw [if_neg hc]
       exact f1
     · rcases List.mem_cons.1 hb with rfl | hb
       · have m1:vXA l b s'.p≤vXA l b s.p:=ynj hok f3
         grind
       · exact f4 b hb
     · rcases f5 with f5 | f5
       · exact .inl f5
       · exact .inr (List.mem_cons_of_mem _ f5)
     · have:s'.k≤s.k+r.length:=f6
       omega
     · rw [f7];simp only [List.append_assoc,List.cons_append,List.nil_append]
     · rcases List.mem_cons.1 hx with rfl | hx
       · exact g1
       · exact f8 x hx
     · simp only [List.length_cons];omega
theorem yA7 (hd:DK l) {q:Rat} (hs:small q) (q0:0≤q) (q1:q≤lenR l) {D:Int} (D1:1≤D) (D2:D≤1000000000000) (hq:In D q) (hsh:∀ a,In D (shN l a)) {A:List Nat} (h2:2≤A.length) (hr:∀ a∈A,a<l.length)
   (hv:∀ a∈A,shN l a≤vXA l a (lenR l)-vXA l a q) (lg:List Qy) (hl:lg.length+2*A.length<2000) :
   ∃ s,ydu l q.num q.den lg A=.ok s∧TOk l q D s∧(∀ a∈A,vXA l a s.p≤vXA l a q+shN l a)∧s.w∈A∧s.k+1≤A.length∧∃ qs,s.lg=lg++qs∧(∀ x∈qs,QR l x)∧qs.length+1≤2*A.length:=by
 obtain ⟨a,r,rfl⟩:∃ a r,A=a::r:=by cases A with | nil=>simp at h2 | cons a r=>exact ⟨a,r,rfl⟩
 obtain ⟨b,r,rfl⟩:∃ b r',r=b::r':=by cases r with | nil=>simp at h2 | cons a r=>exact ⟨a,r,rfl⟩
 have ha:=hr a List.mem_cons_self
 obtain ⟨k1,k2,k3,k4,k5⟩:=yGH hd ha q0 q1 (hv a List.mem_cons_self) D1 D2 hq (hsh a)
 have e2:=ywK hd ha hs q0 q1 k1 (m:=lg.length) (by omega)
 have g2:=yGI hd ha hs q0 q1 k1
 simp only [List.length_cons] at hl
 obtain ⟨s',f1,f2,f3,f4,f5,f6,qs,f7,f8,f9⟩:=yyU hd hs q0 D1 D2 hq hsh (b::r) ⟨lg++[ymO l q.num q.den a (mkM l q a)],mkM l q a,a,0⟩ (fun x hx=>hr x (List.mem_cons_of_mem _ hx)) (fun x hx=>hv x (List.mem_cons_of_mem _ hx)) (by simp only [List.length_append,List.length_cons,List.length_nil];omega) ⟨k4,k5,k2,k3⟩
 refine ⟨s',?_,f2,fun x hx=>?_,?_,?_,ymO l q.num q.den a (mkM l q a)::qs,?_,fun x hx=>?_,?_⟩
 · simp only [ydu,e2]
   exact f1
 · rcases List.mem_cons.1 hx with rfl | hx
   · have m1:vXA l x s'.p≤vXA l x (mkM l q x):=ynj (hd.ok x ha) f3
     have k3':vXA l x (mkM l q x)=vXA l x q+shN l x:=k3
     grind
   · exact f4 x hx
 · rcases f5 with f5 | f5
   · rw [f5];exact List.mem_cons_self
   · exact List.mem_cons_of_mem _ f5
 · have:s'.k≤0+(b::r).length:=f6
   simp only [List.length_cons] at this ⊢
   omega
 · rw [f7];simp only [List.append_assoc,List.cons_append,List.nil_append]
 · rcases List.mem_cons.1 hx with rfl | hx
   · exact g2
   · exact f8 x hx
 · simp only [List.length_cons] at f9 ⊢;omega
end
end Go.Pf.Vc
namespace Go.Pf.Vc
open Go Go.Pf
section
variable {l:List Ck}
def mkT:List Nat→(Nat→Rat)→(Nat→Nat)→List Tn
 | [],_,_=>[]
 | a::o,t,k=>⟨a,t 0,t 1,k 0⟩::mkT o (fun j=>t (j+1)) (fun j=>k (j+1))
def remA:List Nat→List Nat→Nat→List Nat
 | A,_,0=>A
 | A,[],_+1=>A
 | A,a::o,j+1=>remA (A.erase a) o j
def ywQ {α:Type} (a:α) (f:Nat→α):Nat→α
 | 0=>a
 | j+1=>f j
structure TRun (l:List Ck) (r:Nat) (A:List Nat) (q:Rat) (lg:List Qy) (ts:List Tn) (x:List Tn×List Qy) (o:List Nat) (t:Nat→Rat) (k:Nat→Nat) (L:Nat→List Qy) (D:Int):Prop where
 tn:x.1=ts++mkT o t k
 len:o.length=r+1
 perm:o.Perm A
 t0:t 0=q
 te:t (r+1)=lenR l
 lt:∀ j,j<r+1→t j<t (j+1)
 sm:∀ j,j≤r+1→small (t j)
 inD:∀ j,j≤r+1→In D (t j)
 sh:∀ j,j<r→vXA l (o.getD j 0) (t (j+1))=vXA l (o.getD j 0) (t j)+shN l (o.getD j 0)
 last:vXA l (o.getD r 0) (t r)+shN l (o.getD r 0)≤vXA l (o.getD r 0) (t (r+1))
 kb:∀ j,j<r+1→k j+j≤r
 l0:L 0=lg
 le:L (r+1)=x.2
 ll:L (r+1)=L r
 st:∀ j,j<r+1→ydu l (t j).num (t j).den (L j) (remA A o j)=.ok ⟨L (j+1),t (j+1),o.getD j 0,k j⟩∧(remA A o j).length=r+1-j
 ql:∀ j,j<r+1→∃ qs,L (j+1)=L j++qs∧(∀ q∈qs,QR l q)∧qs.length+1≤2*(r+1-j)
theorem yD8 (hd:DK l):∀ (r:Nat) (A:List Nat) (q:Rat) (lg:List Qy) (ts:List Tn) (D B:Int),A.length=r+1→A.Nodup→(∀ a∈A,a<l.length)→small q→0≤q→q<lenR l →
   (∀ a∈A,vXA l a q+((r+1:Nat):Int)*shN l a≤vXA l a (lenR l))→1≤D→D≤B→B*12 ^ r≤100000000→In D q→(∀ a,In D (shN l a))→lg.length+(r+1)*12<2000→r<6 →
   ∃ x o t k L D',tGo l (r+1) A lg q ts=.ok x∧(1≤D'∧D'≤B*12 ^ r)∧(∀ q,In D q→In D' q)∧TRun l r A q lg ts x o t k L D'
 | 0,A,q,lg,ts,D,B,hlen,hnd,hr,hs,q0,q1,hv,D1,DB,hB,hq,hsh,hlg,hr6=>by
   obtain ⟨a,rr,rfl,hrr⟩:=yGF hlen
   obtain rfl:=List.eq_nil_of_length_eq_zero hrr
   have ha:=hr a List.mem_cons_self
   have h0:=(hd.ok 0 (by have:=hd.n0;omega)).len0
   refine ⟨(ts++[⟨a,q,lenR l,0⟩],lg),[a],ywQ q (fun _=>lenR l),fun _=>0,fun _=>lg,D,?_,⟨D1,by rw [Int.pow_zero,Int.mul_one];exact DB⟩,fun _ h=>h,?_⟩
   · unfold tGo
     simp only [ydu,List.length_cons,List.length_nil]
     rfl
   · refine ⟨rfl,rfl,List.Perm.refl _,rfl,rfl,fun j hj=>?_,fun j hj=>?_,fun j hj=>?_,fun j hj=>by omega,?_,fun j hj=>by omega,rfl,rfl,rfl,fun j hj=>?_,fun j hj=>⟨[],by rw [List.append_nil],by simp,by simp only [List.length_nil];omega⟩⟩
     · obtain rfl:j=0:=by omega
       exact q1
     · obtain rfl | rfl:j=0∨j=1:=by omega
       · exact hs
       · exact yfq (by omega)
     · obtain rfl | rfl:j=0∨j=1:=by omega
       · exact hq
       · exact In.int D1 _
     · have:=hv a List.mem_cons_self
       show vXA l a q+shN l a≤vXA l a (lenR l)
       have e:(((0+1:Nat):Int):Rat)=1:=rfl
       rw [e] at this
       grind
     · obtain rfl:j=0:=by omega
       exact ⟨rfl,rfl⟩
 | r+1,A,q,lg,ts,D,B,hlen,hnd,hr,hs,q0,q1,hv,D1,DB,hB,hq,hsh,hlg,hr6=>by
   have n6:=hd.n6
   have hpow:B*12 ^ (r+1)=12*B*12 ^ r:=by rw [Int.pow_succ];grind
   have hp1:1≤(12:Int) ^ r:=by
     have:(0:Int)<12 ^ r:=Int.pow_pos (by omega)
     omega
   have hB1:12*B*1≤12*B*12 ^ r:=Int.mul_le_mul_of_nonneg_left hp1 (by omega)
   have hc:(((r+1+1:Nat):Int):Rat)=(((r+1:Nat):Int):Rat)+1:=by
     rw [show ((r+1+1:Nat):Int)=((r+1:Nat):Int)+1 by omega,Rat.intCast_add];rfl
   have hr0:(0:Rat)<(((r+1:Nat):Int):Rat):=Rat.intCast_pos.2 (by omega)
   have hv1:∀ a∈A,shN l a≤vXA l a (lenR l)-vXA l a q:=fun a ha=>by
     have:=hv a ha
     have sp:=yte hd (hr a ha)
     have:=Rat.mul_pos hr0 sp
     rw [hc] at *
     grind
   obtain ⟨s,e,⟨p0,p1,⟨d,hd12,hpD⟩,psh⟩,hall,hw,hk,qs,hqs,hqr,hql⟩:=yA7 hd hs q0 (Rat.le_of_lt q1) D1 (by omega) hq hsh (A:=A) (by omega) hr hv1 lg (by omega)
   have hdD:d*D≤12*D:=Int.mul_le_mul_of_nonneg_right hd12.2 (by omega)
   have hdD1:1*1≤d*D:=Int.mul_le_mul hd12.1 D1 (by omega) (by omega)
   have hps:small s.p:=yA6 hd q0 (Rat.le_of_lt p0) p1 hd12 D1 (by omega) hpD
   have hlenk:(A.erase s.w).length=r+1:=by rw [List.length_erase_of_mem hw];omega
   have hmem:∀ b∈A.erase s.w,b∈A:=fun b hb=>List.mem_of_mem_erase hb
   have hv2:∀ b∈A.erase s.w,vXA l b s.p+((r+1:Nat):Int)*shN l b≤vXA l b (lenR l):=fun b hb=>by
     have h1:=hv b (hmem b hb)
     have h2:=hall b (hmem b hb)
     rw [hc] at h1
     grind
   have hp1:s.p<lenR l:=by
     obtain ⟨b,hb⟩:∃ b,b∈A.erase s.w:=by
       cases hx:A.erase s.w with
       | nil=>rw [hx] at hlenk;cases hlenk
       | cons b _=>exact ⟨b,List.mem_cons_self⟩
     have h1:=hv2 b hb
     have hbl:=hr b (hmem b hb)
     have sp:=yte hd hbl
     have sp2:=Rat.mul_pos hr0 sp
     refine Rat.not_le.1 fun hle=>?_
     have:vXA l b (lenR l)≤vXA l b s.p:=ynj (hd.ok b hbl) hle
     grind
   have hll:s.lg.length+1≤lg.length+2*(r+2):=by rw [hqs,List.length_append];omega
   obtain ⟨x,o,t,k,L,D',h1,h2,hup,h3⟩:=yD8 hd r (A.erase s.w) s.p s.lg (ts++[⟨s.w,q,s.p,s.k⟩]) (d*D) (12*B) hlenk (hnd.erase _) (fun b hb=>hr b (hmem b hb)) hps (by grind) hp1 hv2 (by omega) (by omega) (by omega) hpD (fun b=>(hsh b).up D1 (by omega)) (by omega) (by omega)
   have e2:tGo l (r+1+1) A lg q ts=.ok x:=by
     unfold tGo
     rw [e]
     dsimp only
     rw [if_neg (by omega)]
     exact h1
   refine ⟨x,s.w::o,ywQ q t,ywQ s.k k,ywQ lg L,D',e2,⟨h2.1,by omega⟩,fun q h=>hup q (h.up D1 (by omega)),?_⟩
   refine ⟨?_,by rw [List.length_cons,h3.len],?_,rfl,h3.te,fun j hj=>?_,fun j hj=>?_,fun j hj=>?_,fun j hj=>?_,h3.last,fun j hj=>?_,rfl,h3.le,h3.ll,fun j hj=>?_,fun j hj=>?_⟩
   · rw [h3.tn,List.append_assoc]
     have:mkT (s.w::o) (ywQ q t) (ywQ s.k k)=⟨s.w,q,t 0,s.k⟩::mkT o t k:=rfl
     rw [this,h3.t0]
     rfl
   · exact (List.Perm.cons _ h3.perm).trans (List.perm_cons_erase hw).symm
   · cases j with
     | zero=>show q<t 0;rw [h3.t0];exact p0
     | succ j=>exact h3.lt j (by omega)
   · cases j with
     | zero=>exact hs
     | succ j=>exact h3.sm j (by omega)
   · cases j with
     | zero=>exact hup q (hq.up D1 (by omega))
     | succ j=>exact h3.inD j (by omega)
   · cases j with
     | zero =>
       show vXA l s.w (t 0)=vXA l s.w q+shN l s.w
       rw [h3.t0];exact psh
     | succ j=>exact h3.sh j (by omega)
   · cases j with
     | zero=>show s.k+0≤r+1;omega
     | succ j=>have:=h3.kb j (by omega);show k j+(j+1)≤r+1;omega
   · cases j with
     | zero =>
       refine ⟨?_,hlen⟩
       show ydu l q.num q.den lg A=.ok ⟨L 0,t 0,s.w,s.k⟩
       rw [h3.l0,h3.t0,e]
     | succ j =>
       obtain ⟨g1,g2⟩:=h3.st j (by omega)
       refine ⟨g1,?_⟩
       show (remA (A.erase s.w) o j).length=_
       omega
   · cases j with
     | zero =>
       refine ⟨qs,?_,hqr,by omega⟩
       show L 0=lg++qs
       rw [h3.l0,hqs]
     | succ j =>
       obtain ⟨qs,g1,g2,g3⟩:=h3.ql j (by omega)
       exact ⟨qs,g1,g2,by omega⟩
theorem yGL:∀ (o:List Nat) (t:Nat→Rat) (k:Nat→Nat) (j:Nat),j<o.length→(mkT o t k)[j]?=some ⟨o.getD j 0,t j,t (j+1),k j⟩
 | [],_,_,j,h=>by simp at h
 | a::o,t,k,0,h=>rfl
 | a::o,t,k,j+1,h=>yGL o _ _ j (by simpa using h)
theorem ytg:∀ (o:List Nat) (t:Nat→Rat) (k:Nat→Nat),(mkT o t k).length=o.length
 | [],_,_=>rfl
 | _::o,_,_=>congrArg (·+1) (ytg o _ _)
theorem yGM (hd:DK l):∃ x o t k L D',tRun l=.ok x∧(1≤D'∧D'≤100000000)∧TRun l (l.length-1) (List.range l.length) 0 [] [] x o t k L D':=by
 have n0:=hd.n0;have n6:=hd.n6
 have l0:=(hd.ok 0 (by omega)).len0
 have hL:(1:Rat)≤lenR l:=Rat.intCast_le_intCast.2 l0.1
 have hn:l.length-1+1=l.length:=by omega
 have hp:(l.length:Int)*12 ^ (l.length-1)≤100000000:=by
   obtain h | h | h | h | h | h:l.length=1∨l.length=2∨l.length=3∨l.length=4∨l.length=5∨l.length=6:=by omega
   all_goals (rw [h];decide)
 obtain ⟨x,o,t,k,L,D',h1,h2,_,h3⟩:=yD8 hd (l.length-1) (List.range l.length) 0 [] [] l.length l.length (by rw [List.length_range];omega) List.nodup_range (fun a ha=>List.mem_range.1 ha) yC1 Rat.le_refl (by grind) (fun a ha=>by
   have hal:=List.mem_range.1 ha
   have hm:=yHR hd hal
   have ht:=yGE (hd.ok a hal)
   rw [hd.len a hal] at ht
   rw [hn]
   show vX _ _ 0+((l.length:Int):Rat)*shN l a≤vX _ _ ((l.getD 0 default).len:Rat)
   rw [hm,← ht]
   grind) (by omega) (Int.le_refl _) hp (In.int (by omega) 0) (yI9 l) (by rw [List.length_nil];omega) (by omega)
 refine ⟨x,o,t,k,L,D',?_,⟨h2.1,by omega⟩,h3⟩
 unfold tRun
 rw [if_pos (hd.err (by omega)),← h1,hn]
abbrev TW (l:List Ck) (x:List Tn×List Qy) (o:List Nat) (t:Nat→Rat) (k:Nat→Nat) (L:Nat→List Qy) (D:Int):Prop:=TRun l (l.length-1) (List.range l.length) 0 [] [] x o t k L D
theorem TW.mem {x o t k L D} (h:TW l x o t k L D) {a:Nat}:a∈o↔a<l.length:=by
 rw [h.perm.mem_iff,List.mem_range]
theorem TW.nd {x o t k L D} (h:TW l x o t k L D):o.Nodup:=h.perm.nodup_iff.2 List.nodup_range
theorem TW.at {x o t k L D} (n0:1≤l.length) (h:TW l x o t k L D) {a:Nat} (ha:a<l.length):o.idxOf a<l.length∧o.getD (o.idxOf a) 0=a:=by
 have hm:=(h.mem (a:=a)).2 ha
 have hl:=h.len
 have hi:=List.idxOf_lt_length_of_mem hm
 refine ⟨by omega,?_⟩
 rw [List.getD_eq_getElem?_getD,List.getElem?_eq_getElem hi]
 exact List.getElem_idxOf hi
theorem TW.idx {x o t k L D} (n0:1≤l.length) (h:TW l x o t k L D) {j:Nat} (hj:j<l.length):o.getD j 0<l.length∧o.idxOf (o.getD j 0)=j:=by
 have hl:=h.len
 have hj':j<o.length:=by omega
 have hm:o.getD j 0∈o:=yGB hj'
 refine ⟨h.mem.1 hm,?_⟩
 rw [List.getD_eq_getElem?_getD,List.getElem?_eq_getElem hj']
 exact h.nd.idxOf_getElem j hj'
theorem yD9 (t:Nat→Rat) (j:Nat):rsL [spT t j]=[(t j,t (j+1))]:=by
 show [(rt (t j).num (t j).den,rt (t (j+1)).num (t (j+1)).den)]=_
 rw [ygz,ygz]
theorem yA8:∀ (ts:List Tn) (P:List (List Sp)) (a:Nat),(∀ x∈ts,x.a≠a)→(ts.foldl (fun P t=>P.set t.a [⟨t.f.num,t.f.den,t.t.num,t.t.den⟩]) P).getD a []=P.getD a []
 | [],P,a,_=>rfl
 | x::r,P,a,h=>by
   have:=yA8 r (P.set x.a [⟨x.f.num,x.f.den,x.t.num,x.t.den⟩]) a (fun y hy=>h y (List.mem_cons_of_mem _ hy))
   rw [List.foldl_cons,this,List.getD_eq_getElem?_getD,List.getElem?_set_ne (h x List.mem_cons_self),← List.getD_eq_getElem?_getD]
theorem yIu:∀ (o:List Nat) (t:Nat→Rat) (k:Nat→Nat) (x:Tn),x∈mkT o t k→x.a∈o
 | [],_,_,x,h=>by cases h
 | a::o,t,k,x,h=>by
   rcases List.mem_cons.1 h with rfl | h
   · exact List.mem_cons_self
   · exact List.mem_cons_of_mem _ (yIu o _ _ x h)
theorem yEa:∀ (o:List Nat) (t:Nat→Rat) (k:Nat→Nat) (P:List (List Sp)) (j:Nat),o.Nodup→j<o.length→o.getD j 0<P.length→((mkT o t k).foldl (fun P t=>P.set t.a [⟨t.f.num,t.f.den,t.t.num,t.t.den⟩]) P).getD (o.getD j 0) []=[spT t j]
 | [],t,k,P,j,_,h,_=>by simp at h
 | a::o,t,k,P,0,hnd,h,hP=>by
   have hnd:=List.nodup_cons.1 hnd
   have hP:a<P.length:=hP
   unfold mkT
   rw [List.foldl_cons]
   show List.getD (List.foldl _ _ _) a []=_
   rw [yA8 _ _ a (fun x hx e=>hnd.1 (by rw [← e];exact yIu o _ _ x hx)),List.getD_eq_getElem?_getD,List.getElem?_set_self hP]
   rfl
 | a::o,t,k,P,j+1,hnd,h,hP=>by
   have hnd:=List.nodup_cons.1 hnd
   unfold mkT
   rw [List.foldl_cons]
   exact yEa o (fun j=>t (j+1)) (fun j=>k (j+1)) _ j hnd.2 (by simpa using h) (by rw [List.length_set];exact hP)
theorem TW.pin {x o t k L D} (n0:1≤l.length) (h:TW l x o t k L D) {j:Nat} (hj:j<l.length):(dvT l.length x.1).getD (o.getD j 0) []=[spT t j]:=by
 have hl:=h.len
 rw [h.tn,List.nil_append]
 exact yEa o t k _ j h.nd (by omega) (by rw [List.length_replicate];exact (h.idx n0 hj).1)
theorem TW.LD {x o t k L D} (hd:DK l) (h:TW l x o t k L D):LD l ((dvT l.length x.1).map rsL) t o.idxOf:=by
 have n0:=hd.n0
 have hn:l.length-1+1=l.length:=by omega
 have hpl:=yD7 l.length x.1
 have l0:=(hd.ok 0 (by omega)).len0
 refine ⟨hd,by rw [List.length_map];exact hpl,h.t0,?_,fun j hj=>h.lt j (by omega),fun j hj=>h.sm j (by omega),fun a ha=>?_,fun a b ha hb e=>?_,fun j hj=>?_⟩
 · have:=h.te
   rw [hn] at this
   exact this
 · obtain ⟨k1,k2⟩:=h.at n0 ha
   refine ⟨k1,?_⟩
   have:=h.pin n0 k1
   rw [k2] at this
   rw [List.getD_eq_getElem?_getD,List.getElem?_map,List.getElem?_eq_getElem (by omega)]
   rw [List.getD_eq_getElem?_getD,List.getElem?_eq_getElem (by omega)] at this
   show rsL (dvT l.length x.1)[a]=_
   rw [show (dvT l.length x.1)[a]=[spT t (o.idxOf a)] from this,yD9]
 · have h1:=(h.at n0 ha).2
   have h2:=(h.at n0 hb).2
   rw [e,h2] at h1
   exact h1.symm
 · obtain ⟨k1,k2⟩:=h.idx n0 hj
   exact ⟨_,k1,k2⟩
theorem TW.pieces {x o t k L D} (hd:DK l) (h:TW l x o t k L D):pcs l.length x.1=rspL ((dvT l.length x.1).map rsL):=by
 have n0:=hd.n0
 have hpl:=yD7 l.length x.1
 rw [yu5]
 unfold Go.Pf.Vc.pieces rspL
 rw [List.map_map]
 refine List.map_congr_left fun p hp=>?_
 obtain ⟨a,ha,rfl⟩:=List.getElem_of_mem hp
 have hal:a<l.length:=by omega
 obtain ⟨k1,k2⟩:=h.at n0 hal
 have:=h.pin n0 k1
 rw [k2,List.getD_eq_getElem?_getD,List.getElem?_eq_getElem ha] at this
 have this:(dvT l.length x.1)[a]=[spT t (o.idxOf a)]:=this
 show PV.data (yGz (dvT l.length x.1)[a])=PV.data (rsp (rsL (dvT l.length x.1)[a]))
 rw [this,yD9]
 rfl
theorem TW.share {x o t k L D} (hd:DK l) (h:TW l x o t k L D) {j:Nat} (hj:j<l.length) :
   shN l (o.getD j 0)≤vXA l (o.getD j 0) (t (j+1))-vXA l (o.getD j 0) (t j)∧(j+1<l.length→vXA l (o.getD j 0) (t (j+1))-vXA l (o.getD j 0) (t j)=shN l (o.getD j 0)):=by
 have n0:=hd.n0
 by_cases hl:j+1<l.length
 · have:=h.sh j (by omega)
   rw [this]
   refine ⟨by grind,fun _=>by grind⟩
 · have e:j=l.length-1:=by omega
   have:=h.last
   rw [e]
   refine ⟨by grind,fun hh=>by omega⟩
end
end Go.Pf.Vc
namespace Go.Pf.Vc
open Go Go.Pf
set_option maxRecDepth 100000
def thr8:List Ck:=[⟨6,[0,6],[1]⟩,⟨6,[0,4,6],[1,4]⟩,⟨6,[0,2,6],[2,0]⟩]
def tnT (x:Tn):Nat×Rat×Rat×Nat:=(x.a,x.f,x.t,x.k)
def ofT (x:Nat×Rat×Rat×Nat):Tn:=⟨x.1,x.2.1,x.2.2.1,x.2.2.2⟩
def yGN (e:Except Int (List Tn×List Qy)):Bool:=match e with
 | .ok (ts,lg)=>decide (ts.map tnT=[(2,0,mkRat 2 3,1),(0,mkRat 2 3,mkRat 8 3,0),(1,mkRat 8 3,6,0)])&&decide (lg.length=6)
 | .error _=>false
theorem yHS:yGN (tRun thr8)=true:=by decide +kernel
theorem yGO:finC thr8:=by
 intro i hi
 have h:i<3:=hi
 rcases i with _ | _ | _ | i
 · exact ⟨by decide,by decide⟩
 · exact ⟨by decide,by decide⟩
 · exact ⟨by decide,by decide⟩
 · omega
theorem yJb (K:List PV→Prop):ymF K=K (cks thr8):=rfl
theorem lit8:([(.agg [(.int .i64 (2:Int)),(.int .i64 (0:Int)),(.int .i64 (1:Int)),(.int .i64 (2:Int)),(.int .i64 (3:Int)),(.int .i64 (1:Int))]),(.agg [(.int .i64 (0:Int)),(.int .i64 (2:Int)),(.int .i64 (3:Int)),(.int .i64 (8:Int)),(.int .i64 (3:Int)),(.int .i64 (0:Int))]),(.agg [(.int .i64 (1:Int)),(.int .i64 (8:Int)),(.int .i64 (3:Int)),(.int .i64 (6:Int)),(.int .i64 (1:Int)),(.int .i64 (0:Int))])]:List PV)=tns ([(2,0,mkRat 2 3,1),(0,mkRat 2 3,mkRat 8 3,0),(1,mkRat 8 3,6,0)].map ofT):=by kernel_rfl
theorem rOf1 (n:Int) (K:Int→Int→Prop):yef n K=K n 1:=rfl
theorem ywR (K:Bool→Prop):yda K=K true:=by
 have h3:=yHS
 cases e:tRun thr8 with
 | error x=>rw [e] at h3;cases h3
 | ok t =>
   obtain ⟨ts,lg⟩:=t
   rw [e] at h3
   simp only [yGN,Bool.and_eq_true,decide_eq_true_eq] at h3
   obtain ⟨hts,hlg⟩:=h3
   have e1:ts=(ts.map tnT).map ofT:=by rw [List.map_map];exact (List.map_id ts).symm
   rw [hts] at e1
   unfold yda ykY
   dsimp only [Go.Pf.jn]
   rw [yJb,yD6 yGO (by decide),e]
   dsimp only
   rw [yE8,rOf1,rOf1,ceT rfl,lit8,e1,yu4 (by decide),yac,yeR,hlg,ceT (show ((6:Nat):Int)=6 from rfl),ceT (show (bndV 3).2=0 from rfl),show (bndV 3).1=8 from rfl]
   rfl
theorem yHT {l:List Ck} (hl:l.length≤9223372036854775807) (K:Bool→Prop):yge (cks l) K=K (!ypg l&&decide (yem l 0=0)):=by
 unfold yge ype
 dsimp only [Go.Pf.jn]
 rw [yvX hl]
 cases hg:ypg l with
 | true=>rfl
 | false =>
   obtain ⟨g1,g2,g3⟩:=yuX hg
   rw [show (!false)=true from rfl,yac,yE1 g3 (by omega)]
   rfl
end Go.Pf.Vc
namespace Go.Pf.Vc
open Go Go.Pf
section
variable {l:List Ck}
def tnO (o:List Nat) (t:Nat→Rat) (k:Nat→Nat) (i:Nat):Tn:=⟨o.getD i 0,t i,t (i+1),k i⟩
theorem yHU {x o t k L D'} (n0:1≤l.length) (h:TW l x o t k L D') {i:Nat} (hi:i<l.length):List.getD (tns x.1) i .nils=tnE (tnO o t k i):=by
 have hl:=h.len
 unfold tns
 rw [h.tn,List.nil_append,List.getD_eq_getElem?_getD,List.getElem?_map,yGL o t k i (by omega)]
 rfl
theorem asTn {x:Tn} {P:Prop}:asr (conf (.agg [.i .i64,.i .i64,.i .i64,.i .i64,.i .i64,.i .i64]) (tnE x)) P=P:=rfl
theorem tn0 (o:List Nat) (t:Nat→Rat) (k:Nat→Nat) (i:Nat):yab (yai (tnE (tnO o t k i)) 0)=(o.getD i 0:Int):=rfl
theorem tn1 (o:List Nat) (t:Nat→Rat) (k:Nat→Nat) (i:Nat):yab (yai (tnE (tnO o t k i)) 1)=(t i).num:=rfl
theorem tn2 (o:List Nat) (t:Nat→Rat) (k:Nat→Nat) (i:Nat):yab (yai (tnE (tnO o t k i)) 2)=(t i).den:=rfl
theorem tn3 (o:List Nat) (t:Nat→Rat) (k:Nat→Nat) (i:Nat):yab (yai (tnE (tnO o t k i)) 3)=(t (i+1)).num:=rfl
theorem tn4 (o:List Nat) (t:Nat→Rat) (k:Nat→Nat) (i:Nat):yab (yai (tnE (tnO o t k i)) 4)=(t (i+1)).den:=rfl
theorem tn5 (o:List Nat) (t:Nat→Rat) (k:Nat→Nat) (i:Nat):yab (yai (tnE (tnO o t k i)) 5)=(k i:Int):=rfl
theorem yFa (hd:DK l) {D':Int} (hD:1≤D'∧D'≤50000000000000) {a:Nat} (ha:a<l.length) {q p:Rat} (hs:small q) (hp:small p) (hq:In D' q) (hpD:In D' p) (q0:0≤q) (qp:q≤p) (p1:p≤lenR l) (K:Int→Int→Int→Prop) :
   ycq (l.getD a default).len (ints (l.getD a default).cuts) (ints (l.getD a default).dens) q.num q.den p.num p.den K=K (vXA l a p-vXA l a q).num (vXA l a p-vXA l a q).den 0:=by
 have hok:=hd.ok a ha
 have hlen:=hd.len a ha
 have p1':p≤((l.getD a default).len:Rat):=by rw [hlen];exact p1
 have e:valR (l.getD a default).len (l.getD a default).cuts (l.getD a default).dens q.num q.den p.num p.den=.ok (vXA l a p-vXA l a q):=by
   unfold valR
   rw [if_pos hok.ck,ygz,ygz,if_pos ⟨yAW hs q0 (Rat.le_trans qp p1'),yAW hp (Rat.le_trans q0 qp) p1',Rat.not_lt.2 qp⟩]
   exact ywJ hok hD hq hpD q0 qp p1'
 rw [yE0 (by have:=(hd.fin a ha).1;omega) (by have:=(hd.fin a ha).2;omega) hs.i1 hs.i2 hp.i1 hp.i2,e]
 rfl
theorem yGP (hd:DK l) {x o t k L D'} (hD:1≤D'∧D'≤100000000) (h:TW l x o t k L D') {a0 a1 a2} {x0 x1} (c:Nat) (hx:∀ (l0:List PV),x0 l0 (cks l) (pcs l.length x.1) (tns x.1) (t l.length).num (t l.length).den l.length l.length c (l.length:Int) false) :
   ∀ (r i n:Nat) (had:List PV),i+r=l.length→r<n→had.length=l.length→(∀ a,a<l.length→List.getD had a .nils=.bool (decide (o.idxOf a<i))) →
     ybz a0 a1 a2 yef ycq ydB x0 x1 n had (cks l) (pcs l.length x.1) (tns x.1) (t i).num (t i).den l.length l.length c (i:Int)
 | 0,i,n,had,hi,hn,hl,hh=>by
   obtain ⟨n,rfl⟩:∃ k,n=k+1:=⟨n-1,by omega⟩
   have ol:=h.len
   have n0:=hd.n0
   have tl:(tns x.1).length=l.length:=by rw [yhn,h.tn,List.nil_append,ytg];omega
   obtain rfl:i=l.length:=by omega
   unfold ybz
   rw [tl,cbF (by omega)]
   exact hx had
 | r+1,i,n,had,hi,hn,hl,hh=>by
   obtain ⟨n,rfl⟩:∃ k,n=k+1:=⟨n-1,by omega⟩
   have n0:=hd.n0;have n6:=hd.n6
   have ol:=h.len
   have hi':i<l.length:=by omega
   have tl:(tns x.1).length=l.length:=by rw [yhn,h.tn,List.nil_append,ytg];omega
   have e1:=wib (n:=(i:Int)+1) (by omega) (by omega)
   obtain ⟨k1,k2⟩:=TW.idx n0 h hi'
   have L0:=TW.LD hd h
   have hp:=TW.pieces hd h
   have hA:=(L0.at_ _ k1).2
   rw [k2] at hA
   have hAl:=L0.l
   have hsh:=(TW.share hd h hi').2
   have hkb:=h.kb i (by omega)
   have hf:List.getD had (o.getD i 0) .nils=.bool false:=by rw [hh _ k1,k2,decide_eq_false (by omega)]
   have hR:List.getD (pcs l.length x.1) (o.getD i 0) .nils=.data (rsp [(t i,t (i+1))]):=by rw [hp,yHQ (by omega),hA]
   have hpl:(pcs l.length x.1).length=l.length:=yeV _ _
   have b1:=L0.bound (j:=i) (by omega)
   have b2:=L0.bound (j:=i+1) (by omega)
   have hv:=fun K=>yFa hd (D':=D') ⟨by omega,by omega⟩ k1 (h.sm i (by omega)) (h.sm (i+1) (by omega)) (h.inD i (by omega)) (h.inD (i+1) (by omega)) b1.1 (Rat.le_of_lt (h.lt i (by omega))) b2.2 K
   have ih:=yGP hd hD h (a0:=a0) (a1:=a1) (a2:=a2) (x0:=x0) (x1:=x1) c hx r (i+1) n (had.set (o.getD i 0) (.bool true)) (by omega) (by omega) (by rw [List.length_set];exact hl) (fun a ha=>by
     by_cases e:o.getD i 0=a
     · subst e
       rw [List.getD_eq_getElem?_getD,List.getElem?_set_self (by omega),k2,decide_eq_true (by omega)]
       rfl
     · rw [List.getD_eq_getElem?_getD,List.getElem?_set_ne e,← List.getD_eq_getElem?_getD,hh a ha]
       have:o.idxOf a≠i:=fun e2=>e (by have:=(TW.at n0 h ha).2;rw [e2] at this;exact this)
       congr 1
       by_cases h2:o.idxOf a<i
       · rw [decide_eq_true h2,decide_eq_true (by omega)]
       · rw [decide_eq_false h2,decide_eq_false (by omega)])
   have eb:∀ u v:Int,(!((u == u)&&((v == v)&&true)))=false:=fun u v=>by simp
   have eb4:∀ u v y z:Int,(!((u == u)&&((v == v)&&((y == y)&&((z == z)&&true)))))=false:=fun u v y z=>by simp
   have hr1:(rsp [(t i,t (i+1))]).length=1:=rfl
   have asB:∀ {b:Bool} {P:Prop},asr (conf (.one .b) (.bool b)) P=P:=rfl
   unfold ybz
   simp only [Go.Pf.jn,lt]
   rw [tl,cbT (by omega),asT (by omega),asT (by omega),Int.toNat_natCast,yHU n0 h hi',asTn]
   rw [tn0,tn1,tn2,tn3,tn4,tn5]
   rw [cbF (by omega),yaX,cbF (by omega),asT (by omega),asT (by omega),asT hl,Nat.zero_add,Int.toNat_natCast,asT (by omega),hf,asB]
   show cbr false _ _
   rw [yaa,eb,yaa,cbF (by omega)]
   have ew:IntKind.i64.wrap (IntKind.i64.wrap ((l.length:Int)-1)-i)=(l.length:Int)-1-i:=by
     rw [wib (n:=(l.length:Int)-1) (by omega) (by omega),wib (by omega) (by omega)]
   rw [ew,cbF (by omega),asT (by omega),hpl,asT (by omega),hR,asD,datD,hr1,cnF (show ((1:Nat):Int)=1 from rfl),asT (by omega),asT (by omega),asD,asT (show (0:Int)<((1:Nat):Int) by decide)]
   show asr true _
   rw [yan]
   show cbr (!(((t i).num ==(t i).num)&&((((t i).den:Int) ==((t i).den:Int))&&(((t (i+1)).num ==(t (i+1)).num)&&((((t (i+1)).den:Int) ==((t (i+1)).den:Int))&&true))))) _ _
   rw [eb4,yaa,asT (by omega),asT (by omega),asT hl,asT (by omega),asB,asT (by omega),asT (by omega),yeJ k1,asCk,ck0,ck1,ck2,hv,cnF rfl,e1]
   by_cases hlt:i+1<l.length
   · rw [cbT (by omega),yE7 hd k1,hsh hlt]
     show cbr (!(((shN l (o.getD i 0)).num ==(shN l (o.getD i 0)).num)&&((((shN l (o.getD i 0)).den:Int) ==((shN l (o.getD i 0)).den:Int))&&true))) _ _
     rw [eb,yaa]
     exact ih
   · rw [cbF (by omega)]
     show cbr false _ _
     rw [yaa]
     exact ih
end
theorem yyV {l:List Ck} (hl:l.length≤9223372036854775807):yeU (cks l) (fun b=>b=true):=by
 unfold yeU ygf
 rw [yHT hl]
 by_cases hf:(!ypg l&&decide (yem l 0=0))=true
 case neg =>
   rw [show (!ypg l&&decide (yem l 0=0))=false by simpa using hf]
   show yda _
   rw [ywR]
 rw [hf,show (!true)=false from rfl,yaa]
 simp only [Bool.and_eq_true,Bool.not_eq_true',decide_eq_true_eq] at hf
 obtain ⟨hg,hz⟩:=hf
 obtain ⟨g1,g2,g3⟩:=yuX hg
 have hd:=(yh2 hz).1
 have n0:=hd.n0;have n6:=hd.n6
 obtain ⟨x,o,t,k,L,D',he,hD,h⟩:=yGM hd
 have ol:=h.len
 have tl:(tns x.1).length=l.length:=by rw [yhn,h.tn,List.nil_append,ytg];omega
 rw [yD6 g3 (by omega),he]
 have hm:=fun x0 x1=>yGP hd hD h (a0:=yge) (a1:=yda) (a2:=ybZ) (x0:=x0) (x1:=x1)
 obtain ⟨ts,lg⟩:=x
 dsimp only [Go.Pf.jn] at tl hm ⊢
 rw [cnF rfl,tl,yaX,cnF rfl,yeV]
 have eb:((l.length:Int) !=(l.length:Int))=false:=by simp
 rw [eb,yaa,rOf1,asT (by omega),asT (by omega),asT (by unfold room;omega)]
 refine ⟨l.length+1,?_⟩
 have ht0:(t 0).num=0∧(t 0).den=1:=by rw [h.t0];exact ⟨rfl,rfl⟩
 have hte:t l.length=lenR l:=by have:=h.te;rw [show l.length-1+1=l.length by omega] at this;exact this
 have hm2:=hm (fun _ c _ _ g j _ _ _ _ _=>(fun (e:Bool→Prop)=>asr (decide ((0:Int)<((c.length:Nat):Int))) ((fun f=>asr (conf (.agg [.i .i64,.d,.d]) f) (yef (yab (yai f 0)) fun m n=>cbr ((g == m)&&((j == n)&&true)) (yda fun p=>e p) (e false))) (List.getD c 0 .nils))) fun b=>b=true) (fun _ b=>b=true) l.length (fun l0=>by
   dsimp only
   rw [yaX,asT (by omega),yeJ (by omega),asCk,ck0,rOf1,hte]
   have e1:(lenR l).num=(l.getD 0 default).len:=Rat.num_intCast _
   have e2:(((lenR l).den:Nat):Int)=1:=by unfold lenR;rw [Rat.den_intCast];rfl
   rw [e1,e2]
   have eb:∀ u v:Int,((u == u)&&((v == v)&&true))=true:=fun u v=>by simp
   rw [eb,yac,ywR]) l.length 0 (l.length+1) (List.replicate l.length (.bool false)) (by omega) (by omega) List.length_replicate (fun a ha=>by
     rw [List.getD_eq_getElem?_getD,List.getElem?_replicate,if_pos ha,decide_eq_false (by omega)];rfl)
 rw [ht0.1,ht0.2] at hm2
 exact hm2
end Go.Pf.Vc
