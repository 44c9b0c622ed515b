/- Part 5 of what the statement rests on: a verified evaluator over pure values, the conditions of the program's functions, and their plain laws. -/
import Derived.Test.YtijdgcomldpncaaGreatTrW4
namespace Go.Pf.Vc
open Go Go.Pf
theorem yD2 {n d:Int} (hd:d≠0) (K:Int→Int→Int→Prop):outS (decide (n<0) != decide (d<0)) ((n.natAbs / Nat.gcd n.natAbs d.natAbs:Nat):Int) ((d.natAbs / Nat.gcd n.natAbs d.natAbs:Nat):Int) K=fitK ((n:Rat) / (d:Rat)) K:=by
 have e:(n:Rat) / (d:Rat)=mkRat (if d<0 then -n else n) d.natAbs:=by
   rw [Rat.mkRat_eq_div]
   split
   · rename_i h
     have h1:((d.natAbs:Nat):Int)=-d:=by omega
     have h2:((d.natAbs:Nat):Rat)=-(d:Rat):=by rw [← Rat.intCast_natCast,h1,Rat.intCast_neg]
     rw [h2,Rat.intCast_neg]
     have h3:(d:Rat)≠0:=fun e=>hd (Rat.intCast_eq_zero_iff.1 e)
     grind
   · rename_i h
     have h1:((d.natAbs:Nat):Int)=d:=by omega
     have h2:((d.natAbs:Nat):Rat)=(d:Rat):=by rw [← Rat.intCast_natCast,h1]
     rw [h2]
 have h0:d.natAbs≠0:=by omega
 have hab:(if d<0 then -n else n).natAbs=n.natAbs:=by split <;> omega
 rw [e]
 refine yxq ?_ ?_ ?_ K
 · rw [Rat.num_mkRat,if_neg h0,hab,Int.natAbs_ediv_of_dvd,Int.natAbs_natCast,hab,Nat.gcd_comm]
   rw [← Int.dvd_natAbs,Int.ofNat_dvd,hab];exact Nat.gcd_dvd_right _ _
 · rw [Rat.den_mkRat,if_neg h0,hab,Nat.gcd_comm]
 · rw [Rat.num_mkRat,if_neg h0,hab]
   have hdv:((Nat.gcd d.natAbs n.natAbs:Nat):Int)∣(if d<0 then -n else n):=by
     rw [← Int.dvd_natAbs,Int.ofNat_dvd,hab];exact Nat.gcd_dvd_right _ _
   have hp:0<Nat.gcd d.natAbs n.natAbs:=Nat.gcd_pos_of_pos_left _ (by omega)
   obtain ⟨k,hk⟩:=hdv
   rw [hk,Int.mul_ediv_cancel_left _ (by omega)]
   intro hk0
   generalize Nat.gcd d.natAbs n.natAbs=g at *
   have h1:(g:Int)*k<0↔k<0:=by
     constructor
     · intro hk;refine Int.not_le.1 fun hk2=>?_
       have:=Int.mul_nonneg (show 0≤(g:Int) by omega) hk2
       omega
     · intro hk;exact Int.mul_neg_of_pos_of_neg (by omega) hk
   have h2:(g:Int)*k≠0:=fun e=>by rcases Int.mul_eq_zero.1 e with e | e <;> omega
   by_cases hd2:d<0
   · rw [if_pos hd2] at hk
     by_cases hn:n<0
     · have:¬k<0:=by omega
       simp [hd2,hn,this]
     · have:k<0:=by omega
       simp [hd2,this];omega
   · rw [if_neg hd2] at hk
     by_cases hn:n<0
     · have:k<0:=by omega
       simp [hd2,hn,this]
     · have:¬k<0:=by omega
       simp [hd2,this];omega
theorem yJI {n d:Int} (hn:I64 n) (hd:I64 d) (h0:d≠0) (K:Int→Int→Int→Prop):yeb n d K=fitK ((n:Rat) / (d:Rat)) K :=
 ysD (fun r0 r1 r2 h K=>ywP _ _ r0 r1 r2 h K) (fun K k=>yKU hn hd (by rw [if_neg h0,yD2 h0];exact k)) K
def cmpQ (q r:Rat):Int:=if q<r then -1 else if r<q then 1 else 0
theorem yKX (q r:Rat):cmpR q.num q.den r.num r.den=cmpQ q r:=by
 unfold cmpR cmp3 cmpQ
 simp only [Rat.lt_iff]
theorem yHf {q r:Rat} (hq:yap q) (hr:yap r) (K:Int→Int→Prop):yd2 q.num q.den r.num r.den K=K (cmpQ q r) 0 :=
 yx3 _ _ _ _ _ _ (fun K k=>yMi hq.i1 hq.i2 hr.i1 hr.i2 (by rw [yef hq hr,if_pos rfl,yKX];exact k)) K
theorem yzp {n d:Int} (hn:I64 n) (hd:I64 d) (K:Int→Prop):ya0 n d K=K (chk n d) :=
 yuP _ _ _ (fun _ k=>yxo hn hd k) K
end Go.Pf.Vc
namespace Go.Pf.Vc
open Go Go.Pf
theorem ygx {p:Int} (h:I64 p) (K:Int→Prop):yfT p K=K (p.natAbs:Int):=by
 unfold I64 at h
 unfold yfT yqU
 by_cases hp:p<0
 · have e0:IntKind.i64.wrap (p+1)=p+1:=wi64 ⟨by omega,by omega⟩
   have e1:IntKind.i64.wrap ((0:Int)-(p+1))=-(p+1):=by rw [wi64 ⟨by omega,by omega⟩];omega
   have e2:IntKind.u64.wrap (-(p+1))=-(p+1):=wu64 ⟨by omega,by omega⟩
   have e3:IntKind.u64.wrap (-(p+1)+1)=(p.natAbs:Int):=by rw [wu64 ⟨by omega,by omega⟩];omega
   rw [decide_eq_true hp,yad,e0,e1,e2,e3]
 · rw [decide_eq_false hp,yaa,wu64 ⟨by omega,by omega⟩]
   congr 1
   omega
theorem yzq (x:Int→Int→Bool→Prop):∀ (n a b:Nat),b<n→yfs x n (a:Int) (b:Int)=x ((Nat.gcd a b:Nat):Int) 0 false
 | 0,a,b,h=>by omega
 | n+1,a,b,h=>by
   unfold yfs
   by_cases hb:b=0
   · subst hb
     simp [cbr]
   · have h1:((b:Int) != 0)=true:=by simp;omega
     have h2:¬((b:Int)=0):=by omega
     rw [h1,yad,decide_eq_false h2,Bool.not_false,yaj]
     have e:Int.tmod (a:Int) (b:Int)=((a % b:Nat):Int):=by rw [Int.tmod_eq_emod_of_nonneg (by omega)];omega
     rw [e,yzq x n b (a % b) (by have:=Nat.mod_lt a (show b>0 by omega);omega)]
     rw [Nat.gcd_comm a b,Nat.gcd_rec b a,Nat.gcd_comm]
theorem yoV (a b:Nat) (K:Int→Prop):ydd (a:Int) (b:Int) K=K ((Nat.gcd a b:Nat):Int):=by
 refine yDH _ _ _ (fun K h=>?_) K
 unfold ydd yqV
 exact ⟨b+1,by rw [yzq _ (b+1) a b (by omega)];exact h⟩
theorem yuz {a b:Int} (h:a=b):(a != b)=false:=by simp [h]
theorem yD3 {a b:Int} (h:a≠b):(a != b)=true:=by simp [h]
theorem yqf {a b:Int} (h:a≠b):(a == b)=false:=by simp [h]
theorem yHg {a b:Int} (h:a=b):(a == b)=true:=by simp [h]
theorem ykH {n d:Int} (hn:I64 n) (_:I64 d) (K:Int→Prop):ydv n d K=K (chk n d):=by
 unfold ydv ylS
 by_cases h1:d<1
 · rw [decide_eq_true h1,yad,chk,if_neg (fun h=>by have:=h.1;omega)]
 · rw [decide_eq_false h1,yaa]
   by_cases h2:d>1000000000000000000
   · rw [decide_eq_true h2,yad,chk,if_neg (fun h=>by have:=h.2.1;omega)]
   · rw [decide_eq_false h2,yaa]
     by_cases h3:n < -1000000000000000000
     · rw [decide_eq_true h3,yad,chk,if_neg (fun h=>by have:=h.2.2.1;omega)]
     · rw [decide_eq_false h3,yaa]
       by_cases h4:n>1000000000000000000
       · rw [decide_eq_true h4,yad,chk,if_neg (fun h=>by have:=h.2.2.2.1;omega)]
       · have ed:IntKind.u64.wrap d=((d.natAbs:Nat):Int):=by rw [wu64 ⟨by omega,by omega⟩];omega
         rw [decide_eq_false h4,yaa,ygx hn,ed,yoV]
         by_cases h5:Nat.gcd n.natAbs d.natAbs=1
         · rw [h5,yuz (by rfl),yaa,chk,if_pos ⟨by omega,by omega,by omega,by omega,h5⟩]
         · rw [yD3 (by omega),yad,chk,if_neg (fun h=>h5 h.2.2.2.2)]
theorem ysE {a b c d:Int} (ha:I64 a) (hb:I64 b) (hc:I64 c) (hd:I64 d) (K:Int→Prop):yfF a b c d K=K (chk2 a b c d):=by
 unfold yfF ynQ
 rw [ykH ha hb,ykH ha hb,ykH hc hd,chk2]
 by_cases h:chk a b=0
 · rw [yuz h,yaa,if_pos h]
 · rw [yD3 h,yad,if_neg h]
theorem or32 {m s:Int} (_:0≤m) (hs:0≤s∧s<4294967296):IntKind.u64.wrap (BitVec.ofInt IntKind.u64.bits (IntKind.u64.wrap (m*4294967296))|||BitVec.ofInt IntKind.u64.bits s).toNat=m % 4294967296*4294967296+s:=by
 have e:IntKind.u64.wrap (m*4294967296)=m % 4294967296*2 ^ 32:=by rw [yhM];omega
 rw [e,yJz (k:=32) (by omega) ⟨hs.1,by omega⟩ ⟨by omega,by omega⟩ (by omega)]
 omega
theorem yJJ {a b:Int} (ha:U64 a) (hb:U64 b) (K:Int→Int→Prop):yd3 a b K=K (a*b / 18446744073709551616) (a*b % 18446744073709551616):=by
 unfold yd3 ylU
 simp only [yJw]
 rw [ymA ha,ymA hb]
 unfold U64 at ha hb
 have ha':=ha;have hb':=hb
 obtain ⟨x1,hx1⟩:∃ x,x=a / 4294967296:=⟨_,rfl⟩
 obtain ⟨x0,hx0⟩:∃ x,x=a % 4294967296:=⟨_,rfl⟩
 obtain ⟨y1,hy1⟩:∃ x,x=b / 4294967296:=⟨_,rfl⟩
 obtain ⟨y0,hy0⟩:∃ x,x=b % 4294967296:=⟨_,rfl⟩
 rw [← hx1,← hx0,← hy1,← hy0]
 have b1:0≤x1∧x1≤4294967295:=by omega
 have b2:0≤x0∧x0≤4294967295:=by omega
 have b3:0≤y1∧y1≤4294967295:=by omega
 have b4:0≤y0∧y0≤4294967295:=by omega
 have pb:∀ x y:Int,0≤x∧x≤4294967295→0≤y∧y≤4294967295→0≤x*y∧x*y≤18446744065119617025:=by
   intro x y hx hy
   refine ⟨Int.mul_nonneg hx.1 hy.1,?_⟩
   have:=Int.mul_le_mul hx.2 hy.2 hy.1 (by omega:(0:Int)≤4294967295)
   omega
 have p1:=pb x1 y1 b1 b3
 have p2:=pb x1 y0 b1 b4
 have p3:=pb x0 y1 b2 b3
 have p4:=pb x0 y0 b2 b4
 have ea:a=x1*4294967296+x0:=by omega
 have eb:b=y1*4294967296+y0:=by omega
 have eab:a*b=x1*y1*18446744073709551616+x1*y0*4294967296+x0*y1*4294967296+x0*y0:=by
   rw [ea,eb];grind
 obtain ⟨P,hP⟩:∃ x,x=x1*y1:=⟨_,rfl⟩
 obtain ⟨Q,hQ⟩:∃ x,x=x1*y0:=⟨_,rfl⟩
 obtain ⟨R,hR⟩:∃ x,x=x0*y1:=⟨_,rfl⟩
 obtain ⟨S,hS⟩:∃ x,x=x0*y0:=⟨_,rfl⟩
 rw [← hP] at p1;rw [← hQ] at p2;rw [← hR] at p3;rw [← hS] at p4
 rw [← hP,← hQ,← hR,← hS] at eab ⊢
 have w1:IntKind.u64.wrap S=S:=wu64 ⟨by omega,by omega⟩
 have w2:IntKind.u64.wrap Q=Q:=wu64 ⟨by omega,by omega⟩
 have w3:IntKind.u64.wrap R=R:=wu64 ⟨by omega,by omega⟩
 have w4:IntKind.u64.wrap P=P:=wu64 ⟨by omega,by omega⟩
 rw [w1,w2,w3,w4,ymA (p:=Q) ⟨by omega,by omega⟩,ymA (p:=S) ⟨by omega,by omega⟩]
 have w5:IntKind.u64.wrap (Q % 4294967296+R)=Q % 4294967296+R:=wu64 ⟨by omega,by omega⟩
 rw [w5]
 have w6:IntKind.u64.wrap (Q % 4294967296+R+S / 4294967296)=Q % 4294967296+R+S / 4294967296:=wu64 ⟨by omega,by omega⟩
 rw [w6,or32 (by omega) ⟨by omega,by omega⟩]
 have hab:a*b≤18446744073709551615*18446744073709551615:=Int.mul_le_mul ha'.2 hb'.2 hb'.1 (by omega:(0:Int)≤18446744073709551615)
 rw [eab] at hab ⊢
 have w7:IntKind.u64.wrap (P+Q / 4294967296)=P+Q / 4294967296:=wu64 ⟨by omega,by omega⟩
 rw [w7,wu64 ⟨by omega,by omega⟩]
 congr 1 <;> omega
theorem yBJ {X Y:Int} (hx:0≤X) (hy:0≤Y) (hs:X+Y<340282366920938463463374607431768211456) (K:Int→Int→Prop) :
   ydB (X / 18446744073709551616) (X % 18446744073709551616) (Y / 18446744073709551616) (Y % 18446744073709551616) K=K ((X+Y) / 18446744073709551616) ((X+Y) % 18446744073709551616):=by
 unfold ydB ynR
 rw [yhM,yhM,yhM]
 by_cases h:(X % 18446744073709551616+Y % 18446744073709551616) % 18446744073709551616<X % 18446744073709551616
 · rw [decide_eq_true h,yad]
   congr 1 <;> omega
 · rw [decide_eq_false h,yaa]
   congr 1 <;> omega
theorem yD4 {X Y:Int} (hy:0≤Y) (hs:Y≤X) (hx:X<340282366920938463463374607431768211456) (K:Int→Int→Prop) :
   yfU (X / 18446744073709551616) (X % 18446744073709551616) (Y / 18446744073709551616) (Y % 18446744073709551616) K=K ((X-Y) / 18446744073709551616) ((X-Y) % 18446744073709551616):=by
 unfold yfU yhY
 rw [yhM,yhM,yhM]
 by_cases h:X % 18446744073709551616<Y % 18446744073709551616
 · rw [decide_eq_true h,yad]
   congr 1 <;> omega
 · rw [decide_eq_false h,yaa]
   congr 1 <;> omega
theorem ysF {X Y:Int} (_:0≤X) (_:0≤Y) (K:Bool→Prop) :
   yiP (X / 18446744073709551616) (X % 18446744073709551616) (Y / 18446744073709551616) (Y % 18446744073709551616) K=K (decide (X<Y)):=by
 unfold yiP ynO
 by_cases h:X / 18446744073709551616<Y / 18446744073709551616
 · rw [decide_eq_true h,yad,decide_eq_true (by omega)]
 · rw [decide_eq_false h,yaa]
   by_cases h2:X / 18446744073709551616=Y / 18446744073709551616
   · rw [yHg h2,yad]
     congr 1
     rw [decide_eq_decide];omega
   · rw [yqf h2,yaa,decide_eq_false (by omega)]
theorem yMQ {i:Int} (h:0≤i∧i≤127):IntKind.i64.wrap (BitVec.ofInt IntKind.i64.bits i&&&BitVec.ofInt IntKind.i64.bits (63:Int)).toNat=i % 64:=by
 have e1:(BitVec.ofInt 64 i).toNat=i.toNat:=by
   rw [BitVec.toNat_ofInt];omega
 have e2:(BitVec.ofInt 64 (63:Int)).toNat=63:=rfl
 have e3:(BitVec.ofInt IntKind.i64.bits i&&&BitVec.ofInt IntKind.i64.bits (63:Int)).toNat=i.toNat % 64:=by
   show (BitVec.ofInt 64 i&&&BitVec.ofInt 64 (63:Int)).toNat=_
   rw [BitVec.toNat_and,e1,e2]
   exact Nat.and_two_pow_sub_one_eq_mod i.toNat 6
 rw [e3,wi64 ⟨by omega,by omega⟩]
 omega
theorem and1 {p:Int} (h:U64 p):IntKind.u64.wrap (BitVec.ofInt IntKind.u64.bits p&&&BitVec.ofInt IntKind.u64.bits (1:Int)).toNat=p % 2:=by
 unfold U64 at h
 have e1:(BitVec.ofInt 64 p).toNat=p.toNat:=by
   rw [BitVec.toNat_ofInt];omega
 have e2:(BitVec.ofInt 64 (1:Int)).toNat=1:=rfl
 have e3:(BitVec.ofInt IntKind.u64.bits p&&&BitVec.ofInt IntKind.u64.bits (1:Int)).toNat=p.toNat % 2:=by
   show (BitVec.ofInt 64 p&&&BitVec.ofInt 64 (1:Int)).toNat=_
   rw [BitVec.toNat_and,e1,e2]
   exact Nat.and_two_pow_sub_one_eq_mod p.toNat 1
 rw [e3,yhM]
 omega
theorem or1 {m s:Int} (hm:0≤m∧m≤9223372036854775807) (hs:0≤s∧s<2):IntKind.u64.wrap (BitVec.ofInt IntKind.u64.bits (m*2)|||BitVec.ofInt IntKind.u64.bits s).toNat=m*2+s:=by
 have:=yJz (a:=m) (b:=s) (k:=1) hm.1 ⟨hs.1,by omega⟩ ⟨by omega,by omega⟩ (by omega)
 simpa using this
theorem yoq (i:Nat):(2:Int) ^ i=((2 ^ i:Nat):Int):=by rw [Int.natCast_pow];rfl
theorem yKY {W:Nat} (hW:W=2 ^ 64) {A:Int} (hA:0≤A) {i:Nat} (hi:i<64):A % (W:Int) / (2 ^ i:Int) % ((2:Nat):Int)=A / (2 ^ i:Int) % ((2:Nat):Int):=by
 obtain ⟨a,rfl⟩:∃ a:Nat,A=a:=⟨A.toNat,by omega⟩
 have:(a % W / 2 ^ i % 2:Nat)=a / 2 ^ i % 2:=by
   have e:W=2 ^ i*2 ^ (64-i):=by rw [← Nat.pow_add];rw [show i+(64-i)=64 by omega,hW]
   rw [e,Nat.mod_mul_right_div_self]
   have e2:2 ^ (64-i)=2*2 ^ (63-i):=by rw [show 64-i=(63-i)+1 by omega,Nat.pow_succ,Nat.mul_comm]
   rw [e2,Nat.mod_mul_right_mod]
 rw [yoq,← Int.natCast_emod,← Int.natCast_ediv,← Int.natCast_emod,← Int.natCast_ediv,← Int.natCast_emod,this]
theorem yMp {A:Int} (hA:0≤A) {i:Nat} (hi:i<64):A % 18446744073709551616 / (2 ^ i:Int) % 2=A / (2 ^ i:Int) % 2:=yKY (W:=18446744073709551616) rfl hA hi
theorem yKZ {W:Nat} (hW:W=2 ^ 64) {A:Int} (hA:0≤A) {i:Nat} (hi:64≤i):A / (W:Int) / (2 ^ (i-64):Int)=A / (2 ^ i:Int):=by
 obtain ⟨a,rfl⟩:∃ a:Nat,A=a:=⟨A.toNat,by omega⟩
 have:(a / W / 2 ^ (i-64):Nat)=a / 2 ^ i:=by
   have e:(2 ^ i:Nat)=W*2 ^ (i-64):=by
     rw [hW,← Nat.pow_add,show 64+(i-64)=i by omega]
   rw [e,Nat.div_div_eq_div_mul]
 rw [yoq,yoq,← Int.natCast_ediv,← Int.natCast_ediv,← Int.natCast_ediv,this]
theorem yMq {A:Int} (hA:0≤A) {i:Nat} (hi:64≤i):A / 18446744073709551616 / (2 ^ (i-64):Int)=A / (2 ^ i:Int):=yKZ (W:=18446744073709551616) rfl hA hi
theorem yJK {d B q r b:Int} (hd:0<d) (hq:B / d=q) (hr:B % d=r) (hb:0≤b∧b≤1) :
   (2*B+b) / d=(if 2*r+b≥d then 2*q+1 else 2*q)∧(2*B+b) % d=(if 2*r+b≥d then 2*r+b-d else 2*r+b):=by
 have h1:=Int.mul_ediv_add_emod B d
 have h2:=Int.emod_nonneg B (show d≠0 by omega)
 have h3:=Int.emod_lt_of_pos B hd
 rw [hq,hr] at h1
 rw [hr] at h2 h3
 split
 · refine (Int.ediv_emod_unique hd).2 ⟨?_,by omega,by omega⟩
   grind
 · refine (Int.ediv_emod_unique hd).2 ⟨?_,by omega,by omega⟩
   grind
end Go.Pf.Vc
namespace Go.Pf.Vc
open Go Go.Pf
theorem yGe {A d:Int} (hA:0≤A∧A<340282366920938463463374607431768211456) (hd:0<d∧d<9223372036854775808) {x0:Int→Int→Int→Int→Int→Int→Int→Int→Int→Bool→Prop}
   (k0:x0 d (A / 18446744073709551616) (A % 18446744073709551616) 0 0 (A / d / 18446744073709551616) (A / d % 18446744073709551616) (A % d) (-1) false) :
   ∀ (k n:Nat),k≤128→k<n→yaY ydB x0 n d (A / 18446744073709551616) (A % 18446744073709551616) 0 0
     (A / 2 ^ k / d / 18446744073709551616) (A / 2 ^ k / d % 18446744073709551616) (A / 2 ^ k % d) ((k:Int)-1):=by
 intro k
 induction k with
 | zero =>
   intro n _ hn
   match n,hn with
   | n+1,_ =>
     unfold yaY
     rw [decide_eq_false (by omega),yaa]
     have e:A / 2 ^ 0=A:=by rw [Int.pow_zero,Int.ediv_one]
     rw [e]
     exact k0
 | succ k ih =>
   intro n hk hn
   match n,hn with
   | n+1,hn =>
     unfold yaY
     have e8:((k+1:Nat):Int)-1=(k:Int):=by omega
     rw [e8,decide_eq_true (by omega),yad]
     rw [yMQ (i:=(k:Int)) ⟨by omega,by omega⟩]
     have en:(!decide ((k:Int) % 64<0))=true:=by rw [decide_eq_false (by omega)];rfl
     have em:min ((k:Int) % 64).toNat IntKind.u64.bits=k % 64:=by show min _ 64=_;omega
     rw [en,yaj,yaj,em]
     have pp:∀ m:Nat,(0:Int)≤2 ^ m:=fun m=>by rw [yoq];exact Int.natCast_nonneg _
     have p1:∀ m:Nat,(0:Int)<2 ^ m:=fun m=>by rw [yoq];exact Int.natCast_pos.2 (Nat.two_pow_pos m)
     simp only [yuy _ _ (pp _)]
     have hC0:0≤A / 2 ^ k:=Int.ediv_nonneg hA.1 (pp _)
     have hCA:A / 2 ^ k≤A:=Int.ediv_le_self _ hA.1
     have hBC:A / 2 ^ (k+1)=A / 2 ^ k / 2:=by
       rw [Int.pow_succ,Int.ediv_ediv_of_nonneg (pp k)]
     obtain ⟨C,hC⟩:∃ C,C=A / 2 ^ k:=⟨_,rfl⟩
     have ih2:=ih n (by omega) (by omega)
     rw [← hC] at hC0 hCA hBC ih2
     rw [hBC]
     obtain ⟨b,hb⟩:∃ b,b=C % 2:=⟨_,rfl⟩
     have hCb:C=2*(C / 2)+b:=by omega
     obtain ⟨s1,s2⟩:=yJK (B:=C / 2) (b:=b) hd.1 rfl rfl ⟨by omega,by omega⟩
     rw [← hCb] at s1 s2
     have r0:=Int.emod_nonneg (C / 2) (show d≠0 by omega)
     have r1:=Int.emod_lt_of_pos (C / 2) hd.1
     have q0:0≤C / 2 / d:=Int.ediv_nonneg (by omega) (by omega)
     have q1:C / 2 / d≤C / 2:=Int.ediv_le_self _ (by omega)
     rw [s1,s2] at ih2
     obtain ⟨q,hq⟩:∃ q,q=C / 2 / d:=⟨_,rfl⟩
     obtain ⟨r,hr⟩:∃ r,r=C / 2 % d:=⟨_,rfl⟩
     rw [← hq,← hr] at ih2
     rw [← hq] at q0 q1
     rw [← hr] at r0 r1
     rw [← hq,← hr]
     have e2:IntKind.u64.wrap (r*2)=r*2:=wu64 ⟨by omega,by omega⟩
     rw [e2,wi64 (n:=(k:Int)-1) ⟨by omega,by omega⟩]
     rw [yBJ q0 q0 (by omega),yBJ q0 q0 (by omega)]
     have hlo:0≤A % 18446744073709551616 / 2 ^ (k % 64)∧A % 18446744073709551616 / 2 ^ (k % 64)≤18446744073709551615:=by
       refine ⟨Int.ediv_nonneg (by omega) (pp _),?_⟩
       have:=Int.ediv_le_self (a:=A % 18446744073709551616) (2 ^ (k % 64)) (by omega)
       omega
     have hhi:0≤A / 18446744073709551616 / 2 ^ (k % 64)∧A / 18446744073709551616 / 2 ^ (k % 64)≤18446744073709551615:=by
       refine ⟨Int.ediv_nonneg (by omega) (pp _),?_⟩
       have:=Int.ediv_le_self (a:=A / 18446744073709551616) (2 ^ (k % 64)) (by omega)
       omega
     rw [and1 hlo,and1 hhi]
     have go:∀ bb:Int,bb=b→cbr (decide (IntKind.u64.wrap (BitVec.ofInt IntKind.u64.bits (r*2)|||BitVec.ofInt IntKind.u64.bits bb).toNat≥d))
         (yaY ydB x0 n d (A / 18446744073709551616) (A % 18446744073709551616) 0 0 ((q+q) / 18446744073709551616) (IntKind.u64.wrap (BitVec.ofInt IntKind.u64.bits ((q+q) % 18446744073709551616)|||BitVec.ofInt IntKind.u64.bits (1:Int)).toNat) (IntKind.u64.wrap ((IntKind.u64.wrap (BitVec.ofInt IntKind.u64.bits (r*2)|||BitVec.ofInt IntKind.u64.bits bb).toNat)-d)) ((k:Int)-1))
         (yaY ydB x0 n d (A / 18446744073709551616) (A % 18446744073709551616) 0 0 ((q+q) / 18446744073709551616) ((q+q) % 18446744073709551616) (IntKind.u64.wrap (BitVec.ofInt IntKind.u64.bits (r*2)|||BitVec.ofInt IntKind.u64.bits bb).toNat) ((k:Int)-1)):=by
       intro bb hbb
       rw [hbb,or1 ⟨r0,by omega⟩ ⟨by omega,by omega⟩]
       by_cases hge:2*r+b≥d
       · rw [if_pos hge,if_pos hge] at ih2
         rw [decide_eq_true (show r*2+b≥d by omega),yad,wu64 (n:=r*2+b-d) ⟨by omega,by omega⟩]
         have e3:(q+q) % 18446744073709551616=((q % 9223372036854775808)*2):=by omega
         rw [e3,or1 ⟨by omega,by omega⟩ ⟨by omega,by omega⟩]
         have e4:(q+q) / 18446744073709551616=(2*q+1) / 18446744073709551616:=by omega
         have e5:q % 9223372036854775808*2+1=(2*q+1) % 18446744073709551616:=by omega
         rw [e4,e5,show r*2+b-d=2*r+b-d by omega]
         exact ih2
       · rw [if_neg hge,if_neg hge] at ih2
         rw [decide_eq_false (show ¬r*2+b≥d by omega),yaa,show q+q=2*q by omega,show r*2+b=2*r+b by omega]
         exact ih2
     by_cases h64:(k:Int)≥64
     · rw [decide_eq_true h64,yad]
       refine go _ ?_
       rw [show k % 64=k-64 by omega,yMq hA.1 (by omega),← hC,hb]
     · rw [decide_eq_false h64,yaa]
       refine go _ ?_
       rw [show k % 64=k by omega,yMp hA.1 (by omega),← hC,hb]
theorem yJL {A d:Int} (hA:0≤A∧A<340282366920938463463374607431768211456) (hd:0<d∧d<9223372036854775808) (K:Int→Int→Int→Prop) :
   ydw (A / 18446744073709551616) (A % 18446744073709551616) d K=K (A / d / 18446744073709551616) (A / d % 18446744073709551616) (A % d):=by
 refine yyo _ _ _ _ _ _ (fun K h=>?_) K
 unfold ydw ylW
 refine ⟨129,?_⟩
 have e:=yGe (x0:=fun f g i j k a b c l m=>K a b c) hA hd h 128 129 (by omega) (by omega)
 have z:A / 2 ^ 128=0:=Int.ediv_eq_zero_of_lt hA.1 hA.2
 rw [z,Int.zero_ediv,Int.zero_emod] at e
 exact e
theorem yBK {s:Bool} {X Y:Int} (hx:0≤X) (hy:0≤Y) (K:Int→Int→Int→Prop) :
   yfE s (X / 18446744073709551616) (X % 18446744073709551616) (Y / 18446744073709551616) (Y % 18446744073709551616) K=outS s X Y K:=by
 unfold yfE ynL outS
 by_cases h:X≤1000000000000000000∧Y≤1000000000000000000
 · have e1:IntKind.i64.wrap (X % 18446744073709551616)=X:=by rw [show X % 18446744073709551616=X by omega,wi64 ⟨by omega,by omega⟩]
   have e2:IntKind.i64.wrap (Y % 18446744073709551616)=Y:=by rw [show Y % 18446744073709551616=Y by omega,wi64 ⟨by omega,by omega⟩]
   rw [if_pos h,decide_eq_false (by omega),yaa,decide_eq_false (by omega),yaa,decide_eq_false (by omega),yaa,decide_eq_false (by omega),yaa,e1,e2]
   cases s
   · rw [yaa];rfl
   · rw [yad,wi64 ⟨by omega,by omega⟩,Int.zero_sub];rfl
 · rw [if_neg h]
   by_cases h1:X / 18446744073709551616>0
   · rw [decide_eq_true h1,yad]
   · rw [decide_eq_false h1,yaa]
     by_cases h2:Y / 18446744073709551616>0
     · rw [decide_eq_true h2,yad]
     · rw [decide_eq_false h2,yaa]
       by_cases h3:X % 18446744073709551616>1000000000000000000
       · rw [decide_eq_true h3,yad]
       · rw [decide_eq_false h3,yaa,decide_eq_true (by omega),yad]
end Go.Pf.Vc
namespace Go.Pf.Vc
open Go Go.Pf
theorem yor {g:Int} (h:g≠0) {P:Prop}:asr (!(decide (g=(0:Int)))) P=P:=by
 rw [decide_eq_false h];rfl
theorem wuN {n:Nat} (h:(n:Int)≤18446744073709551615):IntKind.u64.wrap (n:Int)=n:=wu64 ⟨by omega,h⟩
theorem yxr (a b:Nat):Int.tdiv (a:Int) (b:Int)=((a / b:Nat):Int):=by
 rw [Int.tdiv_eq_ediv_of_nonneg (by omega),Int.natCast_ediv]
theorem yzr {A d:Nat} (hA:A<340282366920938463463374607431768211456) (hd:0<d∧d<9223372036854775808) (K:Int→Int→Int→Prop) :
   ydw ((A:Int) / 18446744073709551616) ((A:Int) % 18446744073709551616) d K=K (((A / d:Nat):Int) / 18446744073709551616) (((A / d:Nat):Int) % 18446744073709551616) ((A % d:Nat):Int):=by
 rw [yJL ⟨by omega,by omega⟩ ⟨by omega,by omega⟩,Int.natCast_ediv,Int.natCast_emod]
theorem ygW {a b:Nat} (ha:a≤18446744073709551615) (hb:b≤18446744073709551615) (K:Int→Int→Prop) :
   yd3 (a:Int) (b:Int) K=K (((a*b:Nat):Int) / 18446744073709551616) (((a*b:Nat):Int) % 18446744073709551616):=by
 rw [yJJ ⟨by omega,by omega⟩ ⟨by omega,by omega⟩,Int.natCast_mul]
theorem yIh {a b c d:Int} {K:Int→Int→Prop} {Z:Prop} (h:∀ u v,K u v=Z):yfU a b c d K=Z:=by
 unfold yfU yhY
 simp only [h]
 by_cases e:b<d
 · rw [decide_eq_true e,yad]
 · rw [decide_eq_false e,yaa]
theorem yK0 {s:Bool} {Z p1 p3 g:Nat} (hZ:Z<340282366920938463463374607431768211456) (hg:0<g) (g1:g≤1000000000000000000) (h1:p1≤1000000000000000000) (h3:p3≤1000000000000000000) (K:Int→Int→Int→Prop) :
   cbr (((Z:Int) / 18446744073709551616 ==(0:Int))&&(((Z:Int) % 18446744073709551616 ==(0:Int))&&true)) (K 0 1 0)
     (ydw ((Z:Int) / 18446744073709551616) ((Z:Int) % 18446744073709551616) (g:Int) (fun _ _ b =>
       (ydd b (g:Int) (fun a =>
         (ydw ((Z:Int) / 18446744073709551616) ((Z:Int) % 18446744073709551616) a (fun c d _ =>
           (asr (!(decide ((g:Int)=(0:Int)))) (asr (!(decide (a=(0:Int))))
             (yd3 (IntKind.u64.wrap (Int.tdiv (IntKind.u64.wrap (p1:Int)) (g:Int))) (IntKind.u64.wrap (Int.tdiv (IntKind.u64.wrap (p3:Int)) a)) (fun f h =>
               (yfE s c d f h (fun i j k=>K i j k))))))))))))=outA s (Z:Int) p1 p3 g K:=by
 unfold outA
 by_cases h0:Z=0
 · subst h0;rfl
 · have e:(((Z:Int) / 18446744073709551616 ==(0:Int))&&(((Z:Int) % 18446744073709551616 ==(0:Int))&&true))=false:=by
     by_cases e1:(Z:Int) / 18446744073709551616=0
     · rw [yHg e1,yqf (by omega)];rfl
     · rw [yqf e1];rfl
   have hg0:0<Nat.gcd Z g:=Nat.gcd_pos_of_pos_right _ hg
   have hgg:Nat.gcd Z g≤g:=Nat.gcd_le_right _ hg
   have eg:Nat.gcd (Z % g) g=Nat.gcd Z g:=by rw [Nat.gcd_comm Z g,Nat.gcd_rec g Z]
   have q1:p1 / g≤p1:=Nat.div_le_self _ _
   have q3:p3 / Nat.gcd Z g≤p3:=Nat.div_le_self _ _
   rw [e,yaa,if_neg (by omega),yzr hZ ⟨hg,by omega⟩]
   simp only [yoV,eg]
   rw [yzr hZ ⟨hg0,by omega⟩,yor (by omega),yor (by omega),wuN (by omega),wuN (by omega),yxr,yxr,wuN (by omega),wuN (by omega),ygW (by omega) (by omega)]
   rw [yBK (Int.natCast_nonneg _) (Int.natCast_nonneg _)]
   simp only [Int.toNat_natCast]
theorem yJM {n d:Int} (hn:I64 n) (hd:I64 d) (h0:d≠0) (K:Int→Int→Int→Prop):ylR n d K=fitK ((n:Rat) / (d:Rat)) K:=by
 unfold ylR ynN
 have hn':=hn;have hd':=hd
 unfold I64 at hn' hd'
 have g0:0<Nat.gcd n.natAbs d.natAbs:=Nat.gcd_pos_of_pos_right _ (by omega)
 have q1:n.natAbs / Nat.gcd n.natAbs d.natAbs≤n.natAbs:=Nat.div_le_self _ _
 have q2:d.natAbs / Nat.gcd n.natAbs d.natAbs≤d.natAbs:=Nat.div_le_self _ _
 have hp:∀ x:Nat,(0:Int)≤x:=Int.natCast_nonneg
 rw [yqf h0,yaa,ygx hn,ygx hd,yoV,yor (by omega),yor (by omega),yxr,yxr,← yD2 h0]
 obtain ⟨x,hx⟩:∃ x,x=n.natAbs / Nat.gcd n.natAbs d.natAbs:=⟨_,rfl⟩
 obtain ⟨y,hy⟩:∃ y,y=d.natAbs / Nat.gcd n.natAbs d.natAbs:=⟨_,rfl⟩
 rw [← hx] at q1 ⊢
 rw [← hy] at q2 ⊢
 rw [wuN (by omega),wuN (by omega)]
 have m:=yBK (s:=(decide (n<0) != decide (d<0))) (X:=(x:Int)) (Y:=(y:Int)) (by omega) (by omega) K
 rw [← m]
 have e1:(x:Int) / 18446744073709551616=0:=by omega
 have e2:(x:Int) % 18446744073709551616=x:=by omega
 have e3:(y:Int) / 18446744073709551616=0:=by omega
 have e4:(y:Int) % 18446744073709551616=y:=by omega
 rw [e1,e2,e3,e4]
theorem yvG {q r:Rat} (hq:yap q) (hr:yap r) (K:Int→Int→Int→Prop):yde q.num q.den r.num r.den K=fitK (q+r) K:=by
 unfold yde yqY
 rw [ysE hq.i1 hq.i2 hr.i1 hr.i2,yef hq hr,yuz rfl,yaa,← yBH]
 obtain ⟨a1,a2,a3⟩:=hq
 obtain ⟨b1,b2,b3⟩:=hr
 have dq:=q.den_pos
 have dr:=r.den_pos
 have g0:0<Nat.gcd q.den r.den:=Nat.gcd_pos_of_pos_left _ dq
 have gl:Nat.gcd q.den r.den≤q.den:=Nat.gcd_le_left _ dq
 have w1:ydd (IntKind.u64.wrap (q.den:Int)) (IntKind.u64.wrap (r.den:Int))=ydd (q.den:Int) (r.den:Int):=by rw [wuN (by omega),wuN (by omega)]
 rw [w1,yoV,ygx ⟨by omega,by omega⟩,yor (by omega)]
 show _=outA (decide (q.num*((r.den:Int) / (Nat.gcd q.den r.den:Nat))+r.num*((q.den:Int) / (Nat.gcd q.den r.den:Nat))<0)) ((q.num*((r.den:Int) / (Nat.gcd q.den r.den:Nat))+r.num*((q.den:Int) / (Nat.gcd q.den r.den:Nat))).natAbs:Int) q.den r.den (Nat.gcd q.den r.den) K
 obtain ⟨g,hg⟩:∃ g,g=Nat.gcd q.den r.den:=⟨_,rfl⟩
 rw [← hg] at g0 gl ⊢
 have q3:r.den / g≤r.den:=Nat.div_le_self _ _
 have q4:q.den / g≤q.den:=Nat.div_le_self _ _
 have t1:IntKind.u64.wrap (Int.tdiv (IntKind.u64.wrap (r.den:Int)) (g:Int))=((r.den / g:Nat):Int):=by rw [wuN (by omega),yxr,wuN (by omega)]
 have t2:IntKind.u64.wrap (Int.tdiv (IntKind.u64.wrap (q.den:Int)) (g:Int))=((q.den / g:Nat):Int):=by rw [wuN (by omega),yxr,wuN (by omega)]
 rw [t1,ygW (by omega) (by omega)]
 rw [ygx ⟨by omega,by omega⟩,yor (by omega),t2,ygW (by omega) (by omega)]
 rw [← Int.natCast_ediv,← Int.natCast_ediv]
 obtain ⟨x,hx⟩:∃ x,x=r.den / g:=⟨_,rfl⟩
 obtain ⟨y,hy⟩:∃ y,y=q.den / g:=⟨_,rfl⟩
 rw [← hx] at q3 ⊢
 rw [← hy] at q4 ⊢
 have X1:q.num.natAbs*x≤1000000000000000000*1000000000000000000:=Nat.mul_le_mul (by omega) (by omega)
 have Y1:r.num.natAbs*y≤1000000000000000000*1000000000000000000:=Nat.mul_le_mul (by omega) (by omega)
 have ax:q.num*(x:Int)=if q.num<0 then -((q.num.natAbs*x:Nat):Int) else ((q.num.natAbs*x:Nat):Int):=by
   rw [Int.natCast_mul]
   split
   · rw [show ((q.num.natAbs:Nat):Int)=-q.num by omega,Int.neg_mul,Int.neg_neg]
   · rw [show ((q.num.natAbs:Nat):Int)=q.num by omega]
 have cy:r.num*(y:Int)=if r.num<0 then -((r.num.natAbs*y:Nat):Int) else ((r.num.natAbs*y:Nat):Int):=by
   rw [Int.natCast_mul]
   split
   · rw [show ((r.num.natAbs:Nat):Int)=-r.num by omega,Int.neg_mul,Int.neg_neg]
   · rw [show ((r.num.natAbs:Nat):Int)=r.num by omega]
 rw [ax,cy]
 obtain ⟨X,hX⟩:∃ X,X=q.num.natAbs*x:=⟨_,rfl⟩
 obtain ⟨Y,hY⟩:∃ Y,Y=r.num.natAbs*y:=⟨_,rfl⟩
 rw [← hX] at X1 ⊢
 rw [← hY] at Y1 ⊢
 rw [yBJ (by omega) (by omega) (by omega)]
 have fin:=fun (s:Bool) (Z:Nat) (hZ:Z<340282366920938463463374607431768211456)=>yK0 (s:=s) (Z:=Z) (p1:=q.den) (p3:=r.den) (g:=g) hZ g0 (by omega) (by omega) (by omega) K
 simp only [t2,← hy] at fin
 have cong:∀ (s s':Bool) (Z Z':Int),Z=Z'→(Z≠0→s=s')→outA s Z q.den r.den g K=outA s' Z' q.den r.den g K:=by
   intro s s' Z Z' h1 h2
   subst h1
   by_cases h:Z=0
   · unfold outA;rw [if_pos h,if_pos h]
   · rw [h2 h]
 by_cases hs:decide (q.num<0)=decide (r.num<0)
 · have e:(decide (q.num<0) != decide (r.num<0))=false:=by rw [hs];simp
   rw [e,yaa,show (X:Int)+Y=((X+Y:Nat):Int) by omega]
   rw [fin (decide (q.num<0)) (X+Y) (by omega)]
   refine cong _ _ _ _ ?_ ?_
   · by_cases h1:q.num<0
     · have h2:r.num<0:=by simpa [h1] using hs.symm
       rw [if_pos h1,if_pos h2];omega
     · have h2:¬r.num<0:=by simpa [h1] using hs.symm
       rw [if_neg h1,if_neg h2];omega
   · intro h0
     by_cases h1:q.num<0
     · have h2:r.num<0:=by simpa [h1] using hs.symm
       rw [if_pos h1,if_pos h2,decide_eq_true h1,decide_eq_true (by omega)]
     · have h2:¬r.num<0:=by simpa [h1] using hs.symm
       rw [if_neg h1,if_neg h2,decide_eq_false h1,decide_eq_false (by omega)]
 · have e:(decide (q.num<0) != decide (r.num<0))=true:=by simpa using hs
   have h12:(q.num<0∧¬r.num<0)∨(¬q.num<0∧r.num<0):=by
     by_cases h1:q.num<0 <;> by_cases h2:r.num<0 <;> simp [h1,h2] at hs ⊢
   rw [e,yad]
   by_cases hlt:X<Y
   · refine yIh (fun u v=>?_)
     rw [ysF (by omega) (by omega),decide_eq_true (by omega),yad,yD4 (by omega) (by omega) (by omega)]
     have ez:(Y:Int)-X=((Y-X:Nat):Int):=by omega
     rw [ez]
     rw [fin (decide (r.num<0)) (Y-X) (by omega)]
     refine cong _ _ _ _ ?_ ?_
     · rcases h12 with ⟨h1,h2⟩ | ⟨h1,h2⟩
       · rw [if_pos h1,if_neg h2];omega
       · rw [if_neg h1,if_pos h2];omega
     · intro h0
       rcases h12 with ⟨h1,h2⟩ | ⟨h1,h2⟩
       · rw [if_pos h1,if_neg h2,decide_eq_false h2,decide_eq_false (by omega)]
       · rw [if_neg h1,if_pos h2,decide_eq_true h2,decide_eq_true (by omega)]
   · rw [yD4 (by omega) (by omega) (by omega),ysF (by omega) (by omega),decide_eq_false (by omega),yaa]
     have ez:(X:Int)-Y=((X-Y:Nat):Int):=by omega
     rw [ez]
     rw [fin (decide (q.num<0)) (X-Y) (by omega)]
     refine cong _ _ _ _ ?_ ?_
     · rcases h12 with ⟨h1,h2⟩ | ⟨h1,h2⟩
       · rw [if_pos h1,if_neg h2];omega
       · rw [if_neg h1,if_pos h2];omega
     · intro h0
       rcases h12 with ⟨h1,h2⟩ | ⟨h1,h2⟩
       · rw [if_pos h1,if_neg h2,decide_eq_true h1,decide_eq_true (by omega)]
       · rw [if_neg h1,if_pos h2,decide_eq_false h1,decide_eq_false (by omega)]
theorem yK1 {q:Rat} (hq:yap q) (K:Int→Int→Prop):yoT q.num q.den K=K (-q).num (-q).den:=by
 unfold yoT yqX
 obtain ⟨a1,a2,a3⟩:=hq
 rw [wi64 ⟨by omega,by omega⟩,Int.zero_sub];rfl
theorem yap.neg {q:Rat} (hq:yap q):yap (-q):=by
 obtain ⟨a1,a2,a3⟩:=hq
 unfold yap
 rw [Rat.neg_num,Rat.neg_den]
 omega
theorem yHh {q r:Rat} (hq:yap q) (hr:yap r) (K:Int→Int→Int→Prop):yfV q.num q.den r.num r.den K=fitK (q-r) K:=by
 unfold yfV yq0
 rw [ysE hq.i1 hq.i2 hr.i1 hr.i2,yef hq hr,yuz rfl,yaa,yK1 hr,yvG hq hr.neg,Rat.sub_eq_add_neg]
theorem yHi {q r:Rat} (hq:yap q) (hr:yap r) (K:Int→Int→Int→Prop):ykA q.num q.den r.num r.den K=fitK (q*r) K:=by
 unfold ykA yq1
 rw [ysE hq.i1 hq.i2 hr.i1 hr.i2,yef hq hr,yuz rfl,yaa]
 have hq':=hq;have hr':=hr
 obtain ⟨a1,a2,a3⟩:=hq
 obtain ⟨b1,b2,b3⟩:=hr
 have dq:=q.den_pos
 have dr:=r.den_pos
 have g0:0<Nat.gcd q.num.natAbs r.den:=Nat.gcd_pos_of_pos_right _ dr
 have h0:0<Nat.gcd r.num.natAbs q.den:=Nat.gcd_pos_of_pos_right _ dq
 rw [ygx hq'.i1,wuN (n:=r.den) (by omega),yoV,ygx hr'.i1,wuN (n:=q.den) (by omega),yoV]
 simp only [ygx hq'.i1,ygx hr'.i1]
 have q1:q.num.natAbs / Nat.gcd q.num.natAbs r.den≤q.num.natAbs:=Nat.div_le_self _ _
 have q2:r.num.natAbs / Nat.gcd r.num.natAbs q.den≤r.num.natAbs:=Nat.div_le_self _ _
 have q3:q.den / Nat.gcd r.num.natAbs q.den≤q.den:=Nat.div_le_self _ _
 have q4:r.den / Nat.gcd q.num.natAbs r.den≤r.den:=Nat.div_le_self _ _
 have e1:numM q.num r.num q.den r.den=q.num.natAbs / Nat.gcd q.num.natAbs r.den*(r.num.natAbs / Nat.gcd r.num.natAbs q.den):=rfl
 have e2:denM q.num r.num q.den r.den=q.den / Nat.gcd r.num.natAbs q.den*(r.den / Nat.gcd q.num.natAbs r.den):=rfl
 have z1:q.num=0→numM q.num r.num q.den r.den=0:=fun h=>by rw [e1,h,Int.natAbs_zero,Nat.zero_div,Nat.zero_mul]
 have z2:r.num=0→numM q.num r.num q.den r.den=0:=fun h=>by rw [e1,h,Int.natAbs_zero,Nat.zero_div,Nat.mul_zero]
 have n1:∀ P:Prop,asr (!(decide (((Nat.gcd q.num.natAbs r.den:Nat):Int)=(0:Int)))) P=P:=fun P=>yor (by omega)
 have n2:∀ P:Prop,asr (!(decide (((Nat.gcd r.num.natAbs q.den:Nat):Int)=(0:Int)))) P=P:=fun P=>yor (by omega)
 have w1:=wuN (n:=q.num.natAbs / Nat.gcd q.num.natAbs r.den) (by omega)
 have w2:=wuN (n:=r.num.natAbs / Nat.gcd r.num.natAbs q.den) (by omega)
 have w3:=wuN (n:=q.den / Nat.gcd r.num.natAbs q.den) (by omega)
 have w4:=wuN (n:=r.den / Nat.gcd q.num.natAbs r.den) (by omega)
 have t1:=ygW (a:=q.num.natAbs / Nat.gcd q.num.natAbs r.den) (b:=r.num.natAbs / Nat.gcd r.num.natAbs q.den) (by omega) (by omega)
 have t2:=ygW (a:=q.den / Nat.gcd r.num.natAbs q.den) (b:=r.den / Nat.gcd q.num.natAbs r.den) (by omega) (by omega)
 have m:=fun s=>yBK (s:=s) (X:=((numM q.num r.num q.den r.den:Nat):Int)) (Y:=((denM q.num r.num q.den r.den:Nat):Int)) (Int.natCast_nonneg _) (Int.natCast_nonneg _) K
 rw [← e1] at t1
 rw [← e2] at t2
 simp only [n1,n2,yxr,w1,w2,w3,w4,t1,t2,m]
 rw [← yBF]
 have zs:∀ s s':Bool,numM q.num r.num q.den r.den=0→outS s (numM q.num r.num q.den r.den:Nat) (denM q.num r.num q.den r.den:Nat) K=outS s' (numM q.num r.num q.den r.den:Nat) (denM q.num r.num q.den r.den:Nat) K:=by
   intro s s' h
   rw [h]
   cases s <;> cases s' <;> rfl
 by_cases hs:(decide (q.num<0) != decide (r.num<0))=true
 · rw [hs,yad]
   by_cases n1:q.num=0
   · rw [yuz n1,yaa];exact zs _ _ (z1 n1)
   · rw [yD3 n1,yad]
     by_cases n2:r.num=0
     · exact zs _ _ (z2 n2)
     · rw [yD3 n2]
 · have hs':(decide (q.num<0) != decide (r.num<0))=false:=by simpa using hs
   rw [hs',yaa]
theorem yK2 {q r:Rat} (hq:yap q) (hr:yap r) (h0:r≠0) (K:Int→Int→Int→Prop):ygQ q.num q.den r.num r.den K=fitK (q / r) K:=by
 unfold ygQ yq2
 have hn:r.num≠0:=fun e=>h0 (Rat.num_eq_zero.1 e)
 rw [ysE hq.i1 hq.i2 hr.i1 hr.i2,yef hq hr,yuz rfl,yaa,yqf hn,yaa]
 obtain ⟨e1,e2⟩:=ytQ h0
 have m:=yHi hq (hr.inv h0) K
 rw [e1,e2] at m
 obtain ⟨b1,b2,b3⟩:=hr
 rw [Rat.div_def,← m]
 by_cases h:r.num<0
 · rw [decide_eq_true h,yad,if_pos h,wi64 (n:=(0:Int)-r.den) ⟨by omega,by omega⟩,wi64 (n:=(0:Int)-r.num) ⟨by omega,by omega⟩]
   rw [show (0:Int)-r.den=-(r.den:Int) by omega,show (0:Int)-r.num=((r.num.natAbs:Nat):Int) by omega]
 · rw [decide_eq_false h,yaa,if_neg h,show ((r.num.natAbs:Nat):Int)=r.num by omega]
theorem yhy {q r:Rat} (hq:yap q) (hr:yap r) (K:Bool→Prop):yaT q.num q.den r.num r.den K=K (decide (q<r)):=by
 unfold yaT ynP
 have hq':=hq;have hr':=hr
 obtain ⟨a1,a2,a3⟩:=hq
 obtain ⟨b1,b2,b3⟩:=hr
 have dq:=q.den_pos
 have dr:=r.den_pos
 have e:decide (q<r)=decide (q.num*r.den<r.num*q.den):=by rw [decide_eq_decide];exact Rat.lt_iff q r
 rw [e]
 by_cases hs:(decide (q.num<0) != decide (r.num<0))=true
 · rw [hs,yad]
   by_cases h1:q.num<0
   · have h2:¬r.num<0:=by simpa [h1] using hs
     have p1:q.num*r.den<0:=Int.mul_neg_of_neg_of_pos h1 (by omega)
     have p2:0≤r.num*q.den:=Int.mul_nonneg (by omega) (by omega)
     rw [decide_eq_true h1,decide_eq_true (by omega)]
   · have h2:r.num<0:=by simpa [h1] using hs
     have p1:r.num*q.den<0:=Int.mul_neg_of_neg_of_pos h2 (by omega)
     have p2:0≤q.num*r.den:=Int.mul_nonneg (by omega) (by omega)
     rw [decide_eq_false h1,decide_eq_false (by omega)]
 · have hs':(decide (q.num<0) != decide (r.num<0))=false:=by simpa using hs
   rw [hs',yaa,ygx hq'.i1,wuN (by omega),ygW (by omega) (by omega),ygx hr'.i1,wuN (by omega),ygW (by omega) (by omega),ysF (Int.natCast_nonneg _) (Int.natCast_nonneg _),ysF (Int.natCast_nonneg _) (Int.natCast_nonneg _),Int.natCast_mul,Int.natCast_mul]
   by_cases h1:q.num<0
   · have h2:r.num<0:=by simpa [h1] using hs'
     rw [decide_eq_true h1,yad,show ((q.num.natAbs:Nat):Int)=-q.num by omega,show ((r.num.natAbs:Nat):Int)=-r.num by omega,Int.neg_mul,Int.neg_mul]
     congr 1
     rw [decide_eq_decide];omega
   · have h2:¬r.num<0:=by simpa [h1] using hs'
     rw [decide_eq_false h1,yaa,show ((q.num.natAbs:Nat):Int)=q.num by omega,show ((r.num.natAbs:Nat):Int)=r.num by omega]
theorem yos (n:Int) (K:Int→Int→Prop):ybl n K=K (n:Rat).num (n:Rat).den:=rfl
end Go.Pf.Vc
namespace Go.Pf.Vc
open Go Go.Pf
theorem cbT {c:Prop} [Decidable c] {P Q:Prop} (h:c):cbr (decide c) P Q=P:=by rw [decide_eq_true h,yad]
theorem cbF {c:Prop} [Decidable c] {P Q:Prop} (h:¬c):cbr (decide c) P Q=Q:=by rw [decide_eq_false h,yaa]
theorem cnT {a b:Int} {P Q:Prop} (h:a≠b):cbr (a != b) P Q=P:=by rw [yD3 h,yad]
theorem cnF {a b:Int} {P Q:Prop} (h:a=b):cbr (a != b) P Q=Q:=by rw [yuz h,yaa]
theorem ceT {a b:Int} {P Q:Prop} (h:a=b):cbr (a == b) P Q=P:=by rw [yHg h,yad]
theorem ceF {a b:Int} {P Q:Prop} (h:a≠b):cbr (a == b) P Q=Q:=by rw [yqf h,yaa]
theorem asT {c:Prop} [Decidable c] {P:Prop} (h:c):asr (decide c) P=P:=by rw [decide_eq_true h,yaj]
theorem asC {l:List Int} {i:Nat} {P:Prop} (h:i<l.length):asr (conf (.one (.i .i64)) (List.getD (ints l) i .nils)) P=P:=by rw [ygV h,yaj]
theorem wib {n:Int} (h1:-9223372036854775808≤n) (h2:n≤9223372036854775807):IntKind.i64.wrap n=n:=wi64 ⟨h1,h2⟩
theorem ygA (i:Nat):(i:Int)+1=((i+1:Nat):Int):=by omega
theorem yf0 {x:Int} (h:-1000000000000000000≤x∧x≤1000000000000000000):yap (x:Rat):=by
 unfold yap
 rw [Rat.num_intCast,Rat.den_intCast]
 omega
def allD (dens:List Int):Prop:=∀ d∈dens,0≤d∧d≤12
def yxs (dens:List Int):Prop:=∃ d∈dens,0<d
instance (l:List Int):Decidable (allD l):=by unfold allD;infer_instance
instance (l:List Int):Decidable (yxs l):=by unfold yxs;infer_instance
def VC (len:Int) (cuts dens:List Int):Prop :=
 1≤len∧len≤1000∧2≤cuts.length∧cuts.length≤40∧dens.length+1=cuts.length∧cuts.getD 0 0=0∧cuts.getD (cuts.length-1) 0=len∧incr cuts 0∧allD dens∧yxs dens
theorem yJN (l:List Int):incr l 0↔∀ j,j<l.length→j+1<l.length→l.getD j 0<l.getD (j+1) 0:=⟨fun h j _ h2=>h j (by omega) h2,fun h j _ h2=>h j (by omega) h2⟩
instance (l:List Int):Decidable (incr l 0):=decidable_of_iff _ (yJN l).symm
instance (len:Int) (cuts dens:List Int):Decidable (VC len cuts dens):=by unfold VC;infer_instance
def ckC (len:Int) (cuts dens:List Int):Int:=if len>1000∨cuts.length>40 then 4 else if VC len cuts dens then 0 else 8
theorem yHj (l:List Int) (x:Int):(l.foldl mnf x<0)↔¬(∀ d∈x::l,0≤d):=by
 induction l generalizing x with
 | nil=>simp
 | cons y t ih =>
   rw [List.foldl_cons,ih]
   unfold mnf
   simp only [List.forall_mem_cons]
   split
   · constructor
     · intro h h2;exact h ⟨h2.2.1,h2.2.2⟩
     · intro h h2;exact h ⟨by omega,h2.1,h2.2⟩
   · constructor
     · intro h h2;exact h ⟨h2.1,h2.2.2⟩
     · intro h h2;exact h ⟨h2.1,by omega,h2.2⟩
theorem ysG (l:List Int) (x k:Int):(l.foldl mxf x>k)↔¬(∀ d∈x::l,d≤k):=by
 induction l generalizing x with
 | nil=>simp
 | cons y t ih =>
   rw [List.foldl_cons,ih]
   unfold mxf
   simp only [List.forall_mem_cons]
   split
   · constructor
     · intro h h2;exact h ⟨h2.2.1,h2.2.2⟩
     · intro h h2;exact h ⟨by omega,h2.1,h2.2⟩
   · constructor
     · intro h h2;exact h ⟨h2.1,h2.2.2⟩
     · intro h h2;exact h ⟨h2.1,by omega,h2.2⟩
theorem ykI {len:Int} {cuts dens:List Int} (h1:cuts.length<4611686018427387904) (h2:dens.length<4611686018427387904) (K:Int→Prop) :
   yau len (ints cuts) (ints dens) K=K (ckC len cuts dens):=by
 refine ywQ _ _ _ _ (fun K k=>?_) K
 unfold yau yjF
 simp only [yav]
 have bad:¬(len>1000∨cuts.length>40)→¬VC len cuts dens→K 8:=fun h h2=>by
   rw [ckC,if_neg h,if_neg h2] at k;exact k
 by_cases a1:len>1000
 · rw [cbT a1];rw [ckC,if_pos (.inl a1)] at k;exact k
 rw [cbF a1]
 by_cases a2:cuts.length>40
 · rw [cbT (by omega)];rw [ckC,if_pos (.inr a2)] at k;exact k
 have a12:¬(len>1000∨cuts.length>40):=by omega
 rw [cbF (by omega)]
 by_cases a3:len<1
 · rw [cbT a3];exact bad a12 (fun h=>by have:=h.1;omega)
 rw [cbF a3]
 by_cases a4:cuts.length<2
 · rw [cbT (by omega)];exact bad a12 (fun h=>by have:=h.2.2.1;omega)
 rw [cbF (by omega),wib (n:=(cuts.length:Int)-1) (by omega) (by omega)]
 by_cases a5:dens.length+1=cuts.length
 case neg=>rw [cnT (by omega)];exact bad a12 (fun h=>a5 h.2.2.2.2.1)
 rw [cnF (by omega),asT (by omega),asC (by omega),ya5 (by omega)]
 by_cases a6:cuts.getD 0 0=0
 case neg=>rw [cnT a6];exact bad a12 (fun h=>a6 h.2.2.2.2.2.1)
 rw [cnF a6,asT (by omega),asT (by omega),asC (by omega),ya5 (by omega)]
 have en:((cuts.length:Int)-1).toNat=cuts.length-1:=by omega
 rw [en]
 by_cases a7:cuts.getD (cuts.length-1) 0=len
 case neg=>rw [cnT a7];exact bad a12 (fun h=>a7 h.2.2.2.2.2.2.1)
 rw [cnF a7]
 refine ⟨cuts.length+1,?_⟩
 refine yGd (by omega) _ _ _ _ (cuts.length-1) 0 _ (by omega) (by omega) (fun hi=>?_) (fun hi=>bad a12 (fun h=>hi h.2.2.2.2.2.2.2.1))
 obtain ⟨x,t,e⟩:∃ x t,dens=x::t:=by
   cases dens with
   | nil=>exfalso;have:([]:List Int).length=0:=rfl;omega
   | cons x t=>exact ⟨x,t,rfl⟩
 refine yMo (by omega) e ?_
 by_cases b1:t.foldl mnf x<0
 · rw [cbT b1]
   rw [yHj] at b1
   exact bad a12 (fun h=>b1 fun d hd=>(h.2.2.2.2.2.2.2.2.1 d (by rw [e];exact hd)).1)
 rw [cbF b1]
 refine yJF (by omega) e ?_
 by_cases b2:t.foldl mxf x>12
 · rw [cbT b2]
   rw [ysG] at b2
   exact bad a12 (fun h=>b2 fun d hd=>(h.2.2.2.2.2.2.2.2.1 d (by rw [e];exact hd)).2)
 rw [cbF b2]
 refine yJF (by omega) e ?_
 have c1:∀ d∈dens,0≤d:=by rw [yHj,Classical.not_not,← e] at b1;exact b1
 have c2:∀ d∈dens,d≤12:=by rw [ysG,Classical.not_not,← e] at b2;exact b2
 by_cases b3:t.foldl mxf x=0
 · rw [ceT b3]
   refine bad a12 (fun h=>?_)
   obtain ⟨d,hd,h0⟩:=h.2.2.2.2.2.2.2.2.2
   have:¬(t.foldl mxf x>0):=by omega
   rw [ysG,Classical.not_not,← e] at this
   have:=this d hd
   omega
 · rw [ceF b3]
   have b4:t.foldl mxf x>0:=by
     refine Int.not_le.1 fun hle=>b3 ?_
     have:t.foldl mxf x>-1:=by
       rw [ysG]
       intro h
       have h1:=h x (List.mem_cons_self ..)
       have h2:=c1 x (by rw [e];exact List.mem_cons_self ..)
       omega
     omega
   rw [ysG,← e] at b4
   have b5:yxs dens:=by
     refine Classical.byContradiction fun hn=>b4 fun d hd=>?_
     exact Int.not_lt.1 fun hlt=>hn ⟨d,hd,hlt⟩
   rw [ckC,if_neg a12,if_pos ⟨by omega,by omega,by omega,by omega,a5,a6,a7,hi,fun d hd=>⟨c1 d hd,c2 d hd⟩,b5⟩] at k
   exact k
theorem ygy (n:Int) (K:Int→Int→Prop):ybo n K=K (n:Rat).num (n:Rat).den:=rfl
theorem yeW {q r:Rat} (hq:yap q) (hr:yap r) (K:Bool→Prop):ybC q.num q.den r.num r.den K=K (decide (q<r)):=by
 unfold ybC ylJ
 rw [yHf hq hr]
 congr 1
 rw [decide_eq_decide,cmpQ]
 by_cases h:q<r
 · simp [h]
 · by_cases h2:r<q <;> simp [h,h2]
def PT (len:Int) (n d:Int):Prop:=RV n d∧0≤n∧n≤len*d
instance (len n d:Int):Decidable (PT len n d):=by unfold PT;infer_instance
theorem yMr {len n d:Int} (h:PT len n d):∃ q:Rat,yap q∧q.num=n∧(q.den:Int)=d∧0≤q∧q≤(len:Rat):=by
 obtain ⟨h1,h2,h3⟩:=h
 obtain ⟨q,e1,e2,e3⟩:=yBE h1
 refine ⟨q,e1,e2,e3,?_,?_⟩
 · rw [← Rat.num_nonneg,e2];exact h2
 · rw [Rat.le_iff,e2,e3,Rat.num_intCast,Rat.den_intCast];simpa using h3
theorem yxt (x:Int) (q:Rat):((x:Rat)<q)↔x*(q.den:Int)<q.num:=by
 rw [Rat.lt_iff,Rat.num_intCast,Rat.den_intCast];simp
theorem yxu {len:Int} (hl:-1000000000000000000≤len∧len≤1000000000000000000) {n d:Int} (hn:I64 n) (hd:I64 d) (a b:List PV) (K:Bool→Prop) :
   ybq len a b n d K=K (decide (PT len n d)):=by
 unfold ybq yjK
 rw [yzp hn hd]
 by_cases h:RV n d
 · obtain ⟨q,e1,e2,e3⟩:=yBE h
   rw [chk,if_pos h,ceT rfl]
   by_cases h0:n≥0
   · rw [cbT h0,ygy,← e2,← e3,yeW (yf0 hl) e1]
     congr 1
     have:((len:Rat)<q)↔len*(q.den:Int)<q.num:=yxt _ _
     by_cases h3:(len:Rat)<q
     · have h4:=this.1 h3
       rw [decide_eq_true h3,decide_eq_false];rfl
       intro hp;have:=hp.2.2;omega
     · have h4:¬_:=fun x=>h3 (this.2 x)
       rw [decide_eq_false h3,decide_eq_true];rfl
       exact ⟨e1.rv,by omega,by omega⟩
   · rw [cbF h0,decide_eq_false]
     intro hp;have:=hp.2.1;omega
 · rw [chk,if_neg h,ceF (by decide),decide_eq_false]
   intro hp;exact h hp.1
end Go.Pf.Vc
namespace Go.Pf.Vc
open Go Go.Pf
section
variable {len:Int} {cuts dens:List Int}
theorem VC.step (h:VC len cuts dens) {i:Nat} (hi:i+1<cuts.length):cuts.getD i 0<cuts.getD (i+1) 0:=h.2.2.2.2.2.2.2.1 i (Nat.zero_le _) hi
theorem VC.mono (h:VC len cuts dens) {i:Nat}:∀ {j:Nat},i≤j→j<cuts.length→cuts.getD i 0≤cuts.getD j 0
 | 0,hij,_=>by
   have:i=0:=by omega
   subst this;exact Int.le_refl _
 | j+1,hij,hj=>by
   by_cases e:i=j+1
   · subst e;exact Int.le_refl _
   · have h1:=h.mono (i:=i) (j:=j) (by omega) (by omega)
     have h2:=h.step (i:=j) hj
     omega
theorem VC.lo (h:VC len cuts dens) {i:Nat} (hi:i<cuts.length):0≤cuts.getD i 0:=by
 have:=h.mono (Nat.zero_le i) hi
 rw [h.2.2.2.2.2.1] at this;exact this
theorem VC.hi (h:VC len cuts dens) {i:Nat} (hi:i<cuts.length):cuts.getD i 0≤len:=by
 have:=h.mono (i:=i) (j:=cuts.length-1) (by omega) (by omega)
 rw [h.2.2.2.2.2.2.1] at this;exact this
theorem VC.den (h:VC len cuts dens) {i:Nat} (hi:i<dens.length):0≤dens.getD i 0∧dens.getD i 0≤12:=by
 rw [List.getD_eq_getElem?_getD,List.getElem?_eq_getElem hi]
 exact h.2.2.2.2.2.2.2.2.1 _ (List.getElem_mem hi)
theorem VC.l1 (h:VC len cuts dens):dens.length+1=cuts.length:=h.2.2.2.2.1
theorem VC.l2 (h:VC len cuts dens):cuts.length≤40:=h.2.2.2.1
theorem VC.len0 (h:VC len cuts dens):1≤len∧len≤1000:=⟨h.1,h.2.1⟩
theorem VC.sc (h:VC len cuts dens) {i:Nat} (hi:i<cuts.length):yap ((cuts.getD i 0:Int):Rat):=yf0 (by have:=h.lo hi;have:=h.hi hi;have:=h.len0;omega)
theorem VC.sd (h:VC len cuts dens) {i:Nat} (hi:i<dens.length):yap ((dens.getD i 0:Int):Rat):=yf0 (by have:=h.den hi;omega)
theorem ykJ (h:ckC len cuts dens=0):VC len cuts dens:=by
 unfold ckC at h
 split at h
 · omega
 · split at h
   · assumption
   · omega
theorem VC.ck (h:VC len cuts dens):ckC len cuts dens=0:=by
 rw [ckC,if_neg (by have:=h.l2;have:=h.len0;omega),if_pos h]
def totS (cuts dens:List Int):Nat→Nat→Int→Int
 | 0,_,s=>s
 | r+1,i,s=>totS cuts dens r (i+1) (s+dens.getD i 0*(cuts.getD (i+1) 0-cuts.getD i 0))
def totC (cuts dens:List Int):Int:=totS cuts dens dens.length 0 0
theorem yJO {d x:Int} (h:0≤d∧d≤12) (hx:0≤x):0≤d*x∧d*x≤12*x:=⟨Int.mul_nonneg h.1 hx,Int.mul_le_mul_of_nonneg_right h.2 hx⟩
theorem yxv (h:VC len cuts dens):∀ (r i:Nat) (s:Int),i+r=dens.length→0≤s→s≤12*cuts.getD i 0→0≤totS cuts dens r i s∧totS cuts dens r i s≤12*len
 | 0,i,s,hi,h0,h1=>by
   have:=h.l1
   have:=h.hi (i:=i) (by omega)
   unfold totS
   omega
 | r+1,i,s,hi,h0,h1=>by
   unfold totS
   have l1:=h.l1
   have h2:=h.step (i:=i) (by omega)
   have h3:=yJO (h.den (i:=i) (by omega)) (x:=cuts.getD (i+1) 0-cuts.getD i 0) (by omega)
   exact yxv h r (i+1) _ (by omega) (by omega) (by omega)
theorem yra (h:VC len cuts dens):0≤totC cuts dens∧totC cuts dens≤12000:=by
 have l1:=h.l1
 have h0:=h.lo (i:=0) (by omega)
 have:=yxv h dens.length 0 0 (by omega) (by omega) (by omega)
 have h2:=h.len0
 unfold totC;omega
theorem yxw (h:VC len cuts dens) (W:Int→List PV→List PV→(Int→Prop)→Prop) (x0:Int→List PV→List PV→Int→List PV→Int→Int→Bool→Prop) :
   ∀ (r i n:Nat) (s:Int),i+r=dens.length→r<n→0≤s→s≤12*cuts.getD i 0 →
     ycT W x0 n len (ints cuts) (ints dens) s (ints dens) dens.length i=x0 len (ints cuts) (ints dens) (totS cuts dens r i s) (ints dens) dens.length dens.length false
 | 0,i,n+1,s,hi,hn,h0,h1=>by
   unfold ycT totS
   rw [cbF (by omega)]
   have:(i:Int)=dens.length:=by omega
   rw [this]
 | r+1,i,n+1,s,hi,hn,h0,h1=>by
   unfold ycT
   have l1:=h.l1;have l2:=h.l2
   have h2:=h.step (i:=i) (by omega)
   have h3:=yJO (h.den (i:=i) (by omega)) (x:=cuts.getD (i+1) 0-cuts.getD i 0) (by omega)
   have a1:=h.lo (i:=i) (by omega)
   have a2:=h.hi (i:=i+1) (by omega)
   have a3:=h.len0
   have e1:=wib (n:=(i:Int)+1) (by omega) (by omega)
   have e2:=wib (n:=cuts.getD (i+1) 0-cuts.getD i 0) (by omega) (by omega)
   have e3:=wib (n:=dens.getD i 0*(cuts.getD (i+1) 0-cuts.getD i 0)) (by omega) (by omega)
   have e4:=wib (n:=s+dens.getD i 0*(cuts.getD (i+1) 0-cuts.getD i 0)) (by omega) (by omega)
   rw [cbT (by omega),yav,yav,e1,ygA,Int.toNat_natCast,Int.toNat_natCast,asT (by omega),asT (by omega),asC (by omega),asT (by omega),asT (by omega),asC (by omega),asT (by omega),asT (by omega),asC (by omega),ya5 (by omega),ya5 (by omega),ya5 (by omega),e2,e3,e4]
   exact yxw h W x0 r (i+1) n _ (by omega) (by omega) (by omega) (by omega)
theorem yIi (h1:cuts.length<4611686018427387904) (h2:dens.length<4611686018427387904) (K:Int→Int→Prop) :
   yed len (ints cuts) (ints dens) K=if ckC len cuts dens=0 then K (totC cuts dens) 0 else K 0 (ckC len cuts dens):=by
 by_cases h:ckC len cuts dens=0
 · rw [if_pos h]
   refine ywR _ _ _ _ _ (fun K k=>?_) K
   unfold yed yha
   have hv:=ykJ h
   rw [ykI h1 h2,h,cnF rfl]
   refine ⟨dens.length+1,?_⟩
   have l1:=hv.l1
   have a1:=hv.lo (i:=0) (by omega)
   rw [yav]
   have:=yxw hv yau (fun b c d a e f g j=>(K a (0:Int))) dens.length 0 (dens.length+1) 0 (by omega) (by omega) (by omega) (by omega)
   rw [show ((0:Nat):Int)=0 from rfl] at this
   rw [this]
   exact k
 · rw [if_neg h]
   unfold yed yha
   rw [ykI h1 h2,cnT h]
def exK (e:Except Int Rat) (K:Int→Int→Int→Prop):Prop:=match e with | .ok q=>K q.num q.den 0 | .error c=>K 0 0 c
def fit {α:Type} (q:Rat) (k:Rat→Except Int α):Except Int α:=if yap q then k q else .error 16
def valS (cuts dens:List Int) (b:Rat):Nat→Nat→Rat→Rat→Except Int Rat
 | 0,_,_,sum=>.ok sum
 | r+1,i,p,sum =>
   let en:Rat:=if b<(cuts.getD (i+1) 0:Int) then b else (cuts.getD (i+1) 0:Int)
   if dens.getD i 0=0∨¬p<en then valS cuts dens b r (i+1) (if p<en then en else p) sum
   else fit (en-p) fun l=>fit (l*(dens.getD i 0:Int)) fun w=>fit (sum+w) fun s=>valS cuts dens b r (i+1) en s
def valC (cuts dens:List Int) (a b:Rat):Except Int Rat:=valS cuts dens b dens.length 0 a 0
theorem ycp {q:Rat} {K:Int→Int→Int→Prop}:fitK q K=if yap q then K q.num q.den 0 else K 0 0 16:=rfl
theorem yxx (h:VC len cuts dens) {b:Rat} (hb:yap b) (an ad:Int) (W1:Int→List PV→List PV→(Int→Prop)→Prop) (W2:Int→List PV→List PV→Int→Int→(Bool→Prop)→Prop) (K:Int→Int→Int→Prop) :
   ∀ (r i n:Nat) (p sum:Rat),i+r=dens.length→r<n→yap p→yap sum →
     yaD W1 W2 ybC ybo ya7 ya3 ya2 (fun a d e=>(K a d e)) (fun _ _ _ _ _ _ _ f g _ _ _ _ _ _=>(K f g (0:Int)))
       n len (ints cuts) (ints dens) b.num b.den an ad sum.num sum.den p.num p.den (ints dens) dens.length i=exK (valS cuts dens b r i p sum) K
 | 0,i,n+1,p,sum,hi,hn,hp,hs=>by
   unfold yaD valS
   rw [cbF (by omega)];rfl
 | r+1,i,n+1,p,sum,hi,hn,hp,hs=>by
   unfold yaD
   have l1:=h.l1;have l2:=h.l2
   have sc:=h.sc (i:=i+1) (by omega)
   have sd:=h.sd (i:=i) (by omega)
   have e1:=wib (n:=(i:Int)+1) (by omega) (by omega)
   rw [cbT (by omega),yav,yav,e1,ygA,Int.toNat_natCast,Int.toNat_natCast,asT (by omega),asT (by omega),asC (by omega),asT (by omega),asT (by omega),asC (by omega),ya5 (by omega),ya5 (by omega),ygy,yeW hb sc]
   have ih:=fun p sum hp hs=>yxx h hb an ad W1 W2 K r (i+1) n p sum (by omega) (by omega) hp hs
   unfold valS
   by_cases hbc:b<((cuts.getD (i+1) 0:Int):Rat)
   · rw [cbT hbc]
     simp only [if_pos hbc]
     by_cases hd:dens.getD i 0=0
     · rw [ceT hd,if_pos (.inl hd),yeW hp hb]
       by_cases hpb:p<b
       · rw [cbT hpb,if_pos hpb];exact ih b sum hb hs
       · rw [cbF hpb,if_neg hpb];exact ih p sum hp hs
     · rw [ceF hd,yeW hp hb]
       by_cases hpb:p<b
       · have hc:¬(dens.getD i 0=0∨¬p<b):=by simp [hpb];exact hd
         rw [if_neg hc,decide_eq_true hpb,Bool.not_true,yaa,yvF hb hp,ycp]
         by_cases s1:yap (b-p)
         · rw [if_pos s1,cnF rfl,ygy,yBG s1 sd,ycp,fit,if_pos s1]
           by_cases s2:yap ((b-p)*(dens.getD i 0:Int))
           · rw [if_pos s2,cnF rfl,yBI hs s2,ycp,fit,if_pos s2]
             by_cases s3:yap (sum+(b-p)*(dens.getD i 0:Int))
             · rw [if_pos s3,cnF rfl,fit,if_pos s3];exact ih b _ hb s3
             · rw [if_neg s3,cnT (by decide),fit,if_neg s3];rfl
           · rw [if_neg s2,cnT (by decide),fit,if_neg s2];rfl
         · rw [if_neg s1,cnT (by decide),fit,if_neg s1];rfl
       · rw [if_pos (.inr hpb),decide_eq_false hpb,Bool.not_false,yad,yeW hp hb,cbF hpb,if_neg hpb];exact ih p sum hp hs
   · rw [cbF hbc]
     simp only [if_neg hbc]
     obtain ⟨c,hc⟩:∃ c:Rat,c=((cuts.getD (i+1) 0:Int):Rat):=⟨_,rfl⟩
     rw [← hc] at sc ⊢
     by_cases hd:dens.getD i 0=0
     · rw [ceT hd,if_pos (.inl hd),yeW hp sc]
       by_cases hpb:p<c
       · rw [cbT hpb,if_pos hpb];exact ih c sum sc hs
       · rw [cbF hpb,if_neg hpb];exact ih p sum hp hs
     · rw [ceF hd,yeW hp sc]
       by_cases hpb:p<c
       · have hcc:¬(dens.getD i 0=0∨¬p<c):=by simp [hpb];exact hd
         rw [if_neg hcc,decide_eq_true hpb,Bool.not_true,yaa,yvF sc hp,ycp]
         by_cases s1:yap (c-p)
         · rw [if_pos s1,cnF rfl,ygy,yBG s1 sd,ycp,fit,if_pos s1]
           by_cases s2:yap ((c-p)*(dens.getD i 0:Int))
           · rw [if_pos s2,cnF rfl,yBI hs s2,ycp,fit,if_pos s2]
             by_cases s3:yap (sum+(c-p)*(dens.getD i 0:Int))
             · rw [if_pos s3,cnF rfl,fit,if_pos s3];exact ih c _ sc s3
             · rw [if_neg s3,cnT (by decide),fit,if_neg s3];rfl
           · rw [if_neg s2,cnT (by decide),fit,if_neg s2];rfl
         · rw [if_neg s1,cnT (by decide),fit,if_neg s1];rfl
       · rw [if_pos (.inr hpb),decide_eq_false hpb,Bool.not_false,yad,yeW hp sc,cbF hpb,if_neg hpb];exact ih p sum hp hs
end
end Go.Pf.Vc
namespace Go.Pf.Vc
open Go Go.Pf
def rt (n d:Int):Rat:=mkRat n d.toNat
theorem yHk (q:Rat):rt q.num q.den=q:=by unfold rt;rw [Int.toNat_natCast,Rat.mkRat_self]
theorem yLH {n d:Int} (h:RV n d):yap (rt n d)∧(rt n d).num=n∧((rt n d).den:Int)=d:=by
 obtain ⟨q,h1,h2,h3⟩:=yBE h
 subst h2 h3
 rw [yHk];exact ⟨h1,rfl,rfl⟩
theorem PT.pt {len n d:Int} (h:PT len n d):yap (rt n d)∧(rt n d).num=n∧((rt n d).den:Int)=d∧0≤rt n d∧rt n d≤(len:Rat):=by
 obtain ⟨q,h1,h2,h3,h4,h5⟩:=yMr h
 subst h2 h3
 rw [yHk];exact ⟨h1,rfl,rfl,h4,h5⟩
section
variable {len:Int} {cuts dens:List Int}
def valR (len:Int) (cuts dens:List Int) (an ad bn bd:Int):Except Int Rat :=
 if ckC len cuts dens=0 then (if PT len an ad∧PT len bn bd∧¬rt bn bd<rt an ad then valC cuts dens (rt an ad) (rt bn bd) else .error 2) else .error (ckC len cuts dens)
theorem yBL {w:(Int→Int→Int→Prop)→Prop} {e:Except Int Rat} (det:∀ r0 r1 r2,(∀ K:Int→Int→Int→Prop,K r0 r1 r2→w K)→∀ K,w K=K r0 r1 r2) (h:∀ K,exK e K→w K) (K:Int→Int→Int→Prop):w K=exK e K:=by
 cases e with
 | ok q=>exact det _ _ _ h K
 | error c=>exact det _ _ _ h K
theorem yIj (h1:cuts.length<4611686018427387904) (h2:dens.length<4611686018427387904) {an ad bn bd:Int} (ha:I64 an) (ha':I64 ad) (hb:I64 bn) (hb':I64 bd) (K:Int→Int→Int→Prop) :
   ye9 len (ints cuts) (ints dens) an ad bn bd K=exK (valR len cuts dens an ad bn bd) K:=by
 refine yBL (fun r0 r1 r2 h K=>ywS _ _ _ _ _ _ _ r0 r1 r2 h K) (fun K k=>?_) K
 unfold ye9 yjM
 rw [ykI h1 h2]
 unfold valR at k
 by_cases h:ckC len cuts dens=0
 case neg=>rw [cnT h];rw [if_neg h] at k;exact k
 have hv:=ykJ h
 have hl:=hv.len0
 rw [if_pos h] at k
 rw [cnF h,yxu (by omega) ha ha']
 by_cases p1:PT len an ad
 case neg=>rw [decide_eq_false p1,Bool.not_false,yad];rw [if_neg (fun x=>p1 x.1)] at k;exact k
 rw [decide_eq_true p1,Bool.not_true,yaa,yxu (by omega) hb hb']
 by_cases p2:PT len bn bd
 case neg=>rw [decide_eq_false p2,Bool.not_false,yad];rw [if_neg (fun x=>p2 x.2.1)] at k;exact k
 rw [decide_eq_true p2,Bool.not_true,yaa]
 obtain ⟨s1,e1,e2,_,_⟩:=p1.pt
 obtain ⟨s2,f1,f2,_,_⟩:=p2.pt
 have hless:=yeW s2 s1
 rw [e1,e2,f1,f2] at hless
 rw [hless]
 by_cases p3:rt bn bd<rt an ad
 · rw [cbT p3];rw [if_neg (fun x=>x.2.2 p3)] at k;exact k
 rw [cbF p3]
 rw [if_pos ⟨p1,p2,p3⟩] at k
 rw [ygy,yav]
 refine ⟨dens.length+1,?_⟩
 have:=yxx hv s2 0 0 yau ybq K dens.length 0 (dens.length+1) (rt an ad) 0 (by omega) (by omega) s1 (by decide)
 rw [e1,e2,f1,f2] at this
 exact this.mpr k
def mrkS (cuts dens:List Int):Nat→Nat→Rat→Rat→Except Int Rat
 | 0,_,_,_=>.error 6
 | r+1,i,p,v =>
   if ¬p<(cuts.getD (i+1) 0:Int) then mrkS cuts dens r (i+1) p v
   else if dens.getD i 0=0 then mrkS cuts dens r (i+1) (cuts.getD (i+1) 0:Int) v
   else fit ((cuts.getD (i+1) 0:Int)-p) fun l=>fit (l*(dens.getD i 0:Int)) fun w =>
     if w<v then fit (v-w) fun v'=>mrkS cuts dens r (i+1) (cuts.getD (i+1) 0:Int) v'
     else fit (v / (dens.getD i 0:Int)) fun s=>fit (p+s) .ok
def mrkC (cuts dens:List Int) (a v:Rat):Except Int Rat:=if v=0 then .ok a else mrkS cuts dens dens.length 0 a v
def mrkR (len:Int) (cuts dens:List Int) (an ad vn vd:Int):Except Int Rat :=
 if ckC len cuts dens=0 then (if PT len an ad∧RV vn vd∧0≤vn then mrkC cuts dens (rt an ad) (rt vn vd) else .error 2) else .error (ckC len cuts dens)
theorem yzs (h:VC len cuts dens) (W1:Int→List PV→List PV→(Int→Prop)→Prop) (W2:Int→List PV→List PV→Int→Int→(Bool→Prop)→Prop) (W3:Int→Int→(Int→Prop)→Prop) (K:Int→Int→Int→Prop) :
   ∀ (r i n:Nat) (p v:Rat) (o1 o2:Int),i+r=dens.length→r<n→yap p→yap v →
     yaS W1 W2 W3 ybo ybC ya7 ya3 ybY ya2
       (fun _ _ b d f a=>(cbr (a !=(0:Int)) (cbr (a !=(0:Int)) (K (0:Int) (0:Int) a) (K b d (0:Int))) (cbr (f !=(0:Int)) (K (0:Int) (0:Int) f) (K b d (0:Int)))))
       (fun _ _ j k g _ _ _ _ _ _ _ _ _=>(cbr (g !=(0:Int)) (K (0:Int) (0:Int) g) (K j k (0:Int))))
       n v.num v.den o1 o2 6 len (ints cuts) (ints dens) p.num p.den (ints dens) dens.length i=exK (mrkS cuts dens r i p v) K
 | 0,i,n+1,p,v,o1,o2,hi,hn,hp,hs=>by
   unfold yaS mrkS
   rw [cbF (by omega)];rfl
 | r+1,i,n+1,p,v,o1,o2,hi,hn,hp,hs=>by
   unfold yaS
   have l1:=h.l1;have l2:=h.l2
   have sc:=h.sc (i:=i+1) (by omega)
   have sd:=h.sd (i:=i) (by omega)
   have hd0:=h.den (i:=i) (by omega)
   have e1:=wib (n:=(i:Int)+1) (by omega) (by omega)
   rw [cbT (by omega),yav,yav,e1,ygA,Int.toNat_natCast,Int.toNat_natCast,asT (by omega),asT (by omega),asC (by omega),asT (by omega),asT (by omega),asC (by omega),ya5 (by omega),ya5 (by omega),ygy,yeW hp sc]
   have ih:=fun p v o1 o2 hp hs=>yzs h W1 W2 W3 K r (i+1) n p v o1 o2 (by omega) (by omega) hp hs
   unfold mrkS
   obtain ⟨c,hc⟩:∃ c:Rat,c=((cuts.getD (i+1) 0:Int):Rat):=⟨_,rfl⟩
   rw [← hc] at sc ⊢
   by_cases hpc:p<c
   case neg=>rw [decide_eq_false hpc,Bool.not_false,yad,if_pos hpc];exact ih p v o1 o2 hp hs
   rw [decide_eq_true hpc,Bool.not_true,yaa,if_neg (fun x=>x hpc),ygy]
   by_cases hd:dens.getD i 0=0
   · rw [cbF (by omega),ceT hd,if_pos hd];exact ih c v o1 o2 sc hs
   rw [cbT (by omega),if_neg hd,yvF sc hp,ycp]
   by_cases s1:yap (c-p)
   case neg=>rw [if_neg s1,cnT (by decide),cnT (by decide),cnT (by decide),fit,if_neg s1];rfl
   rw [if_pos s1,cnF rfl,ygy,yBG s1 sd,ycp,fit,if_pos s1]
   by_cases s2:yap ((c-p)*(dens.getD i 0:Int))
   case neg=>rw [if_neg s2,cnT (by decide),cnT (by decide),cnT (by decide),fit,if_neg s2];rfl
   rw [if_pos s2,cnF rfl,ceF hd,yeW s2 hs,fit,if_pos s2]
   by_cases hw:(c-p)*(dens.getD i 0:Int)<v
   · rw [cbT hw,if_pos hw,yvF hs s2,ycp,fit]
     by_cases s3:yap (v-(c-p)*(dens.getD i 0:Int))
     · rw [if_pos s3,if_pos s3,cnF rfl,cnF rfl];exact ih c _ o1 o2 sc s3
     · rw [if_neg s3,if_neg s3,cnT (by decide),cnT (by decide),cnF rfl,cnT (by decide)];rfl
   · have hdn:((dens.getD i 0:Int):Rat)≠0:=fun e=>hd (Rat.intCast_eq_zero_iff.1 e)
     rw [cbF hw,if_neg hw,ygy,yKW hs sd hdn,ycp,fit]
     by_cases s3:yap (v / (dens.getD i 0:Int))
     · rw [if_pos s3,if_pos s3,ceT rfl,yBI hp s3,ycp,fit]
       by_cases s4:yap (p+v / (dens.getD i 0:Int))
       · rw [if_pos s4,if_pos s4,cnF rfl,cnF rfl];rfl
       · rw [if_neg s4,if_neg s4,cnF rfl,cnT (by decide)];rfl
     · rw [if_neg s3,if_neg s3,ceF (by decide),cnF rfl,cnT (by decide)];rfl
theorem yJP (h1:cuts.length<4611686018427387904) (h2:dens.length<4611686018427387904) {an ad vn vd:Int} (ha:I64 an) (ha':I64 ad) (hv:I64 vn) (hv':I64 vd) (K:Int→Int→Int→Prop) :
   yfS len (ints cuts) (ints dens) an ad vn vd K=exK (mrkR len cuts dens an ad vn vd) K:=by
 refine yBL (fun r0 r1 r2 h K=>yyj _ _ _ _ _ _ _ r0 r1 r2 h K) (fun K k=>?_) K
 unfold yfS ylL
 rw [ykI h1 h2]
 unfold mrkR at k
 by_cases h:ckC len cuts dens=0
 case neg=>rw [cnT h];rw [if_neg h] at k;exact k
 have hc:=ykJ h
 have hl:=hc.len0
 rw [if_pos h] at k
 rw [cnF h,yxu (by omega) ha ha']
 by_cases p1:PT len an ad
 case neg=>rw [decide_eq_false p1,Bool.not_false,yad];rw [if_neg (fun x=>p1 x.1)] at k;exact k
 rw [decide_eq_true p1,Bool.not_true,yaa,yzp hv hv',chk]
 by_cases p2:RV vn vd
 case neg=>rw [if_neg p2,cnT (by decide)];rw [if_neg (fun x=>p2 x.2.1)] at k;exact k
 rw [if_pos p2,cnF rfl]
 by_cases p3:vn<0
 · rw [cbT p3];rw [if_neg (fun x=>by omega)] at k;exact k
 rw [cbF p3]
 rw [if_pos ⟨p1,p2,by omega⟩] at k
 obtain ⟨s1,e1,e2,_,_⟩:=p1.pt
 obtain ⟨s2,f1,f2⟩:=yLH p2
 unfold mrkC at k
 by_cases p4:vn=0
 · rw [ceT p4]
   rw [if_pos (Rat.num_eq_zero.1 (f1.trans p4))] at k
   have k:K (rt an ad).num (rt an ad).den 0:=k
   rw [e1,e2] at k
   exact k
 rw [ceF p4]
 rw [if_neg (fun x=>p4 (by rw [← f1,x];rfl))] at k
 rw [yav]
 refine ⟨dens.length+1,?_⟩
 have:=yzs hc yau ybq ya0 K dens.length 0 (dens.length+1) (rt an ad) (rt vn vd) 0 0 (by omega) (by omega) s1 s2
 rw [e1,e2,f1,f2] at this
 exact this.mpr k
end
end Go.Pf.Vc
namespace Go.Pf.Vc
open Go Go.Pf
section
variable {len:Int} {cuts dens:List Int}
def okD (cuts dens:List Int) (i:Nat):Prop:=∀ j,i≤j→j<dens.length→cuts.getD j 0<cuts.getD (j+1) 0∧0≤dens.getD j 0∧dens.getD j 0≤12
theorem yot (l1:dens.length+1=cuts.length) (l2:dens.length<4611686018427387904) (x0:Int→Prop) (x1:Int→List PV→List PV→Bool→Int→Bool→Prop) (P:Prop)
   (hbad:¬okD cuts dens 0→x0 8=P) (hgood:∀ b:Bool,okD cuts dens 0→b=decide (∃ j,j<dens.length∧0<dens.getD j 0)→x1 len (ints cuts) (ints dens) b dens.length false=P) :
   ∀ (r i n:Nat) (b:Bool),i+r=dens.length→r<n→(∀ j,j<i→cuts.getD j 0<cuts.getD (j+1) 0∧0≤dens.getD j 0∧dens.getD j 0≤12)→b=decide (∃ j,j<i∧0<dens.getD j 0) →
     yct x0 x1 n len (ints cuts) (ints dens) b i=P
 | 0,i,n+1,b,hi,hn,hj,hb=>by
   unfold yct
   rw [yav,cbF (by omega),show (i:Int)=dens.length by omega]
   refine hgood b (fun j _ h=>hj j (by omega)) ?_
   rw [hb,decide_eq_decide]
   rw [show i=dens.length by omega]
 | r+1,i,n+1,b,hi,hn,hj,hb=>by
   unfold yct
   have e1:=wib (n:=(i:Int)+1) (by omega) (by omega)
   rw [yav,yav,cbT (by omega),e1,ygA,Int.toNat_natCast,Int.toNat_natCast,asT (by omega),asT (by omega),asC (by omega),asT (by omega),asT (by omega),asC (by omega),ya5 (by omega),ya5 (by omega)]
   have bad:¬(cuts.getD i 0<cuts.getD (i+1) 0∧0≤dens.getD i 0∧dens.getD i 0≤12)→x0 8=P:=fun h=>hbad fun hk=>h (hk i (by omega) (by omega))
   by_cases a1:cuts.getD (i+1) 0≤cuts.getD i 0
   · rw [cbT a1];exact bad (by omega)
   rw [cbF a1,asT (by omega),asT (by omega),asC (by omega),ya5 (by omega)]
   by_cases a2:dens.getD i 0<0
   · rw [cbT a2];exact bad (by omega)
   rw [cbF a2,asT (by omega),asT (by omega),asC (by omega)]
   by_cases a3:dens.getD i 0>12
   · rw [cbT a3];exact bad (by omega)
   rw [cbF a3]
   have hj2:∀ j,j<i+1→cuts.getD j 0<cuts.getD (j+1) 0∧0≤dens.getD j 0∧dens.getD j 0≤12:=by
     intro j hlt
     by_cases e:j=i
     · subst e;omega
     · exact hj j (by omega)
   have ex:∀ c:Bool,(c=true↔(b=true∨0<dens.getD i 0))→c=decide (∃ j,j<i+1∧0<dens.getD j 0):=by
     intro c hc
     rw [Bool.eq_iff_iff,hc,hb,decide_eq_true_iff,decide_eq_true_iff]
     constructor
     · rintro (⟨j,h1,h2⟩ | h)
       · exact ⟨j,by omega,h2⟩
       · exact ⟨i,by omega,h⟩
     · rintro ⟨j,h1,h2⟩
       by_cases e:j=i
       · subst e;exact .inr h2
       · exact .inl ⟨j,by omega,h2⟩
   cases b with
   | true =>
     rw [yad]
     exact yot l1 l2 x0 x1 P hbad hgood r (i+1) n true (by omega) (by omega) hj2 (ex _ (by simp))
   | false =>
     rw [yaa,asT (by omega),asT (by omega),asC (by omega)]
     exact yot l1 l2 x0 x1 P hbad hgood r (i+1) n _ (by omega) (by omega) hj2 (ex _ (by simp))
theorem yic (h1:cuts.length<4611686018427387904) (h2:dens.length<4611686018427387904) (K:Int→Prop) :
   yaN len (ints cuts) (ints dens) K=K (ckC len cuts dens):=by
 refine yys _ _ _ _ (fun K k=>?_) K
 unfold yaN ylZ
 simp only [yav]
 have bad:¬(len>1000∨cuts.length>40)→¬VC len cuts dens→K 8:=fun h h2=>by
   rw [ckC,if_neg h,if_neg h2] at k;exact k
 by_cases a1:len>1000
 · rw [cbT a1];rw [ckC,if_pos (.inl a1)] at k;exact k
 rw [cbF a1]
 by_cases a2:cuts.length>40
 · rw [cbT (by omega)];rw [ckC,if_pos (.inr a2)] at k;exact k
 have a12:¬(len>1000∨cuts.length>40):=by omega
 rw [cbF (by omega)]
 by_cases a3:len<1
 · rw [cbT a3];exact bad a12 (fun h=>by have:=h.1;omega)
 rw [cbF a3]
 by_cases a4:cuts.length<2
 · rw [cbT (by omega)];exact bad a12 (fun h=>by have:=h.2.2.1;omega)
 rw [cbF (by omega),wib (n:=(cuts.length:Int)-1) (by omega) (by omega)]
 by_cases a5:dens.length+1=cuts.length
 case neg=>rw [cnT (by omega)];exact bad a12 (fun h=>a5 h.2.2.2.2.1)
 rw [cnF (by omega),asT (by omega),asC (by omega),ya5 (by omega)]
 by_cases a6:cuts.getD 0 0=0
 case neg=>rw [cnT a6];exact bad a12 (fun h=>a6 h.2.2.2.2.2.1)
 rw [cnF a6,asT (by omega),asT (by omega),asC (by omega),ya5 (by omega)]
 have en:((cuts.length:Int)-1).toNat=cuts.length-1:=by omega
 rw [en]
 by_cases a7:cuts.getD (cuts.length-1) 0=len
 case neg=>rw [cnT a7];exact bad a12 (fun h=>a7 h.2.2.2.2.2.2.1)
 rw [cnF a7]
 have mem:∀ d,d∈dens↔∃ j,j<dens.length∧dens.getD j 0=d:=by
   intro d
   rw [List.mem_iff_getElem]
   constructor
   · rintro ⟨j,hj,e⟩;exact ⟨j,hj,by rw [List.getD_eq_getElem?_getD,List.getElem?_eq_getElem hj];exact e⟩
   · rintro ⟨j,hj,e⟩;exact ⟨j,hj,by rw [List.getD_eq_getElem?_getD,List.getElem?_eq_getElem hj] at e;exact e⟩
 refine ⟨dens.length+1,?_⟩
 refine (yot a5 h2 _ _ (K (ckC len cuts dens)) (fun hk=>?_) (fun b hk hb=>?_) dens.length 0 (dens.length+1) false (by omega) (by omega) (fun j h=>by omega) (by simp)).mpr k
 · have hv:¬VC len cuts dens:=fun h=>hk fun j _ hj=>⟨h.step (by omega),h.den hj⟩
   rw [ckC,if_neg a12,if_neg hv]
 · have hsome:yxs dens↔∃ j,j<dens.length∧0<dens.getD j 0:=by
     constructor
     · rintro ⟨d,hd,h0⟩
       obtain ⟨j,hj,e⟩:=(mem d).1 hd
       exact ⟨j,hj,by rw [e];exact h0⟩
     · rintro ⟨j,hj,h0⟩;exact ⟨_,(mem _).2 ⟨j,hj,rfl⟩,h0⟩
   have hv:VC len cuts dens↔yxs dens:=by
     refine ⟨fun h=>h.2.2.2.2.2.2.2.2.2,fun h=>⟨by omega,by omega,by omega,by omega,a5,a6,a7,fun j _ hj=>(hk j (by omega) (by omega)).1,fun d hd=>?_,h⟩⟩
     obtain ⟨j,hj,e⟩:=(mem d).1 hd
     rw [← e];exact (hk j (by omega) hj).2
   rw [ckC,if_neg a12]
   by_cases hs:yxs dens
   · rw [if_pos (hv.2 hs),hb,decide_eq_true (hsome.1 hs)];rfl
   · rw [if_neg (fun x=>hs (hv.1 x)),hb,decide_eq_false (fun x=>hs (hsome.2 x))];rfl
theorem yxy (h:VC len cuts dens) (x0:Int→List PV→List PV→Int→Int→Bool→Prop) :
   ∀ (r i n:Nat) (s:Int),i+r=dens.length→r<n→0≤s→s≤12*cuts.getD i 0 →
     ydf x0 n len (ints cuts) (ints dens) s i=x0 len (ints cuts) (ints dens) (totS cuts dens r i s) dens.length false
 | 0,i,n+1,s,hi,hn,h0,h1=>by
   unfold ydf totS
   have:(i:Int)=dens.length:=by omega
   rw [yav,cbF (by omega),this]
 | r+1,i,n+1,s,hi,hn,h0,h1=>by
   unfold ydf
   have l1:=h.l1;have l2:=h.l2
   have h2:=h.step (i:=i) (by omega)
   have h3:=yJO (h.den (i:=i) (by omega)) (x:=cuts.getD (i+1) 0-cuts.getD i 0) (by omega)
   have a1:=h.lo (i:=i) (by omega)
   have a2:=h.hi (i:=i+1) (by omega)
   have a3:=h.len0
   have e1:=wib (n:=(i:Int)+1) (by omega) (by omega)
   have e2:=wib (n:=cuts.getD (i+1) 0-cuts.getD i 0) (by omega) (by omega)
   have e3:=wib (n:=dens.getD i 0*(cuts.getD (i+1) 0-cuts.getD i 0)) (by omega) (by omega)
   have e4:=wib (n:=s+dens.getD i 0*(cuts.getD (i+1) 0-cuts.getD i 0)) (by omega) (by omega)
   rw [yav,yav,cbT (by omega),e1,ygA,Int.toNat_natCast,Int.toNat_natCast,asT (by omega),asT (by omega),asC (by omega),asT (by omega),asT (by omega),asC (by omega),asT (by omega),asT (by omega),asC (by omega),ya5 (by omega),ya5 (by omega),ya5 (by omega),e2,e3,e4]
   exact yxy h x0 r (i+1) n _ (by omega) (by omega) (by omega) (by omega)
theorem yIk (hv:VC len cuts dens) (K:Int→Prop):yfX len (ints cuts) (ints dens) K=K (totC cuts dens):=by
 refine yyt _ _ _ _ (fun K k=>?_) K
 unfold yfX ymb
 refine ⟨dens.length+1,?_⟩
 have l1:=hv.l1
 have a1:=hv.lo (i:=0) (by omega)
 have:=yxy hv (fun b c d a e f=>K a) dens.length 0 (dens.length+1) 0 (by omega) (by omega) (by omega) (by omega)
 rw [show ((0:Nat):Int)=0 from rfl] at this
 rw [this]
 exact k
theorem ytR (hl:-1000000000000000000≤len∧len≤1000000000000000000) {n d:Int} (hn:I64 n) (hd:I64 d) (K:Bool→Prop) :
   ycb len n d K=K (decide (PT len n d)):=by
 unfold ycb ymd
 rw [ykH hn hd]
 by_cases h:RV n d
 · obtain ⟨q,e1,e2,e3⟩:=yBE h
   rw [chk,if_pos h,ceT rfl]
   by_cases h0:n≥0
   · rw [cbT h0,yos,← e2,← e3,yhy (yf0 hl) e1]
     congr 1
     have:((len:Rat)<q)↔len*(q.den:Int)<q.num:=yxt _ _
     by_cases h3:(len:Rat)<q
     · have h4:=this.1 h3
       rw [decide_eq_true h3,decide_eq_false];rfl
       intro hp;have:=hp.2.2;omega
     · have h4:¬_:=fun x=>h3 (this.2 x)
       rw [decide_eq_false h3,decide_eq_true];rfl
       exact ⟨e1.rv,by omega,by omega⟩
   · rw [cbF h0,decide_eq_false]
     intro hp;have:=hp.2.1;omega
 · rw [chk,if_neg h,ceF (by decide),decide_eq_false]
   intro hp;exact h hp.1
def mxQ (a b:Rat):Rat:=if a<b then b else a
def mnQ (a b:Rat):Rat:=if a<b then a else b
theorem ytS {q r:Rat} (hq:yap q) (hr:yap r) (K:Int→Int→Prop):yd4 q.num q.den r.num r.den K=K (mxQ q r).num (mxQ q r).den:=by
 unfold yd4 yme mxQ
 rw [yhy hq hr]
 by_cases h:q<r
 · rw [cbT h,if_pos h]
 · rw [cbF h,if_neg h]
theorem yGf {q r:Rat} (hq:yap q) (hr:yap r) (K:Int→Int→Prop):yh0 q.num q.den r.num r.den K=K (mnQ q r).num (mnQ q r).den:=by
 unfold yh0 yjR mnQ
 rw [yhy hq hr]
 by_cases h:q<r
 · rw [cbT h,if_pos h]
 · rw [cbF h,if_neg h]
theorem yJQ {q r:Rat} (hq:yap q) (hr:yap r):yap (mxQ q r):=by unfold mxQ;split <;> assumption
theorem yJR {q r:Rat} (hq:yap q) (hr:yap r):yap (mnQ q r):=by unfold mnQ;split <;> assumption
def worS (cuts dens:List Int) (i:Nat) (a b:Rat):Except Int Rat :=
 let f:=mxQ a (cuts.getD i 0:Int)
 let t:=mnQ b (cuts.getD (i+1) 0:Int)
 if ¬f<t∨dens.getD i 0=0 then .ok 0 else fit (t-f) fun d=>fit (d*(dens.getD i 0:Int)) .ok
theorem yzt (h:VC len cuts dens) {i:Nat} (hi:i<dens.length) {a b:Rat} (ha:yap a) (hb:yap b) (K:Int→Int→Int→Prop) :
   ycd len (ints cuts) (ints dens) i a.num a.den b.num b.den K=exK (worS cuts dens i a b) K:=by
 unfold ycd ymf worS
 have l1:=h.l1;have l2:=h.l2
 have sc:=h.sc (i:=i+1) (by omega)
 have sc0:=h.sc (i:=i) (by omega)
 have sd:=h.sd (i:=i) (by omega)
 have e1:=wib (n:=(i:Int)+1) (by omega) (by omega)
 rw [yav,yav,e1,ygA,Int.toNat_natCast,Int.toNat_natCast,asT (by omega),asT (by omega),asC (by omega),ya5 (by omega),yos,ytS ha sc0,asT (by omega),asT (by omega),asC (by omega),ya5 (by omega),yos,yGf hb sc]
 have s1:=yJQ ha sc0
 have s2:=yJR hb sc
 rw [yhy s1 s2]
 by_cases c1:mxQ a (cuts.getD i 0:Int)<mnQ b (cuts.getD (i+1) 0:Int)
 case neg =>
   rw [decide_eq_false c1,Bool.not_false,yad]
   simp only [c1,not_false_eq_true,true_or,if_true];rfl
 rw [decide_eq_true c1,Bool.not_true,yaa,asT (by omega),asT (by omega),asC (by omega),ya5 (by omega)]
 by_cases c2:dens.getD i 0=0
 · rw [ceT c2]
   simp only [c2,or_true,if_true];rfl
 rw [ceF c2,yHh s2 s1,ycp]
 have cc:¬(¬mxQ a (cuts.getD i 0:Int)<mnQ b (cuts.getD (i+1) 0:Int)∨dens.getD i 0=0):=fun x=>x.elim (fun y=>y c1) c2
 simp only [if_neg cc,fit]
 by_cases s3:yap (mnQ b (cuts.getD (i+1) 0:Int)-mxQ a (cuts.getD i 0:Int))
 · rw [if_pos s3,if_pos s3,cnF rfl,asT (by omega),asT (by omega),asC (by omega),yos,yHi s3 sd,ycp]
   split <;> rfl
 · rw [if_neg s3,if_neg s3,cnT (by decide)];rfl
end
end Go.Pf.Vc
namespace Go.Pf.Vc
open Go Go.Pf
section
variable {len:Int} {cuts dens:List Int}
theorem yiV {α:Type} {q:Rat} {k:Rat→Except Int α} (h:yap q):fit q k=k q:=if_pos h
theorem yiW {α:Type} {q:Rat} {k:Rat→Except Int α} (h:¬yap q):fit q k=.error 16:=if_neg h
theorem yrb {q:Rat} {K:Int→Int→Int→Prop}:exK (.ok q) K=K q.num q.den 0:=rfl
theorem yrc {c:Int} {K:Int→Int→Int→Prop}:exK (.error c) K=K 0 0 c:=rfl
theorem add_zero (q:Rat):q+0=q:=by grind
theorem yuA (h:VC len cuts dens) {a b:Rat} (ha:yap a) (hb:yap b) (hab:¬b<a) (W1:Int→List PV→List PV→(Int→Prop)→Prop) (W2:Int→Int→Int→(Bool→Prop)→Prop) (W3:Int→Int→Int→Int→(Bool→Prop)→Prop) (K:Int→Int→Int→Prop) :
   ∀ (r i n:Nat) (p sum:Rat),i+r=dens.length→r<n→yap sum→p=mxQ a (mnQ b (cuts.getD i 0:Int)) →
     ydg W1 W2 W3 ycd yde (fun e f g=>(K e f g)) (fun _ _ _ _ _ _ _ _ _ j k _ _=>(K j k (0:Int)))
       n len (ints cuts) (ints dens) a.num a.den b.num b.den 0 0 sum.num sum.den i=exK (valS cuts dens b r i p sum) K
 | 0,i,n+1,p,sum,hi,hn,hs,hp=>by
   unfold ydg valS
   rw [yav,cbF (by omega)];rfl
 | r+1,i,n+1,p,sum,hi,hn,hs,hp=>by
   unfold ydg
   have l1:=h.l1;have l2:=h.l2
   have e1:=wib (n:=(i:Int)+1) (by omega) (by omega)
   have hst:=h.step (i:=i) (by omega)
   have hst':((cuts.getD i 0:Int):Rat)<((cuts.getD (i+1) 0:Int):Rat):=Rat.intCast_lt_intCast.2 hst
   have sd:=h.sd (i:=i) (by omega)
   have sc:=h.sc (i:=i+1) (by omega)
   have sc0:=h.sc (i:=i) (by omega)
   rw [yav,cbT (by omega),yzt h (by omega) ha hb,e1,ygA]
   have ih:=fun p sum hs hp=>yuA h ha hb hab W1 W2 W3 K r (i+1) n p sum (by omega) (by omega) hs hp
   unfold valS worS
   obtain ⟨c0,hc0⟩:∃ c:Rat,c=((cuts.getD i 0:Int):Rat):=⟨_,rfl⟩
   obtain ⟨c,hc⟩:∃ c:Rat,c=((cuts.getD (i+1) 0:Int):Rat):=⟨_,rfl⟩
   obtain ⟨d,hd⟩:∃ d:Rat,d=((dens.getD i 0:Int):Rat):=⟨_,rfl⟩
   rw [← hc0,← hc] at hst'
   rw [← hc] at sc
   rw [← hc0] at sc0 hp
   rw [← hd] at sd
   rw [← hc] at ih
   simp only [← hc0,← hc,← hd]
   have zk:∀ K2:Int→Int→Int→Prop,fitK (sum+0) K2=K2 sum.num sum.den 0:=fun K2=>by rw [add_zero,ycp,if_pos hs]
   have en:(if b<c then b else c)=mnQ b c:=rfl
   rw [en]
   have nx:(if p<mnQ b c then mnQ b c else p)=mxQ a (mnQ b c):=by
     rw [hp];unfold mxQ mnQ
     grind
   have add0:=yvG hs (r:=0) (by decide)
   rw [show (0:Rat).num=0 from rfl,show ((0:Rat).den:Int)=1 from rfl] at add0
   by_cases c2:dens.getD i 0=0
   · rw [if_pos (.inr c2),if_pos (.inl c2),nx]
     rw [yrb,cnF rfl]
     rw [show ((0:Rat).num)=0 from rfl,show (((0:Rat).den:Nat):Int)=1 from rfl,add0,zk,cnF rfl]
     exact ih _ sum hs rfl
   by_cases c1:mxQ a c0<mnQ b c
   · -- the interval counts
     have hpm:p=mxQ a c0:=by
       rw [hp];unfold mxQ mnQ at *
       grind
     have hpl:p<mnQ b c:=by rw [hpm];exact c1
     rw [if_neg (fun x=>x.elim (fun y=>y c1) c2),if_neg (fun x=>x.elim c2 (fun y=>y hpl)),← hpm]
     have nx2:mnQ b c=mxQ a (mnQ b c):=by rw [← nx,if_pos hpl]
     by_cases s1:yap (mnQ b c-p)
     case neg=>rw [yiW s1,yiW s1,yrc,cnT (by decide)];rfl
     rw [yiV s1,yiV s1]
     by_cases s2:yap ((mnQ b c-p)*d)
     case neg=>rw [yiW s2,yiW s2,yrc,cnT (by decide)];rfl
     rw [yiV s2,yiV s2,yrb]
     rw [cnF rfl,yvG hs s2,ycp]
     by_cases s3:yap (sum+(mnQ b c-p)*d)
     · rw [if_pos s3,yiV s3,cnF rfl]
       exact ih _ _ s3 nx2
     · rw [if_neg s3,yiW s3,cnT (by decide)];rfl
   · have hpl:¬p<mnQ b c:=by
       rw [hp];unfold mxQ mnQ at *
       grind
     rw [if_pos (.inl c1),if_pos (.inr hpl),nx]
     rw [yrb,cnF rfl]
     rw [show ((0:Rat).num)=0 from rfl,show (((0:Rat).den:Nat):Int)=1 from rfl,add0,zk,cnF rfl]
     exact ih _ sum hs rfl
theorem yIl (h1:cuts.length<4611686018427387904) (h2:dens.length<4611686018427387904) {an ad bn bd:Int} (ha:I64 an) (ha':I64 ad) (hb:I64 bn) (hb':I64 bd) (K:Int→Int→Int→Prop) :
   yfY len (ints cuts) (ints dens) an ad bn bd K=exK (valR len cuts dens an ad bn bd) K:=by
 refine yBL (fun r0 r1 r2 h K=>yyu _ _ _ _ _ _ _ r0 r1 r2 h K) (fun K k=>?_) K
 unfold yfY ymg
 rw [yic h1 h2]
 unfold valR at k
 by_cases h:ckC len cuts dens=0
 case neg=>rw [cnT h,yic h1 h2];rw [if_neg h] at k;exact k
 have hv:=ykJ h
 have hl:=hv.len0
 rw [if_pos h] at k
 rw [cnF h,ytR (by omega) ha ha']
 by_cases p1:PT len an ad
 case neg=>rw [decide_eq_false p1,Bool.not_false,yad];rw [if_neg (fun x=>p1 x.1)] at k;exact k
 rw [decide_eq_true p1,Bool.not_true,yaa,ytR (by omega) hb hb']
 by_cases p2:PT len bn bd
 case neg=>rw [decide_eq_false p2,Bool.not_false,yad];rw [if_neg (fun x=>p2 x.2.1)] at k;exact k
 rw [decide_eq_true p2,Bool.not_true,yaa]
 obtain ⟨s1,e1,e2,z1,_⟩:=p1.pt
 obtain ⟨s2,f1,f2,_,_⟩:=p2.pt
 have hless:=yhy s2 s1
 rw [e1,e2,f1,f2] at hless
 rw [hless]
 by_cases p3:rt bn bd<rt an ad
 · rw [cbT p3];rw [if_neg (fun x=>x.2.2 p3)] at k;exact k
 rw [cbF p3]
 rw [if_pos ⟨p1,p2,p3⟩] at k
 refine ⟨dens.length+1,?_⟩
 have c0:((cuts.getD 0 0:Int):Rat)=0:=by rw [hv.2.2.2.2.2.1];rfl
 have:=yuA hv s1 s2 p3 yaN ycb yaT K dens.length 0 (dens.length+1) (rt an ad) 0 (by omega) (by omega) (by decide) (by rw [c0];unfold mxQ mnQ;grind)
 rw [e1,e2,f1,f2] at this
 exact this.mpr k
theorem yD5 {q:Rat} (h:0<q):q.num>0:=by
 have h1:0≤q.num:=Rat.num_nonneg.2 (Rat.le_of_lt h)
 have h2:q.num≠0:=fun e=>by
   have:=Rat.num_eq_zero.1 e
   rw [this] at h;exact Rat.lt_irrefl h
 omega
theorem yxz (h:VC len cuts dens) (an ad:Int) (W1:Int→List PV→List PV→(Int→Prop)→Prop) (W2:Int→Int→Int→(Bool→Prop)→Prop) (W3:Int→Int→(Int→Prop)→Prop) (K:Int→Int→Int→Prop) :
   ∀ (r i n:Nat) (p v:Rat),i+r=dens.length→r<n→yap p→yap v→0<v→¬p<(cuts.getD i 0:Int) →
     ybJ W1 W2 W3 ybl yaT yd4 ycd ygQ yde yfV
       (fun a d f=>(K a d f)) (fun _ _ _ g j k _ _ _ _ _ _ _=>(cbr (decide (k>(0:Int))) (K (0:Int) (0:Int) (6:Int)) (K g j (0:Int))))
       n len (ints cuts) (ints dens) an ad v.num v.den 0 0 p.num p.den i=exK (mrkS cuts dens r i p v) K
 | 0,i,n+1,p,v,hi,hn,hp,hs,h0,hc0=>by
   unfold ybJ mrkS
   rw [yav,cbF (by omega),cbT (yD5 h0)];rfl
 | r+1,i,n+1,p,v,hi,hn,hp,hs,h0,hc0=>by
   unfold ybJ
   have l1:=h.l1;have l2:=h.l2
   have e1:=wib (n:=(i:Int)+1) (by omega) (by omega)
   have sd:=h.sd (i:=i) (by omega)
   have sc:=h.sc (i:=i+1) (by omega)
   have hw:=fun b hb=>yzt h (i:=i) (by omega) hp (b:=b) hb
   rw [yav,yav,cbT (by omega),cbT (yD5 h0),e1,ygA,Int.toNat_natCast,Int.toNat_natCast,asT (by omega),asT (by omega),asC (by omega),ya5 (by omega),ya5 (by omega),yos,yhy hp sc]
   have ih:=fun p v hp hs h0 hc=>yxz h an ad W1 W2 W3 K r (i+1) n p v (by omega) (by omega) hp hs h0 hc
   unfold mrkS
   obtain ⟨c,hc⟩:∃ c:Rat,c=((cuts.getD (i+1) 0:Int):Rat):=⟨_,rfl⟩
   rw [← hc] at sc ih ⊢
   by_cases hpc:p<c
   case neg =>
     rw [decide_eq_false hpc,Bool.not_false,yad,if_pos hpc,ytS hp sc]
     have:mxQ p c=p:=if_neg hpc
     rw [this];exact ih p v hp hs h0 hpc
   rw [decide_eq_true hpc,Bool.not_true,yaa,if_neg (fun x=>x hpc),asT (by omega),asT (by omega),asC (by omega)]
   by_cases hd:dens.getD i 0=0
   · rw [ceT hd,if_pos hd,ytS hp sc]
     have:mxQ p c=c:=if_pos hpc
     rw [this];exact ih c v sc hs h0 Rat.lt_irrefl
   rw [ceF hd,if_neg hd,hw c sc]
   unfold worS
   have m1:mxQ p (cuts.getD i 0:Int)=p:=if_neg hc0
   have m2:mnQ c (cuts.getD (i+1) 0:Int)=c:=by rw [← hc];unfold mnQ;split <;> rfl
   simp only [m1,m2]
   rw [if_neg (fun x=>x.elim (fun y=>y hpc) hd)]
   by_cases s1:yap (c-p)
   case neg=>rw [yiW s1,yiW s1,yrc,cnT (by decide)];rfl
   rw [yiV s1,yiV s1]
   by_cases s2:yap ((c-p)*(dens.getD i 0:Int))
   case neg=>rw [yiW s2,yiW s2,yrc,cnT (by decide)];rfl
   rw [yiV s2,yiV s2,yrb]
   rw [cnF rfl,yhy s2 hs]
   by_cases hwv:(c-p)*(dens.getD i 0:Int)<v
   · rw [decide_eq_true hwv,Bool.not_true,yaa,if_pos hwv,yHh hs s2,ycp]
     by_cases s3:yap (v-(c-p)*(dens.getD i 0:Int))
     · rw [if_pos s3,yiV s3,cnF rfl]
       exact ih c _ sc s3 (by grind) Rat.lt_irrefl
     · rw [if_neg s3,yiW s3,cnT (by decide)];rfl
   · have hdn:((dens.getD i 0:Int):Rat)≠0:=fun e=>hd (Rat.intCast_eq_zero_iff.1 e)
     rw [decide_eq_false hwv,Bool.not_false,yad,if_neg hwv,asT (by omega),asT (by omega),asC (by omega),yos,yK2 hs sd hdn,ycp]
     by_cases s3:yap (v / (dens.getD i 0:Int))
     · rw [if_pos s3,yiV s3,cnF rfl,yvG hp s3,ycp,fit]
       split <;> rfl
     · rw [if_neg s3,yiW s3,cnT (by decide)];rfl
theorem yJS (h1:cuts.length<4611686018427387904) (h2:dens.length<4611686018427387904) {an ad vn vd:Int} (ha:I64 an) (ha':I64 ad) (hv:I64 vn) (hv':I64 vd) (K:Int→Int→Int→Prop) :
   ygR len (ints cuts) (ints dens) an ad vn vd K=exK (mrkR len cuts dens an ad vn vd) K:=by
 refine yBL (fun r0 r1 r2 h K=>yBc _ _ _ _ _ _ _ r0 r1 r2 h K) (fun K k=>?_) K
 unfold ygR ynY
 rw [yic h1 h2]
 unfold mrkR at k
 by_cases h:ckC len cuts dens=0
 case neg=>rw [cnT h,yic h1 h2];rw [if_neg h] at k;exact k
 have hc:=ykJ h
 have hl:=hc.len0
 rw [if_pos h] at k
 rw [cnF h,ytR (by omega) ha ha']
 by_cases p1:PT len an ad
 case neg=>rw [decide_eq_false p1,Bool.not_false,yad];rw [if_neg (fun x=>p1 x.1)] at k;exact k
 rw [decide_eq_true p1,Bool.not_true,yaa,ykH hv hv',chk]
 by_cases p2:RV vn vd
 case neg=>rw [if_neg p2,cnT (by decide)];rw [if_neg (fun x=>p2 x.2.1)] at k;exact k
 rw [if_pos p2,cnF rfl]
 by_cases p3:vn<0
 · rw [cbT p3];rw [if_neg (fun x=>by omega)] at k;exact k
 rw [cbF p3]
 rw [if_pos ⟨p1,p2,by omega⟩] at k
 obtain ⟨s1,e1,e2,z1,_⟩:=p1.pt
 obtain ⟨s2,f1,f2⟩:=yLH p2
 unfold mrkC at k
 refine ⟨dens.length+1,?_⟩
 by_cases p4:vn=0
 · rw [if_pos (Rat.num_eq_zero.1 (f1.trans p4))] at k
   have k:K (rt an ad).num (rt an ad).den 0:=k
   rw [e1,e2] at k
   unfold ybJ
   rw [yav]
   by_cases hz:(0:Int)<dens.length
   · rw [cbT hz,cbF (by omega),cbF (by omega)];exact k
   · rw [cbF hz,cbF (by omega)];exact k
 rw [if_neg (fun x=>p4 (by rw [← f1,x];rfl))] at k
 have hpos:0<rt vn vd:=by
   have a1:0≤rt vn vd:=Rat.num_nonneg.1 (by omega)
   have a2:rt vn vd≠0:=fun x=>p4 (by rw [← f1,x];rfl)
   grind
 have c0:((cuts.getD 0 0:Int):Rat)=0:=by rw [hc.2.2.2.2.2.1];rfl
 have:=yxz hc an ad yaN ycb ydv K dens.length 0 (dens.length+1) (rt an ad) (rt vn vd) (by omega) (by omega) s1 s2 hpos (by rw [c0];grind)
 rw [e1,e2,f1,f2] at this
 exact this.mpr k
end
end Go.Pf.Vc
namespace Go.Pf.Vc
open Go Go.Pf
structure Ck where
 len:Int
 cuts:List Int
 dens:List Int
instance:Inhabited Ck:=⟨⟨0,[],[]⟩⟩
def encC (c:Ck):PV:=.agg [.int .i64 c.len,.data (ints c.cuts),.data (ints c.dens)]
def cks (l:List Ck):List PV:=l.map encC
def Ck.fin (c:Ck):Prop:=c.cuts.length<4611686018427387904∧c.dens.length<4611686018427387904
def Ck.err (c:Ck):Int:=ckC c.len c.cuts c.dens
def Ck.ok (c:Ck):Prop:=VC c.len c.cuts c.dens
instance (c:Ck):Decidable c.ok:=by unfold Ck.ok;infer_instance
theorem yaM (l:List Ck):(cks l).length=l.length:=List.length_map ..
theorem yeu {l:List Ck} {i:Nat} (h:i<l.length):List.getD (cks l) i .nils=encC (l.getD i default):=by
 unfold cks
 rw [List.getD_eq_getElem?_getD,List.getD_eq_getElem?_getD,List.getElem?_map,List.getElem?_eq_getElem h]
 rfl
theorem ydV {α:Type} {l:List α} {i:Nat} (d:α) (h:i<l.length):l.drop i=l.getD i d::l.drop (i+1):=by
 rw [List.drop_eq_getElem_cons h,List.getD_eq_getElem?_getD,List.getElem?_eq_getElem h];rfl
theorem asCk {c:Ck} {P:Prop}:asr (conf (.agg [.i .i64,.d,.d]) (encC c)) P=P:=rfl
theorem ck0 (c:Ck):yab (yak (encC c) 0)=c.len:=rfl
theorem ck1 (c:Ck):ybb (yak (encC c) 1)=ints c.cuts:=rfl
theorem ck2 (c:Ck):ybb (yak (encC c) 2)=ints c.dens:=rfl
def yfm:List Ck→Int
 | []=>0
 | c::t=>if c.err=0 then yfm t else c.err
def yiX (n:Int):List Ck→Bool
 | []=>true
 | c::t=>decide (c.len=n)&&yiX n t
def ydW (l:List Ck) (m:Nat):Int :=
 if l.length>6 then 4 else if m>2000 then 4 else if l.length=0 then 8 else if yfm l=0 then (if yiX (l.getD 0 default).len l then 0 else 8) else yfm l
section
variable {l:List Ck}
def finC (l:List Ck):Prop:=∀ i,i<l.length→(l.getD i default).fin
theorem yHl (hf:finC l) (hl:l.length<4611686018427387904) (x0:Int→Prop) (x1:List PV→List PV→List PV→Int→Int→Bool→Prop) (lg:List PV) :
   ∀ (r i n:Nat),i+r=l.length→r<n→ydc yau x0 x1 n (cks l) lg (cks l) l.length i =
     if yfm (l.drop i)=0 then x1 (cks l) lg (cks l) l.length l.length false else x0 (yfm (l.drop i))
 | 0,i,n+1,hi,hn=>by
   unfold ydc
   rw [cbF (by omega),List.drop_of_length_le (by omega),show (i:Int)=l.length by omega];rfl
 | r+1,i,n+1,hi,hn=>by
   unfold ydc
   have e1:=wib (n:=(i:Int)+1) (by omega) (by omega)
   obtain ⟨f1,f2⟩:=hf i (by omega)
   rw [cbT (by omega),yaM,Int.toNat_natCast,yeu (by omega),asT (by omega),asT (by omega),asCk,ck0,ck1,ck2,ykI (by omega) (by omega),ydV default (by omega),yfm,e1,ygA]
   show cbr ((l.getD i default).err != 0) _ _=_
   by_cases h:(l.getD i default).err=0
   · rw [cnF h,if_pos h];exact yHl hf hl x0 x1 lg r (i+1) n (by omega) (by omega)
   · rw [cnT h,if_neg h,if_neg h];rfl
theorem yHm (hl:l.length<4611686018427387904) (x0:Int→Prop) (x1:List PV→List PV→List PV→Int→Int→Bool→Prop) (lg:List PV) (W) :
   ∀ (r i n:Nat),i+r=l.length→r<n→ycs W x0 x1 n (cks l) lg (cks l) l.length i =
     if yiX (l.getD 0 default).len (l.drop i) then x1 (cks l) lg (cks l) l.length l.length false else x0 8
 | 0,i,n+1,hi,hn=>by
   unfold ycs
   rw [cbF (by omega),List.drop_of_length_le (by omega),show (i:Int)=l.length by omega];rfl
 | r+1,i,n+1,hi,hn=>by
   unfold ycs
   have e1:=wib (n:=(i:Int)+1) (by omega) (by omega)
   rw [cbT (by omega),yaM,Int.toNat_natCast,yeu (by omega),yeu (by omega),asT (by omega),asT (by omega),asCk,asT (by omega),asCk,ck0,ck0,ydV default (by omega),yiX,e1,ygA]
   by_cases h:(l.getD i default).len=(l.getD 0 default).len
   · rw [cnF h,decide_eq_true h,Bool.true_and];exact yHm hl x0 x1 lg W r (i+1) n (by omega) (by omega)
   · rw [cnT h,decide_eq_false h,Bool.false_and,if_neg (by simp)]
theorem yoW (hf:finC l) (hl:l.length<4611686018427387904) (lg:List PV) (K:Int→Prop):ydt (cks l) lg K=K (ydW l lg.length):=by
 refine yyl _ _ _ (fun K k=>?_) K
 unfold ydt ylN
 unfold ydW at k
 rw [yaM]
 by_cases a1:l.length>6
 · rw [cbT (by omega)];rw [if_pos a1] at k;exact k
 rw [cbF (by omega)];rw [if_neg a1] at k
 by_cases a2:lg.length>2000
 · rw [cbT (by omega)];rw [if_pos a2] at k;exact k
 rw [cbF (by omega)];rw [if_neg a2] at k
 by_cases a3:l.length=0
 · rw [ceT (by omega)];rw [if_pos a3] at k;exact k
 rw [ceF (by omega)];rw [if_neg a3] at k
 refine ⟨l.length+1,?_⟩
 have h0:=yHl hf hl (fun c=>K c) (fun a d o p q r=>(∃ e:Nat,ycs yau (fun b=>(K b)) (fun f g i j m n=>(K (0:Int))) e a d a (((List.length a):Nat):Int) (0:Int))) lg l.length 0 (l.length+1) (by omega) (by omega)
 rw [show ((0:Nat):Int)=0 from rfl,List.drop_zero] at h0
 rw [h0]
 by_cases a4:yfm l=0
 · rw [if_pos a4] at k ⊢
   refine ⟨l.length+1,?_⟩
   have h1:=yHm hl (fun b=>(K b)) (fun f g i j m n=>(K (0:Int))) lg yau l.length 0 (l.length+1) (by omega) (by omega)
   rw [show ((0:Nat):Int)=0 from rfl,List.drop_zero] at h1
   rw [yaM,h1]
   split at k <;> rename_i h <;> simp only [h] <;> exact k
 · rw [if_neg a4] at k ⊢;exact k
theorem yHn (hf:finC l) (hl:l.length<4611686018427387904) (x0:Int→Prop) (x1:List PV→List PV→Int→Bool→Prop) (lg:List PV) :
   ∀ (r i n:Nat),i+r=l.length→r<n→ydh yaN x0 x1 n (cks l) lg i =
     if yfm (l.drop i)=0 then x1 (cks l) lg l.length false else x0 (yfm (l.drop i))
 | 0,i,n+1,hi,hn=>by
   unfold ydh
   rw [yaM,cbF (by omega),List.drop_of_length_le (by omega),show (i:Int)=l.length by omega];rfl
 | r+1,i,n+1,hi,hn=>by
   unfold ydh
   have e1:=wib (n:=(i:Int)+1) (by omega) (by omega)
   obtain ⟨f1,f2⟩:=hf i (by omega)
   rw [yaM,cbT (by omega),Int.toNat_natCast,yeu (by omega),asT (by omega),asT (by omega),asCk,ck0,ck1,ck2,yic (by omega) (by omega),ydV default (by omega),yfm,e1,ygA]
   show cbr ((l.getD i default).err != 0) _ _=_
   by_cases h:(l.getD i default).err=0
   · rw [cnF h,if_pos h];exact yHn hf hl x0 x1 lg r (i+1) n (by omega) (by omega)
   · rw [cnT h,if_neg h,if_neg h,asT (by omega),asT (by omega),asCk,yic (by omega) (by omega)];rfl
theorem yHo (hl:l.length<4611686018427387904) (x0:Int→Prop) (x1:List PV→List PV→Int→Bool→Prop) (lg:List PV) (W) :
   ∀ (r i n:Nat),i+r=l.length→r<n→ycu W x0 x1 n (cks l) lg i =
     if yiX (l.getD 0 default).len (l.drop i) then x1 (cks l) lg l.length false else x0 8
 | 0,i,n+1,hi,hn=>by
   unfold ycu
   rw [yaM,cbF (by omega),List.drop_of_length_le (by omega),show (i:Int)=l.length by omega];rfl
 | r+1,i,n+1,hi,hn=>by
   unfold ycu
   have e1:=wib (n:=(i:Int)+1) (by omega) (by omega)
   rw [yaM,cbT (by omega),Int.toNat_natCast,yeu (by omega),yeu (by omega),asT (by omega),asT (by omega),asCk,asT (by omega),asCk,ck0,ck0,ydV default (by omega),yiX,e1,ygA]
   by_cases h:(l.getD i default).len=(l.getD 0 default).len
   · rw [cnF h,decide_eq_true h,Bool.true_and];exact yHo hl x0 x1 lg W r (i+1) n (by omega) (by omega)
   · rw [cnT h,decide_eq_false h,Bool.false_and,if_neg (by simp)]
theorem yoX (hf:finC l) (hl:l.length<4611686018427387904) (lg:List PV) (K:Int→Prop):yeS (cks l) lg K=K (ydW l lg.length):=by
 refine yyz _ _ _ (fun K k=>?_) K
 unfold yeS ymi
 unfold ydW at k
 rw [yaM]
 by_cases a1:l.length>6
 · rw [cbT (by omega)];rw [if_pos a1] at k;exact k
 rw [cbF (by omega)];rw [if_neg a1] at k
 by_cases a2:lg.length>2000
 · rw [cbT (by omega)];rw [if_pos a2] at k;exact k
 rw [cbF (by omega)];rw [if_neg a2] at k
 by_cases a3:l.length=0
 · rw [ceT (by omega)];rw [if_pos a3] at k;exact k
 rw [ceF (by omega)];rw [if_neg a3] at k
 refine ⟨l.length+1,?_⟩
 have h0:=yHn hf hl (fun b=>K b) (fun c d m n=>(∃ e:Nat,ycu yaN (fun a=>(K a)) (fun f g i j=>(K (0:Int))) e c d (0:Int))) lg l.length 0 (l.length+1) (by omega) (by omega)
 rw [show ((0:Nat):Int)=0 from rfl,List.drop_zero] at h0
 rw [h0]
 by_cases a4:yfm l=0
 · rw [if_pos a4] at k ⊢
   refine ⟨l.length+1,?_⟩
   have h1:=yHo hl (fun a=>(K a)) (fun f g i j=>(K (0:Int))) lg yaN l.length 0 (l.length+1) (by omega) (by omega)
   rw [show ((0:Nat):Int)=0 from rfl,List.drop_zero] at h1
   rw [h1]
   split at k <;> rename_i h <;> simp only [h] <;> exact k
 · rw [if_neg a4] at k ⊢;exact k
def Ck.low (c:Ck):Prop:=c.cuts.length≤1000∧c.dens.length≤1000
def lowC (l:List Ck):Prop:=∀ i,i<l.length→(l.getD i default).low
theorem you (l:List Int):ybR 1 (ints l)=true:=by cases l <;> rfl
theorem ysH {l:List Int} (h:l.length≤1000) (K:List PV→Prop):ydp (ints l) K=K (ints l):=by
 show asr (yhR 1 8 (ints l)) (K (ints l))=_
 have:yhR 1 8 (ints l)=true:=by
   unfold yhR
   rw [you,yav,Bool.true_and,decide_eq_true_iff]
   unfold room;omega
 rw [this,yaj]
theorem asTT {c:Bool} {P:Prop} (h:c=true):asr c P=P:=by rw [h,yaj]
theorem yHp (hf:lowC l) (hl:l.length≤1000) (x0:List PV→List PV→Int→Int→Bool→Prop) (x1:List PV→Int→Int→Bool→Prop) :
   ∀ (r i n:Nat) (acc:List PV),i+r=l.length→r<n→acc.length≤i→ycU ydp x0 x1 n acc (cks l) l.length i=x0 (acc++cks (l.drop i)) (cks l) l.length l.length false
 | 0,i,n+1,acc,hi,hn,ha=>by
   unfold ycU
   rw [cbF (by omega),List.drop_of_length_le (by omega),show (i:Int)=l.length by omega]
   show _=x0 (acc++[]) _ _ _ _
   rw [List.append_nil]
 | r+1,i,n+1,acc,hi,hn,ha=>by
   unfold ycU
   have e1:=wib (n:=(i:Int)+1) (by omega) (by omega)
   obtain ⟨f1,f2⟩:=hf i (by omega)
   rw [cbT (by omega),yaM,Int.toNat_natCast,yeu (by omega),asT (by omega),asT (by omega),asCk,ck0,ck1,ck2,ysH f1,ysH f2,asT rfl,asT (by omega),asTT (by rw [decide_eq_false (by omega)];rfl),asT rfl,asT (by unfold room;omega),asTT (by simp),e1,ygA]
   rw [yHp hf hl x0 x1 r (i+1) n _ (by omega) (by omega) (by simp;omega),ydV (i:=i) default (by omega),List.append_assoc];rfl
theorem ytT (hf:lowC l) (hl:l.length≤1000) (K:List PV→Prop):ydu (cks l) K=K (cks l):=by
 refine ywT _ _ (fun K k=>?_) K
 unfold ydu yjP
 cases hc:l with
 | nil =>
   refine ⟨0+1,?_⟩
   rw [hc] at k
   rw [yfa,yaM,cbF (by simp)]
   exact k
 | cons c t =>
   rw [← hc]
   have h0:0<l.length:=by rw [hc];exact Nat.zero_lt_succ _
   refine ⟨(l.length+1)+1,?_⟩
   rw [yfa]
   obtain ⟨f1,f2⟩:=hf 0 (by omega)
   have e1:=wib (n:=(0:Int)+1) (by omega) (by omega)
   rw [yaM,cbT (by omega),show (0:Int).toNat=0 from rfl,yeu (by omega),asT (by omega),asT (by omega),asCk,ck0,ck1,ck2,ysH f1,ysH f2,asTT (by simp),e1,show (0:Int)+1=((0+1:Nat):Int) from rfl]
   rw [yHp hf hl _ _ (l.length-1) (0+1) (l.length+1) _ (by omega) (by omega) (by simp)]
   have e:[PV.agg [PV.int IntKind.i64 (l.getD 0 default).len,PV.data (ints (l.getD 0 default).cuts),PV.data (ints (l.getD 0 default).dens)]]++cks (l.drop (0+1))=cks l:=by
     conv=>rhs;rw [← List.drop_zero (l:=l),ydV default h0]
     rfl
   rw [e,asT rfl,asT (by omega),List.take_length]
   exact k
end
end Go.Pf.Vc
namespace Go.Pf.Vc
open Go Go.Pf
section
variable {l:List Ck}
theorem yid {α:Type} (x:List α):List.take x.length x=x:=List.take_length
theorem yBM (x:List Int):List.isEmpty (ints x)=List.isEmpty x:=by cases x <;> rfl
theorem yHq {len:Int} {cuts dens:List Int} (h1:cuts.length≤1000) (h2:dens.length≤1000) (K:Int→List PV→List PV→Prop) :
   yfH len (ints cuts) (ints dens) K=K len (ints cuts) (ints dens):=by
 unfold yfH ynV
 rw [you,you]
 simp only [yaj,yav,yBM]
 cases cuts with
 | nil =>
   cases dens with
   | nil=>rfl
   | cons y t =>
     simp only [List.isEmpty_nil,List.isEmpty_cons,yad,yaa]
     rw [asT (by unfold room;omega),asT trivial,asT (by omega),← yav,yid];rfl
 | cons x s =>
   cases dens with
   | nil =>
     simp only [List.isEmpty_nil,List.isEmpty_cons,yad,yaa]
     rw [asT (by unfold room;omega),asT trivial,asT (by omega),← yav,yid];rfl
   | cons y t =>
     simp only [List.isEmpty_cons,yaa]
     rw [asT (by unfold room;omega),asT (by unfold room;omega),asT trivial,asT (by omega),asT trivial,asT (by omega)]
     rw [← yav,yid,← yav,yid]
theorem yJT (hf:lowC l) (hl:l.length≤1000) (x0:List PV→List PV→Int→Bool→Prop) (x1:List PV→Int→Bool→Prop) :
   ∀ (r i n:Nat) (acc:List PV),i+r=l.length→r<n→acc.length≤i→ydi yfH x0 x1 n acc (cks l) i=x0 (acc++cks (l.drop i)) (cks l) l.length false
 | 0,i,n+1,acc,hi,hn,ha=>by
   unfold ydi
   rw [yaM,cbF (by omega),List.drop_of_length_le (by omega),show (i:Int)=l.length by omega]
   show _=x0 (acc++[]) _ _ _
   rw [List.append_nil]
 | r+1,i,n+1,acc,hi,hn,ha=>by
   unfold ydi
   have e1:=wib (n:=(i:Int)+1) (by omega) (by omega)
   obtain ⟨f1,f2⟩:=hf i (by omega)
   rw [yaM,cbT (by omega),Int.toNat_natCast,yeu (by omega),asT (by omega),asT (by omega),asCk,ck0,ck1,ck2,yHq f1 f2,asT rfl,asT (by omega),asTT (by rw [decide_eq_false (by omega)];rfl),asT rfl,asT (by unfold room;omega),asTT (by simp),e1,ygA]
   rw [yJT hf hl x0 x1 r (i+1) n _ (by omega) (by omega) (by simp;omega),ydV (i:=i) default (by omega),List.append_assoc];rfl
theorem yD6 (hf:lowC l) (hl:l.length≤1000) (K:List PV→Prop):yeT (cks l) K=K (cks l):=by
 refine yyA _ _ (fun K k=>?_) K
 unfold yeT yml
 cases hc:l with
 | nil =>
   refine ⟨0+1,?_⟩
   rw [hc] at k
   rw [yfv,yaM,cbF (by simp)]
   exact k
 | cons c t =>
   rw [← hc]
   have h0:0<l.length:=by rw [hc];exact Nat.zero_lt_succ _
   refine ⟨(l.length+1)+1,?_⟩
   rw [yfv]
   obtain ⟨f1,f2⟩:=hf 0 (by omega)
   have e1:=wib (n:=(0:Int)+1) (by omega) (by omega)
   rw [yaM,cbT (by omega),show (0:Int).toNat=0 from rfl,yeu (by omega),asT (by omega),asT (by omega),asCk,ck0,ck1,ck2,yHq f1 f2,asTT (by simp),e1,show (0:Int)+1=((0+1:Nat):Int) from rfl]
   rw [yJT hf hl _ _ (l.length-1) (0+1) (l.length+1) _ (by omega) (by omega) (by simp)]
   have e:[PV.agg [PV.int IntKind.i64 (l.getD 0 default).len,PV.data (ints (l.getD 0 default).cuts),PV.data (ints (l.getD 0 default).dens)]]++cks (l.drop (0+1))=cks l:=by
     conv=>rhs;rw [← List.drop_zero (l:=l),ydV default h0]
     rfl
   rw [e,asT rfl,asT (by omega),yid]
   exact k
theorem yuB:∀ (l:List Ck),yfm l=0→∀ i,i<l.length→(l.getD i default).ok
 | c::t,h,0,_=>by
   unfold yfm at h
   split at h
   · rename_i h1;exact ykJ h1
   · rename_i h1;exact absurd h h1
 | c::t,h,i+1,hi=>by
   unfold yfm at h
   split at h
   · exact yuB t h i (by simpa using hi)
   · rename_i h1;exact absurd h h1
theorem yxA {n:Int}:∀ (l:List Ck),yiX n l=true→∀ i,i<l.length→(l.getD i default).len=n
 | c::t,h,0,_=>by
   unfold yiX at h
   simp only [Bool.and_eq_true,decide_eq_true_eq] at h
   exact h.1
 | c::t,h,i+1,hi=>by
   unfold yiX at h
   simp only [Bool.and_eq_true,decide_eq_true_eq] at h
   exact yxA t h.2 i (by simpa using hi)
structure DK (l:List Ck):Prop where
 n6:l.length≤6
 n0:1≤l.length
 ok:∀ i,i<l.length→(l.getD i default).ok
 len:∀ i,i<l.length→(l.getD i default).len=(l.getD 0 default).len
theorem yeX {m:Nat} (h:ydW l m=0):DK l∧m≤2000:=by
 unfold ydW at h
 split at h
 · omega
 split at h
 · omega
 split at h
 · omega
 split at h
 · rename_i h0 h1 h2 h3
   split at h
   · rename_i h4
     exact ⟨⟨by omega,by omega,yuB l h3,yxA l h4⟩,by omega⟩
   · omega
 · rename_i h3;exact absurd h h3
theorem DK.err {l:List Ck} (h:DK l) {m:Nat} (hm:m≤2000):ydW l m=0:=by
 have f:∀ l:List Ck,(∀ i,i<l.length→(l.getD i default).ok)→yfm l=0:=by
   intro l
   induction l with
   | nil=>intro _;rfl
   | cons c t ih =>
     intro h
     unfold yfm
     rw [if_pos (show c.err=0 from (h 0 (Nat.zero_lt_succ _)).ck)]
     exact ih fun i hi=>h (i+1) (by simpa using hi)
 have g:∀ (n:Int) (l:List Ck),(∀ i,i<l.length→(l.getD i default).len=n)→yiX n l=true:=by
   intro n l
   induction l with
   | nil=>intro _;rfl
   | cons c t ih =>
     intro h
     unfold yiX
     rw [Bool.and_eq_true,decide_eq_true_eq]
     exact ⟨h 0 (Nat.zero_lt_succ _),ih fun i hi=>h (i+1) (by simpa using hi)⟩
 have:=h.n6;have:=h.n0
 unfold ydW
 rw [if_neg (by omega),if_neg (by omega),if_neg (by omega),if_pos (f l h.ok),if_pos (g _ l h.len)]
theorem DK.low {l:List Ck} (h:DK l):lowC l:=fun i hi=>by
 have h1:=(h.ok i hi).l1;have h2:=(h.ok i hi).l2
 exact ⟨by omega,by omega⟩
theorem DK.fin {l:List Ck} (h:DK l):finC l:=fun i hi=>by
 have h1:=(h.ok i hi).l1;have h2:=(h.ok i hi).l2
 exact ⟨by omega,by omega⟩
theorem yD7 (hf:finC l) (hl:l.length<4611686018427387904) (K:List PV→List PV→Int→Prop):yaV (cks l) K=if ydW l 0=0 then K (cks l) [] 0 else K [] [] (ydW l 0):=by
 unfold yaV ynI
 rw [yoW hf hl]
 show cbr (ydW l 0 != 0) _ _=_
 by_cases h:ydW l 0=0
 · have hd:=(yeX h).1
   rw [cnF h,if_pos h,ytT hd.low (by have:=hd.n6;omega)]
 · rw [cnT h,if_neg h];rfl
theorem yD8 (hf:finC l) (hl:l.length<4611686018427387904) (K:List PV→List PV→Int→Prop):ydC (cks l) K=if ydW l 0=0 then K (cks l) [] 0 else K [] [] (ydW l 0):=by
 unfold ydC yn7
 rw [yoX hf hl]
 show cbr (ydW l 0 != 0) _ _=_
 by_cases h:ydW l 0=0
 · have hd:=(yeX h).1
   rw [cnF h,if_pos h,yD6 hd.low (by have:=hd.n6;omega)]
 · rw [cnT h,if_neg h,yoX hf hl];rfl
def qrow (agent kind an ad bn bd cn cd:Int):PV:=.agg [.int .i64 agent,.int .u8 kind,.int .i64 an,.int .i64 ad,.int .i64 bn,.int .i64 bd,.int .i64 cn,.int .i64 cd]
def qryR (l:List Ck) (m:Nat) (agent:Int) (ans:Ck→Except Int Rat):Except Int Rat :=
 if ydW l m=0 then (if 0≤agent∧agent<l.length then (match ans (l.getD agent.toNat default) with
   | .ok p=>if m≥2000 then .error 4 else .ok p
   | .error e=>.error e) else .error 2) else .error (ydW l m)
def qryK (l:List Ck) (lg:List PV) (row:Rat→PV) (e:Except Int Rat) (K:List PV→List PV→Int→Int→Int→Prop):Prop :=
 match e with
 | .ok p=>K (cks l) (lg++[row p]) p.num p.den 0
 | .error c=>K [] [] 0 0 c
theorem yJU {w:(List PV→List PV→Int→Int→Int→Prop)→Prop} {l:List Ck} {lg:List PV} {row:Rat→PV} {e:Except Int Rat} (det:∀ r0 r1 r2 r3 r4,(∀ K:List PV→List PV→Int→Int→Int→Prop,K r0 r1 r2 r3 r4→w K)→∀ K,w K=K r0 r1 r2 r3 r4)
   (h:∀ K,qryK l lg row e K→w K) (K):w K=qryK l lg row e K:=by
 cases e with
 | ok q=>exact det _ _ _ _ _ h K
 | error c=>exact det _ _ _ _ _ h K
theorem mk1 {z q:PV} {lg:List PV} {m:Nat} (hm:m=lg.length) :
   List.take ((0+m)+1) ((List.take (0+(0+m)) (lg++(List.drop (0+m) (List.replicate (m+1) z))))++(([q]:List PV)++(List.drop ((0+(0+m))+1) (lg++(List.drop (0+m) (List.replicate (m+1) z))))))=lg++[q]:=by
 subst hm
 simp
 rw [List.take_of_length_le (by simp)]
theorem yGg (lg:List PV) (agent:Int) (K:Bool→Prop):ycV (cks l) lg agent K=K (decide (0≤agent∧agent<l.length)):=by
 unfold ycV ygr
 rw [yaM]
 by_cases h:agent≥0
 · rw [cbT h]
   congr 1
   rw [decide_eq_decide];omega
 · rw [cbF h,decide_eq_false (by omega)]
theorem yJV (lg:List PV) (agent:Int) (K:Bool→Prop):yjp (cks l) lg agent K=K (decide (0≤agent∧agent<l.length)):=by
 unfold yjp ymo
 rw [yaM]
 by_cases h:agent≥0
 · rw [cbT h]
   congr 1
   rw [decide_eq_decide];omega
 · rw [cbF h,decide_eq_false (by omega)]
def Ck.mark (an ad vn vd:Int) (c:Ck):Except Int Rat:=mrkR c.len c.cuts c.dens an ad vn vd
def Ck.value (an ad bn bd:Int) (c:Ck):Except Int Rat:=valR c.len c.cuts c.dens an ad bn bd
theorem yJW (hf:finC l) (hl:l.length<4611686018427387904) {lg:List PV} (hlg:ybR 8 lg=true) {agent an ad vn vd:Int} (ha:I64 an) (ha':I64 ad) (hv:I64 vn) (hv':I64 vd) (K) :
   yc2 (cks l) lg agent an ad vn vd K=qryK l lg (fun p=>qrow agent 2 an ad vn vd p.num p.den) (qryR l lg.length agent (Ck.mark an ad vn vd)) K:=by
 refine yJU (fun r0 r1 r2 r3 r4 h K=>yAM _ _ _ _ _ _ _ r0 r1 r2 r3 r4 h K) (fun K k=>?_) K
 unfold yc2 ynK
 unfold qryR at k
 rw [yoW hf hl]
 by_cases h:ydW l lg.length=0
 case neg=>rw [cnT h];rw [if_neg h] at k;exact k
 obtain ⟨hd,hm⟩:=yeX h
 rw [if_pos h] at k
 rw [cnF h,yGg]
 by_cases h2:0≤agent∧agent<l.length
 case neg=>rw [decide_eq_false h2,Bool.not_false,yad];rw [if_neg h2] at k;exact k
 rw [if_pos h2] at k
 obtain ⟨a,rfl⟩:∃ a:Nat,agent=a:=⟨agent.toNat,by omega⟩
 have ha2:a<l.length:=by omega
 rw [Int.toNat_natCast] at k
 obtain ⟨f1,f2⟩:=hf a ha2
 rw [decide_eq_true h2,Bool.not_true,yaa,ygt,yfB,yaM,Int.toNat_natCast,yeu ha2,asT (by omega),asT (by omega),asCk,ck0,ck1,ck2,yJP (by omega) (by omega) ha ha' hv hv']
 have em:Ck.mark an ad vn vd (l.getD a default)=mrkR (l.getD a default).len (l.getD a default).cuts (l.getD a default).dens an ad vn vd:=rfl
 rw [em] at k
 cases hr:mrkR (l.getD a default).len (l.getD a default).cuts (l.getD a default).dens an ad vn vd with
 | error c =>
   rw [hr] at k
   have k:K [] [] 0 0 c:=k
   rw [yrc]
   have hc:c≠0:=by
     intro hc
     subst hc
     unfold mrkR at hr
     split at hr
     · split at hr
       · unfold mrkC at hr
         split at hr
         · cases hr
         · have no:∀ (r i:Nat) (p v:Rat),mrkS (l.getD a default).cuts (l.getD a default).dens r i p v≠.error 0:=by
             intro r
             induction r with
             | zero=>intro i p v e;unfold mrkS at e;cases e
             | succ r ih =>
               intro i p v e
               unfold mrkS fit at e
               repeat' (first | split at e | dsimp only at e)
               all_goals first | exact ih _ _ _ e | cases e
           exact no _ _ _ _ hr
       · cases hr
     · rename_i h5;exact h5 (Except.error.inj hr)
   rw [cnT hc];exact k
 | ok p =>
   rw [hr] at k
   rw [yrb,cnF rfl]
   by_cases h3:lg.length≥2000
   · rw [cbT (by omega)]
     have k:qryK l lg _ (if lg.length≥2000 then .error 4 else .ok p) K:=k
     rw [if_pos h3] at k;exact k
   · have k:qryK l lg _ (if lg.length≥2000 then .error 4 else .ok p) K:=k
     rw [if_neg h3] at k
     have k:K (cks l) (lg++[qrow a 2 an ad vn vd p.num p.den]) p.num p.den 0:=k
     have e1:=wib (n:=(lg.length:Int)+1) (by omega) (by omega)
     have e2:((lg.length:Int)+1).toNat=lg.length+1:=by omega
     rw [cbF (by omega),e1,e2,asT (by omega),asT (by unfold room;omega),ytT hd.low (by have:=hd.n6;omega),hlg,yaj]
     rw [asT (by simp),asT (by omega)]
     cases hlg2:lg with
     | nil =>
       rw [List.isEmpty_nil,yad,asT (by simp),asT (by simp),asT (by simp),asT (by simp),asT (by simp)]
       rw [hlg2] at k
       exact k
     | cons x t =>
       rw [← hlg2,show List.isEmpty lg=false by rw [hlg2];rfl,yaa,asT (by omega),asT (by simp),asT (by omega),asT (by omega),asT (by simp),asT (by omega)]
       rw [mk1 rfl]
       exact k
end
end Go.Pf.Vc
namespace Go.Pf.Vc
open Go Go.Pf
section
variable {l:List Ck}
theorem yJX (cuts dens:List Int):∀ (r i:Nat) (p v:Rat),mrkS cuts dens r i p v≠.error 0:=by
 intro r
 induction r with
 | zero=>intro i p v e;unfold mrkS at e;cases e
 | succ r ih =>
   intro i p v e
   unfold mrkS fit at e
   repeat' (first | split at e | dsimp only at e)
   all_goals first | exact ih _ _ _ e | cases e
theorem yD9 {len:Int} {cuts dens:List Int} {an ad vn vd:Int}:mrkR len cuts dens an ad vn vd≠.error 0:=by
 intro hr
 unfold mrkR at hr
 split at hr
 · split at hr
   · unfold mrkC at hr
     split at hr
     · cases hr
     · exact yJX _ _ _ _ _ _ hr
   · cases hr
 · rename_i h5;exact h5 (Except.error.inj hr)
theorem yJY (cuts dens:List Int) (b:Rat):∀ (r i:Nat) (p v:Rat),valS cuts dens b r i p v≠.error 0:=by
 intro r
 induction r with
 | zero=>intro i p v e;unfold valS at e;cases e
 | succ r ih =>
   intro i p v e
   unfold valS fit at e
   repeat' (first | split at e | dsimp only at e)
   all_goals first | exact ih _ _ _ e | cases e
theorem yxB {len:Int} {cuts dens:List Int} {an ad vn vd:Int}:valR len cuts dens an ad vn vd≠.error 0:=by
 intro hr
 unfold valR at hr
 split at hr
 · split at hr
   · exact yJY _ _ _ _ _ _ _ hr
   · cases hr
 · rename_i h5;exact h5 (Except.error.inj hr)
def ansQ (kind an ad bn bd:Int) (c:Ck):Except Int Rat:=if kind=1 then c.value an ad bn bd else c.mark an ad bn bd
theorem yJZ {kind an ad bn bd:Int} {c:Ck}:ansQ kind an ad bn bd c≠.error 0:=by
 unfold ansQ
 split
 · exact yxB
 · exact yD9
theorem yIm (hf:finC l) (hl:l.length<4611686018427387904) {lg:List PV} (hlg:ybR 8 lg=true) {agent an ad vn vd:Int} (ha:I64 an) (ha':I64 ad) (hv:I64 vn) (hv':I64 vd) (K) :
   ybZ (cks l) lg agent an ad vn vd K=qryK l lg (fun p=>qrow agent 1 an ad vn vd p.num p.den) (qryR l lg.length agent (Ck.value an ad vn vd)) K:=by
 refine yJU (fun r0 r1 r2 r3 r4 h K=>yym _ _ _ _ _ _ _ r0 r1 r2 r3 r4 h K) (fun K k=>?_) K
 unfold ybZ ylQ
 unfold qryR at k
 rw [yoW hf hl]
 by_cases h:ydW l lg.length=0
 case neg=>rw [cnT h];rw [if_neg h] at k;exact k
 obtain ⟨hd,hm⟩:=yeX h
 rw [if_pos h] at k
 rw [cnF h,yGg]
 by_cases h2:0≤agent∧agent<l.length
 case neg=>rw [decide_eq_false h2,Bool.not_false,yad];rw [if_neg h2] at k;exact k
 rw [if_pos h2] at k
 obtain ⟨a,rfl⟩:∃ a:Nat,agent=a:=⟨agent.toNat,by omega⟩
 have ha2:a<l.length:=by omega
 rw [Int.toNat_natCast] at k
 obtain ⟨f1,f2⟩:=hf a ha2
 rw [decide_eq_true h2,Bool.not_true,yaa,yfC,yfl,yaM,Int.toNat_natCast,yeu ha2,asT (by omega),asT (by omega),asCk,ck0,ck1,ck2,yIj (by omega) (by omega) ha ha' hv hv']
 have em:Ck.value an ad vn vd (l.getD a default)=valR (l.getD a default).len (l.getD a default).cuts (l.getD a default).dens an ad vn vd:=rfl
 rw [em] at k
 cases hr:valR (l.getD a default).len (l.getD a default).cuts (l.getD a default).dens an ad vn vd with
 | error c =>
   rw [hr] at k
   have k:K [] [] 0 0 c:=k
   rw [yrc]
   have hc:c≠0:=fun hc=>yxB (hc ▸ hr)
   rw [cnT hc];exact k
 | ok p =>
   rw [hr] at k
   rw [yrb,cnF rfl]
   by_cases h3:lg.length≥2000
   · rw [cbT (by omega)]
     have k:qryK l lg _ (if lg.length≥2000 then .error 4 else .ok p) K:=k
     rw [if_pos h3] at k;exact k
   · have k:qryK l lg _ (if lg.length≥2000 then .error 4 else .ok p) K:=k
     rw [if_neg h3] at k
     have k:K (cks l) (lg++[qrow a 1 an ad vn vd p.num p.den]) p.num p.den 0:=k
     have e1:=wib (n:=(lg.length:Int)+1) (by omega) (by omega)
     have e2:((lg.length:Int)+1).toNat=lg.length+1:=by omega
     rw [cbF (by omega),e1,e2,asT (by omega),asT (by unfold room;omega),ytT hd.low (by have:=hd.n6;omega),hlg,yaj]
     rw [asT (by simp),asT (by omega)]
     cases hlg2:lg with
     | nil =>
       rw [List.isEmpty_nil,yad,asT (by simp),asT (by simp),asT (by simp),asT (by simp),asT (by simp)]
       rw [hlg2] at k
       exact k
     | cons x t =>
       rw [← hlg2,show List.isEmpty lg=false by rw [hlg2];rfl,yaa,asT (by omega),asT (by simp),asT (by omega),asT (by omega),asT (by simp),asT (by omega)]
       rw [mk1 rfl]
       exact k
theorem yIn {a:Nat} (ha2:a<l.length) (hf:finC l) (kind:Int) {an ad bn bd:Int} (cn cd:Int) (ha:I64 an) (ha':I64 ad) (hb:I64 bn) (hb':I64 bd) (K:Int→Int→Int→Prop) :
   yh2 (cks l) a kind an ad bn bd cn cd K=exK (ansQ kind an ad bn bd (l.getD a default)) K:=by
 unfold yh2 yjT ansQ
 obtain ⟨f1,f2⟩:=hf a ha2
 rw [yaM,Int.toNat_natCast,yeu ha2]
 by_cases h:kind=1
 · rw [ceT h,if_pos h,asT (by omega),asT (by omega),asCk,ck0,ck1,ck2,yIl (by omega) (by omega) ha ha' hb hb'];rfl
 · rw [ceF h,if_neg h,asT (by omega),asT (by omega),asCk,ck0,ck1,ck2,yJS (by omega) (by omega) ha ha' hb hb'];rfl
theorem yEa (hf:finC l) (hl:l.length<4611686018427387904) {lg:List PV} (hlg:ybR 8 lg=true) {agent:Int} (kind:Int) {an ad bn bd:Int} (cn cd:Int) (ha:I64 an) (ha':I64 ad) (hb:I64 bn) (hb':I64 bd) (K) :
   yeU (cks l) lg agent kind an ad bn bd cn cd K=qryK l lg (fun p=>qrow agent kind an ad bn bd p.num p.den) (qryR l lg.length agent (ansQ kind an ad bn bd)) K:=by
 refine yJU (fun r0 r1 r2 r3 r4 h K=>yyB _ _ _ _ _ _ _ _ _ _ r0 r1 r2 r3 r4 h K) (fun K k=>?_) K
 unfold yeU ymq
 unfold qryR at k
 rw [yoX hf hl]
 by_cases h:ydW l lg.length=0
 case neg=>rw [cnT h,yoX hf hl];rw [if_neg h] at k;exact k
 obtain ⟨hd,hm⟩:=yeX h
 rw [if_pos h] at k
 rw [cnF h,yJV]
 by_cases h2:0≤agent∧agent<l.length
 case neg=>rw [decide_eq_false h2,Bool.not_false,yad];rw [if_neg h2] at k;exact k
 rw [if_pos h2] at k
 obtain ⟨a,rfl⟩:∃ a:Nat,agent=a:=⟨agent.toNat,by omega⟩
 have ha2:a<l.length:=by omega
 rw [Int.toNat_natCast] at k
 rw [decide_eq_true h2,Bool.not_true,yaa,yIn ha2 hf kind cn cd ha ha' hb hb']
 cases hr:ansQ kind an ad bn bd (l.getD a default) with
 | error c =>
   rw [hr] at k
   have k:K [] [] 0 0 c:=k
   rw [yrc]
   have hc:c≠0:=fun hc=>yJZ (hc ▸ hr)
   rw [cnT hc];exact k
 | ok p =>
   rw [hr] at k
   rw [yrb,cnF rfl]
   by_cases h3:lg.length≥2000
   · rw [ceT (by omega)]
     have k:qryK l lg _ (if lg.length≥2000 then .error 4 else .ok p) K:=k
     rw [if_pos h3] at k;exact k
   · have k:qryK l lg _ (if lg.length≥2000 then .error 4 else .ok p) K:=k
     rw [if_neg h3] at k
     have k:K (cks l) (lg++[qrow a kind an ad bn bd p.num p.den]) p.num p.den 0:=k
     rw [ceF (by omega),yD6 hd.low (by have:=hd.n6;omega),hlg,yaj]
     cases hlg2:lg with
     | nil =>
       rw [List.isEmpty_nil,yad]
       rw [hlg2] at k
       exact k
     | cons x t =>
       rw [← hlg2,show List.isEmpty lg=false by rw [hlg2];rfl,yaa,asT (by unfold room;omega),asT rfl,asT (by omega),asTT (by rw [decide_eq_false (by omega)];rfl),asT rfl,asT (by unfold room;omega),asT rfl,asT (by omega),yid]
       exact k
theorem yJ0 (hf:finC l) (hl:l.length<4611686018427387904) {lg:List PV} (hlg:ybR 8 lg=true) {agent an ad vn vd:Int} (ha:I64 an) (ha':I64 ad) (hv:I64 vn) (hv':I64 vd) (K) :
   yee (cks l) lg agent an ad vn vd K=qryK l lg (fun p=>qrow agent 2 an ad vn vd p.num p.den) (qryR l lg.length agent (Ck.mark an ad vn vd)) K:=by
 unfold yee yn8
 rw [yEa hf hl hlg 2 0 0 ha ha' hv hv'];rfl
theorem yIo (hf:finC l) (hl:l.length<4611686018427387904) {lg:List PV} (hlg:ybR 8 lg=true) {agent an ad vn vd:Int} (ha:I64 an) (ha':I64 ad) (hv:I64 vn) (hv':I64 vd) (K) :
   ydx (cks l) lg agent an ad vn vd K=qryK l lg (fun p=>qrow agent 1 an ad vn vd p.num p.den) (qryR l lg.length agent (Ck.value an ad vn vd)) K:=by
 unfold ydx yms
 rw [yEa hf hl hlg 1 0 0 ha ha' hv hv'];rfl
def yBN (l:List Ck):Bool:=l.any (fun c=>decide (c.cuts.length>60)||decide (c.dens.length>60))||decide (l.length>10)
theorem yIp {len:Int} {cuts dens:List Int} (K:Bool→Prop):yeR len (ints cuts) (ints dens) K=K (decide (cuts.length>60)||decide (dens.length>60)):=by
 unfold yeR ylY
 rw [yav,yav]
 by_cases h:cuts.length>60
 · rw [cbT (by omega),decide_eq_true h];rfl
 · rw [cbF (by omega),decide_eq_false h,Bool.false_or]
   congr 1;rw [decide_eq_decide];omega
theorem ymX (hl:l.length≤9223372036854775807) (K:Bool→Prop) :
   ∀ (r i n:Nat),i+r=l.length→r<n→ybD yeR (fun a=>(K a)) (fun b _ _=>(K (decide ((((List.length b):Nat):Int)>(10:Int))))) n (cks l) i =
     K ((l.drop i).any (fun c=>decide (c.cuts.length>60)||decide (c.dens.length>60))||decide (l.length>10))
 | 0,i,n+1,hi,hn=>by
   unfold ybD
   rw [yaM,cbF (by omega),List.drop_of_length_le (by omega)]
   show K _=K (false||_)
   rw [Bool.false_or]
   congr 1;rw [decide_eq_decide];omega
 | r+1,i,n+1,hi,hn=>by
   unfold ybD
   have e1:=wib (n:=(i:Int)+1) (by omega) (by omega)
   rw [yaM,cbT (by omega),Int.toNat_natCast,yeu (by omega),asT (by omega),asT (by omega),asCk,ck0,ck1,ck2,yIp,ydV default (by omega),List.any_cons,e1,ygA]
   cases hb:(decide ((l.getD i default).cuts.length>60)||decide ((l.getD i default).dens.length>60)) with
   | true=>rw [yad];rfl
   | false=>rw [yaa,Bool.false_or];exact ymX hl K r (i+1) n (by omega) (by omega)
theorem yyL (hl:l.length≤9223372036854775807) (K:Bool→Prop):ycW (cks l) K=K (yBN l):=by
 refine yq5 _ _ (fun K k=>?_) K
 unfold ycW ygu
 refine ⟨l.length+1,?_⟩
 have:=ymX hl K l.length 0 (l.length+1) (by omega) (by omega)
 rw [show ((0:Nat):Int)=0 from rfl,List.drop_zero] at this
 rw [this];exact k
theorem yGh (h:yBN l=false):l.length≤10∧lowC l∧finC l:=by
 unfold yBN at h
 simp only [Bool.or_eq_false_iff,decide_eq_false_iff_not,List.any_eq_false,Bool.not_eq_true,Nat.not_lt] at h
 have hh:∀ i,i<l.length→(l.getD i default).cuts.length≤60∧(l.getD i default).dens.length≤60:=by
   intro i hi
   have hm:l.getD i default∈l:=by rw [List.getD_eq_getElem?_getD,List.getElem?_eq_getElem hi];exact List.getElem_mem hi
   have:=h.1 _ hm
   omega
 exact ⟨by omega,fun i hi=>⟨by have:=hh i hi;omega,by have:=hh i hi;omega⟩,fun i hi=>⟨by have:=hh i hi;omega,by have:=hh i hi;omega⟩⟩
def shr (c:Ck) (n:Int):Rat:=(totC c.cuts c.dens:Rat) / (n:Rat)
theorem yIq {n d:Int} (hn:-1000000000000000000≤n∧n≤1000000000000000000) (hd:1≤d∧d≤1000000000000000000):yap ((n:Rat) / (d:Rat)):=by
 have e:(n:Rat) / (d:Rat)=mkRat n d.toNat:=by
   rw [Rat.mkRat_eq_div]
   have h1:((d.toNat:Nat):Int)=d:=by omega
   have h2:((d.toNat:Nat):Rat)=(d:Rat):=by rw [← Rat.intCast_natCast,h1]
   rw [h2]
 rw [e]
 unfold yap
 rw [Rat.num_mkRat,Rat.den_mkRat,if_neg (by omega),if_neg (by omega)]
 have g0:0<d.toNat.gcd n.natAbs:=Nat.gcd_pos_of_pos_left _ (by omega)
 have h1:(n / (d.toNat.gcd n.natAbs:Nat)).natAbs≤n.natAbs:=by
   rw [Int.natAbs_ediv_of_dvd,Int.natAbs_natCast]
   · exact Nat.div_le_self _ _
   · rw [← Int.dvd_natAbs,Int.ofNat_dvd];exact Nat.gcd_dvd_right _ _
 have h2:d.toNat / d.toNat.gcd n.natAbs≤d.toNat:=Nat.div_le_self _ _
 generalize n / (d.toNat.gcd n.natAbs:Nat)=x at *
 generalize d.toNat / d.toNat.gcd n.natAbs=y at *
 omega
theorem yzu {c:Ck} (h:c.ok) {n:Int} (hn:1≤n∧n≤1000):yap (shr c n):=by
 have:=yra h
 exact yIq (by omega) (by omega)
end
end Go.Pf.Vc
namespace Go.Pf.Vc
open Go Go.Pf
structure Qy where
 agent:Int
 kind:Int
 an:Int
 ad:Int
 bn:Int
 bd:Int
 cn:Int
 cd:Int
 deriving DecidableEq
instance:Inhabited Qy:=⟨⟨0,0,0,0,0,0,0,0⟩⟩
def encQ (q:Qy):PV:=qrow q.agent q.kind q.an q.ad q.bn q.bd q.cn q.cd
def logs (l:List Qy):List PV:=l.map encQ
theorem ycB (l:List Qy):(logs l).length=l.length:=List.length_map ..
theorem yHr {l:List Qy} {i:Nat} (h:i<l.length):List.getD (logs l) i .nils=encQ (l.getD i default):=by
 unfold logs
 rw [List.getD_eq_getElem?_getD,List.getD_eq_getElem?_getD,List.getElem?_map,List.getElem?_eq_getElem h]
 rfl
theorem yoY (l:List Qy):ybR 8 (logs l)=true:=by cases l <;> rfl
theorem ysI (l m:List Qy):logs (l++m)=logs l++logs m:=List.map_append ..
theorem asQ {q:Qy} {P:Prop}:asr (conf (.agg [.i .i64,.i .u8,.i .i64,.i .i64,.i .i64,.i .i64,.i .i64,.i .i64]) (encQ q)) P=P:=rfl
theorem qeq (q r:Qy):((q.agent == r.agent)&&((q.kind == r.kind)&&((q.an == r.an)&&((q.ad == r.ad)&&((q.bn == r.bn)&&((q.bd == r.bd)&&((q.cn == r.cn)&&((q.cd == r.cd)&&true))))))))=decide (q=r):=by
 cases q;cases r
 rw [Bool.eq_iff_iff]
 simp
theorem yIr {α:Type} [DecidableEq α] (d:α) {a b:List α} {i:Nat} (ha:i<a.length) (hb:i<b.length):decide (a.drop i=b.drop i)=(decide (a.getD i d=b.getD i d)&&decide (a.drop (i+1)=b.drop (i+1))):=by
 rw [ydV d ha,ydV d hb,Bool.eq_iff_iff]
 simp
theorem yqg {a b:List Qy} (hab:a.length=b.length) (hl:a.length<4611686018427387904) (K:Bool→Prop) :
   ∀ (r i n:Nat),i+r=a.length→r<n→ybw (fun d=>K d) (fun _ _ _ _=>K true) n (logs a) (logs b) i=K (decide (a.drop i=b.drop i))
 | 0,i,n+1,hi,hn=>by
   unfold ybw
   rw [ycB,cbF (by omega),List.drop_of_length_le (by omega),List.drop_of_length_le (by omega)];rfl
 | r+1,i,n+1,hi,hn=>by
   unfold ybw
   have e1:=wib (n:=(i:Int)+1) (by omega) (by omega)
   rw [ycB,cbT (by omega),ycB,Int.toNat_natCast,yHr (by omega),yHr (by omega),asT (by omega),asT (by omega),asQ,asT (by omega),asT (by omega),asQ,yIr default (by omega) (by omega),e1,ygA]
   have q2:((yab (yak (encQ (a.getD i default)) 0) == yab (yak (encQ (b.getD i default)) 0))&&((yab (yak (encQ (a.getD i default)) 1) == yab (yak (encQ (b.getD i default)) 1))&&((yab (yak (encQ (a.getD i default)) 2) == yab (yak (encQ (b.getD i default)) 2))&&((yab (yak (encQ (a.getD i default)) 3) == yab (yak (encQ (b.getD i default)) 3))&&((yab (yak (encQ (a.getD i default)) 4) == yab (yak (encQ (b.getD i default)) 4))&&((yab (yak (encQ (a.getD i default)) 5) == yab (yak (encQ (b.getD i default)) 5))&&((yab (yak (encQ (a.getD i default)) 6) == yab (yak (encQ (b.getD i default)) 6))&&((yab (yak (encQ (a.getD i default)) 7) == yab (yak (encQ (b.getD i default)) 7))&&true))))))))=decide (a.getD i default=b.getD i default):=qeq (a.getD i default) (b.getD i default)
   have ih:=yqg hab hl K r (i+1) n (by omega) (by omega)
   refine (congrArg (fun c=>cbr (!c) (K false) (ybw (fun d=>K d) (fun e f g h=>K true) n (logs a) (logs b) ((i+1:Nat):Int))) q2).trans ?_
   cases decide (a.getD i default=b.getD i default) with
   | true=>rw [Bool.not_true,yaa,Bool.true_and];exact ih
   | false=>rw [Bool.not_false,yad,Bool.false_and]
theorem yEb {a b:List Qy} (ha:a.length<4611686018427387904) (_:b.length<4611686018427387904) (K:Bool→Prop):yce (logs a) (logs b) K=K (decide (a=b)):=by
 refine ytI _ _ _ (fun K k=>?_) K
 unfold yce yhD
 rw [ycB,ycB]
 by_cases h:a.length=b.length
 · rw [cnF (by omega)]
   refine ⟨a.length+1,?_⟩
   have:=yqg h ha K a.length 0 (a.length+1) (by omega) (by omega)
   rw [show ((0:Nat):Int)=0 from rfl,List.drop_zero,List.drop_zero] at this
   exact this.mpr k
 · rw [cnT (by omega)]
   rw [decide_eq_false (fun e=>h (by rw [e]))] at k;exact k
structure Sp where
 a:Int
 b:Int
 c:Int
 d:Int
 deriving DecidableEq
instance:Inhabited Sp:=⟨⟨0,0,0,0⟩⟩
def encS (s:Sp):PV:=.agg [.int .i64 s.a,.int .i64 s.b,.int .i64 s.c,.int .i64 s.d]
def yov (l:List Sp):List PV:=l.map encS
def yfJ (l:List (List Sp)):List PV:=l.map fun s=>.data (yov s)
theorem yzv (l:List Sp):(yov l).length=l.length:=List.length_map ..
theorem yJ1 {l:List Sp} {i:Nat} (h:i<l.length):List.getD (yov l) i .nils=encS (l.getD i default):=by
 unfold yov
 rw [List.getD_eq_getElem?_getD,List.getD_eq_getElem?_getD,List.getElem?_map,List.getElem?_eq_getElem h]
 rfl
theorem yxC (l:List (List Sp)):(yfJ l).length=l.length:=List.length_map ..
theorem yIs {l:List (List Sp)} {i:Nat} (h:i<l.length):List.getD (yfJ l) i .nils=.data (yov (l.getD i [])):=by
 unfold yfJ
 rw [List.getD_eq_getElem?_getD,List.getD_eq_getElem?_getD,List.getElem?_map,List.getElem?_eq_getElem h]
 rfl
theorem asS {s:Sp} {P:Prop}:asr (conf (.agg [.i .i64,.i .i64,.i .i64,.i .i64]) (encS s)) P=P:=rfl
theorem asD {r:List PV} {P:Prop}:asr (conf (.one .d) (.data r)) P=P:=rfl
theorem yxD {s:List Sp} (hl:s.length<4611686018427387904) (K:Bool→Prop) :
   ∀ (r i n:Nat),i+r=s.length→r<n→ydO (fun a=>(K a)) (fun _ _ _ _=>(K true)) n (yov s) (yov s) i=K true
 | 0,i,n+1,hi,hn=>by
   unfold ydO
   rw [yzv,cbF (by omega)]
 | r+1,i,n+1,hi,hn=>by
   unfold ydO
   have e1:=wib (n:=(i:Int)+1) (by omega) (by omega)
   rw [yzv,cbT (by omega),Int.toNat_natCast,yJ1 (by omega),asT (by omega),asT (by omega),asS,asT (by omega),asT (by omega),asS,e1,ygA]
   simp only [beq_self_eq_true,Bool.and_self,Bool.not_true,yaa]
   exact yxD hl K r (i+1) n (by omega) (by omega)
theorem yGi {s:List Sp} (hl:s.length<4611686018427387904) (K:Bool→Prop):ydE (yov s) (yov s) K=K true:=by
 refine yBx _ _ _ (fun K k=>?_) K
 unfold ydE yoe
 rw [cnF rfl]
 refine ⟨s.length+1,?_⟩
 exact (yxD hl K s.length 0 (s.length+1) (by omega) (by omega)).mpr k
theorem yxE {l:List (List Sp)} (hf:∀ i,i<l.length→(l.getD i []).length<4611686018427387904) (hl:l.length<4611686018427387904) (K:Bool→Prop) :
   ∀ (r i n:Nat),i+r=l.length→r<n→ydP ydE (fun a=>(K a)) (fun _ _ _ _=>(K true)) n (yfJ l) (yfJ l) i=K true
 | 0,i,n+1,hi,hn=>by
   unfold ydP
   rw [yxC,cbF (by omega)]
 | r+1,i,n+1,hi,hn=>by
   unfold ydP
   have e1:=wib (n:=(i:Int)+1) (by omega) (by omega)
   rw [yxC,cbT (by omega),Int.toNat_natCast,yIs (by omega),asT (by omega),asT (by omega),asD,asT (by omega),asT (by omega),asD]
   show ydE (yov (l.getD i [])) (yov (l.getD i [])) _=_
   rw [yGi (hf i (by omega)),Bool.not_true,yaa,e1,ygA]
   exact yxE hf hl K r (i+1) n (by omega) (by omega)
theorem yxF {l:List (List Sp)} (hf:∀ i,i<l.length→(l.getD i []).length<4611686018427387904) (hl:l.length<4611686018427387904) (K:Bool→Prop):yfI (yfJ l) (yfJ l) K=K true:=by
 refine yBy _ _ _ (fun K k=>?_) K
 unfold yfI yog
 rw [cnF rfl]
 refine ⟨l.length+1,?_⟩
 exact (yxE hf hl K l.length 0 (l.length+1) (by omega) (by omega)).mpr k
end Go.Pf.Vc
namespace Go.Pf.Vc
open Go Go.Pf
section
variable {l:List Ck}
theorem yIt (K:Bool→Prop):yfI [] [] K=K true:=yxF (l:=[]) (fun i hi=>absurd hi (Nat.not_lt_zero i)) (by decide) K
theorem yqh {a:List Qy} (ha:a.length<4611686018427387904) (K:Bool→Prop):yce (logs a) (logs a) K=K true:=by
 rw [yEb ha ha,decide_eq_true rfl]
theorem yBO (K:Bool→Prop):yce [] [] K=K true:=yqh (a:=[]) (by decide) K
end
end Go.Pf.Vc
namespace Go.Pf.Vc
open Go Go.Pf
def dsC:DS:=.a [.i .i64,.s (.i .i64),.s (.i .i64)]
theorem yHs {n:Int} (h:inK .i64 n):I64 n:=by
 have e1:IntKind.i64.min=-9223372036854775808:=by decide
 have e2:IntKind.i64.max=9223372036854775807:=by decide
 unfold inK at h
 rw [e1,e2] at h
 exact h
theorem F_i {c:List PV} (h:HasF (.i .i64) c):∃ n,c=[.int .i64 n]∧I64 n:=by
 simp only [HasF] at h
 obtain ⟨n,e,k⟩:=h
 exact ⟨n,e,yHs k⟩
theorem yBP:∀ (rows:List PV),(∀ x∈rows,x.isAgg=(DS.i .i64).isA∧HasF (.i .i64) x.cells)→∃ l:List Int,rows=ints l∧∀ n∈l,I64 n
 | [],_=>⟨[],rfl,by simp⟩
 | x::r,h=>by
   obtain ⟨l,e,hl⟩:=yBP r (fun y hy=>h y (List.mem_cons_of_mem _ hy))
   obtain ⟨h1,h2⟩:=h x (List.mem_cons_self ..)
   obtain ⟨n,e2,hn⟩:=F_i h2
   have ex:x=.int .i64 n:=by
     cases x <;> first | (simp only [PV.cells,List.cons.injEq,and_true] at e2;exact e2) | (cases h1)
   refine ⟨n::l,by rw [ex,e];rfl,?_⟩
   intro m hm
   rcases List.mem_cons.1 hm with rfl | hm
   · exact hn
   · exact hl m hm
def Ck.i64 (c:Ck):Prop:=I64 c.len∧(∀ n∈c.cuts,I64 n)∧∀ n∈c.dens,I64 n
theorem F_c {c:List PV} (h:HasF dsC c):∃ k:Ck,c=[.int .i64 k.len,.data (ints k.cuts),.data (ints k.dens)]∧k.i64∧k.cuts.length≤9223372036854775807∧k.dens.length≤9223372036854775807:=by
 simp only [dsC,HasF,HasL] at h
 obtain ⟨c1,c2,rfl,⟨n,rfl,hn⟩,c3,c4,rfl,⟨r1,rfl,l1,h1⟩,c5,c6,rfl,⟨r2,rfl,l2,h2⟩,rfl⟩:=h
 obtain ⟨a,rfl,ha⟩:=yBP r1 (fun x hx=>⟨(h1 x hx).1,by simp only [HasF];exact (h1 x hx).2⟩)
 obtain ⟨b,rfl,hb⟩:=yBP r2 (fun x hx=>⟨(h2 x hx).1,by simp only [HasF];exact (h2 x hx).2⟩)
 rw [yav] at l1 l2
 exact ⟨⟨n,a,b⟩,rfl,⟨yHs hn,ha,hb⟩,l1,l2⟩
theorem yMs {x:PV} {l:List DS} (h:x.isAgg=(DS.a l).isA):x=.agg x.cells:=by
 cases x <;> first | rfl | cases h
theorem yJ2:∀ (rows:List PV),(∀ x∈rows,x.isAgg=dsC.isA∧HasF dsC x.cells)→∃ l:List Ck,rows=cks l∧∀ c∈l,c.i64
 | [],_=>⟨[],rfl,by simp⟩
 | x::r,h=>by
   obtain ⟨l,e,hl⟩:=yJ2 r (fun y hy=>h y (List.mem_cons_of_mem _ hy))
   obtain ⟨h1,h2⟩:=h x (List.mem_cons_self ..)
   obtain ⟨k,e2,hk,_⟩:=F_c h2
   have ex:x=encC k:=by rw [yMs h1,e2];rfl
   refine ⟨k::l,by rw [ex,e];rfl,?_⟩
   intro m hm
   rcases List.mem_cons.1 hm with rfl | hm
   · exact hk
   · exact hl m hm
theorem yMR {c:List PV} (h:HasF (.s dsC) c):∃ l:List Ck,c=[.data (cks l)]∧l.length≤9223372036854775807∧∀ k∈l,k.i64:=by
 simp only [HasF] at h
 obtain ⟨rows,rfl,hl,hr⟩:=h
 obtain ⟨l,rfl,hi⟩:=yJ2 rows hr
 rw [yaM] at hl
 exact ⟨l,rfl,hl,hi⟩
theorem yzw {x y:PV} (h:x.isAgg=false) (e:x.cells=[y]):x=y:=by
 cases x <;> first | (simp only [PV.cells,List.cons.injEq,and_true] at e;exact e) | cases h
theorem yK3 {as:List PV} (h:yrG [.s dsC,.i .i64] as):∃ (l:List Ck) (n:Int),as=[.data (cks l),.int .i64 n]∧l.length≤9223372036854775807∧I64 n∧∀ k∈l,k.i64:=by
 simp only [yrG] at h
 obtain ⟨x,r,rfl,x1,x2,y,r2,rfl,y1,y2,rfl⟩:=h
 obtain ⟨l,e1,hl,hi⟩:=yMR x2
 obtain ⟨n,e2,hn⟩:=F_i y2
 rw [yzw x1 e1,yzw y1 e2]
 exact ⟨l,n,rfl,hl,hn,hi⟩
end Go.Pf.Vc
namespace Go.Pf.Vc
open Go Go.Pf
section
variable {l:List Ck}
theorem yIu {a:Nat} (h2:a<l.length) (hok:(l.getD a default).ok) (hl:l.length≤1000) (lg:List PV) (K:Int→Int→Prop) :
   ydy (cks l) lg a K=K (shr (l.getD a default) l.length).num (shr (l.getD a default) l.length).den:=by
 unfold ydy ymt
 have tb:=yra hok
 rw [yaM,Int.toNat_natCast,yeu h2,asT (by omega),asT (by omega),asCk,ck0,ck1,ck2,yIk hok,yJM ⟨by omega,by omega⟩ ⟨by omega,by omega⟩ (by omega),ycp]
 have:=yzu hok (n:=(l.length:Int)) ⟨by omega,by omega⟩
 unfold shr at this
 rw [if_pos this];rfl
end
end Go.Pf.Vc
namespace Go.Pf.Vc
open Go Go.Pf
section
variable {l:List Ck}
theorem ykK {α:Type} {q:Rat} {k:Rat→Except Int α} {x:α} (h:fit q k=.ok x):yap q∧k q=.ok x:=by
 unfold fit at h
 split at h
 · rename_i hs;exact ⟨hs,h⟩
 · cases h
theorem ymB {cuts dens:List Int}:∀ (r i:Nat) (p v q:Rat),mrkS cuts dens r i p v=.ok q→yap q
 | 0,_,_,_,_,h=>by unfold mrkS at h;cases h
 | r+1,i,p,v,q,h=>by
   unfold mrkS at h
   split at h
   · exact ymB r _ _ _ _ h
   · split at h
     · exact ymB r _ _ _ _ h
     · obtain ⟨_,h⟩:=ykK h
       obtain ⟨_,h⟩:=ykK h
       split at h
       · obtain ⟨_,h⟩:=ykK h
         exact ymB r _ _ _ _ h
       · obtain ⟨_,h⟩:=ykK h
         obtain ⟨s,h⟩:=ykK h
         cases h
         exact s
theorem yGj {len:Int} {cuts dens:List Int} {an ad vn vd:Int} {q:Rat} (h:mrkR len cuts dens an ad vn vd=.ok q):yap q:=by
 unfold mrkR at h
 split at h
 · split at h
   · rename_i hp
     unfold mrkC at h
     split at h
     · cases h;exact hp.1.pt.1
     · exact ymB _ _ _ _ _ h
   · cases h
 · cases h
theorem yGk {m:Nat} {agent an ad vn vd:Int} {p:Rat} (h:qryR l m agent (Ck.mark an ad vn vd)=.ok p):yap p:=by
 unfold qryR at h
 split at h
 · split at h
   · split at h
     · rename_i q hq
       split at h
       · cases h
       · cases h;exact yGj hq
     · cases h
   · cases h
 · cases h
def nts (r:List Nat):List PV:=ints (r.map fun n:Nat=>(n:Int))
theorem ycq (r:List Nat):(nts r).length=r.length:=by unfold nts;rw [yav,List.length_map]
theorem yJ3 {r:List Nat} {i:Nat} (h:i<r.length):List.getD (nts r) i .nils=.int .i64 (r.getD i 0):=by
 unfold nts
 rw [yBD (by rw [List.length_map];exact h)]
 rw [List.getD_eq_getElem?_getD,List.getElem?_map,List.getElem?_eq_getElem h,List.getD_eq_getElem?_getD,List.getElem?_eq_getElem h]
 rfl
def shN (l:List Ck) (a:Nat):Rat:=shr (l.getD a default) l.length
def yf1 (l:List Ck) (an ad:Int) (m a:Nat):Except Int Rat:=qryR l m a (Ck.mark an ad (shN l a).num (shN l a).den)
def yow (l:List Ck) (an ad:Int) (a:Nat) (p:Rat):Qy:=⟨a,2,an,ad,(shN l a).num,(shN l a).den,p.num,p.den⟩
theorem ygX (hd:DK l) {a:Nat} (h:a<l.length):yap (shN l a):=yzu (hd.ok a h) ⟨by omega,by have:=hd.n6;omega⟩
end
end Go.Pf.Vc
namespace Go.Pf.Vc
open Go Go.Pf
section
variable {l:List Ck}
theorem yxG {q r:Rat} (hq:yap q) (hr:yap r) (K:Bool→Prop):yd5 q.num q.den r.num r.den K=K (decide (r<q)):=by
 unfold yd5 ymy
 rw [yHf hq hr]
 congr 1
 unfold cmpQ
 by_cases h:q<r
 · rw [if_pos h]
   have:¬r<q:=fun h'=>by grind
   simp [this]
 · rw [if_neg h]
   by_cases h2:r<q
   · have:¬q=r:=fun e=>by grind
     simp [h2]
   · have:q=r:=by grind
     simp [this]
theorem ygY (hd:DK l) {a:Nat} (h2:a<l.length) {lg:List PV} (hm:lg.length≤2000) (K:Int→Int→Prop):ydz (cks l) lg a K=K (shN l a).num (shN l a).den:=by
 have hok:=hd.ok a h2
 have tb:=yra hok
 have n6:=hd.n6
 have h1:=VC.l1 hok;have h3:=VC.l2 hok
 unfold ydz yj4 ynJ ylP
 rw [yoW hd.fin (by omega),hd.err hm,cnF rfl,yGg,decide_eq_true (by omega),Bool.not_true,yaa]
 simp only [lt]
 rw [yaM,Int.toNat_natCast,yeu h2,asT (by omega),asT (by omega),asCk,ck0,ck1,ck2,yIi (by omega) (by omega),if_pos (VC.ck hok),yJI ⟨by omega,by omega⟩ ⟨by omega,by omega⟩ (by omega),ycp]
 have:=ygX hd h2
 unfold shN shr at this ⊢
 rw [if_pos this]
structure TSt where
 lg:List Qy
 p:Rat
 w:Nat
 k:Nat
def valQ (an ad:Int) (a:Nat) (p v:Rat):Qy:=⟨a,1,an,ad,p.num,p.den,v.num,v.den⟩
def valE (l:List Ck) (an ad:Int) (m a:Nat) (p:Rat):Except Int Rat:=qryR l m a (Ck.value an ad p.num p.den)
def tR (l:List Ck) (an ad:Int):List Nat→TSt→Except Int TSt
 | [],s=>.ok s
 | a::r,s=>match valE l an ad s.lg.length a s.p with
   | .error e=>.error e
   | .ok v=>if shN l a<v then
       (match yf1 l an ad (s.lg.length+1) a with
        | .error e=>.error e
        | .ok q=>tR l an ad r ⟨(s.lg++[valQ an ad a s.p v])++[yow l an ad a q],q,a,s.k+1⟩)
     else tR l an ad r ⟨s.lg++[valQ an ad a s.p v],s.p,s.w,s.k⟩
theorem yEc (cuts dens:List Int) (b:Rat):∀ (r i:Nat) (p sum v:Rat),yap sum→valS cuts dens b r i p sum=.ok v→yap v:=by
 intro r
 induction r with
 | zero=>intro i p sum v hs e;unfold valS at e;cases e;exact hs
 | succ r ih =>
   intro i p sum v hs e
   unfold valS fit at e
   repeat' (first | split at e | dsimp only at e)
   all_goals first | exact ih _ _ _ _ hs e | (rename_i h;exact ih _ _ _ _ h e) | cases e
theorem yuC {an ad:Int} {m a:Nat} {p v:Rat} (h:valE l an ad m a p=.ok v):yap v:=by
 unfold valE qryR at h
 split at h
 · split at h
   · split at h
     · rename_i q hq
       split at h
       · cases h
       · cases h
         have hq:valR (l.getD a default).len (l.getD a default).cuts (l.getD a default).dens an ad p.num p.den=.ok v:=hq
         unfold valR at hq
         split at hq
         · split at hq
           · unfold valC at hq
             exact yEc _ _ _ _ _ _ _ _ (by have:=yf0 (x:=0) (by omega);simpa using this) hq
           · cases hq
         · cases hq
     · cases h
   · cases h
 · cases h
theorem yf2 {an ad:Int} {m a:Nat} {q:Rat} (h:yf1 l an ad m a=.ok q):yap q:=yGk h
theorem yoZ (hd:DK l) {a:Nat} (_:a<l.length) {an ad:Int} (ha:I64 an) (ha':I64 ad) (lg:List Qy) {p:Rat} (hp:yap p) (K:List PV→List PV→Int→Int→Int→Prop) :
   ybZ (cks l) (logs lg) a an ad p.num p.den K =
     match valE l an ad lg.length a p with
     | .ok v=>K (cks l) (logs (lg++[valQ an ad a p v])) v.num v.den 0
     | .error e=>K [] [] 0 0 e:=by
 have n6:=hd.n6
 rw [yIm hd.fin (by omega) (yoY lg) ha ha' hp.i1 hp.i2,ycB]
 have em:qryR l lg.length a (Ck.value an ad p.num p.den)=valE l an ad lg.length a p:=rfl
 rw [em]
 cases valE l an ad lg.length a p with
 | ok v =>
   show K (cks l) (logs lg++[_]) _ _ _=K (cks l) (logs (lg++[_])) _ _ _
   rw [ysI];rfl
 | error c=>rfl
theorem ysJ (hd:DK l) {a:Nat} (h:a<l.length) {an ad:Int} (ha:I64 an) (ha':I64 ad) (lg:List Qy) (K:List PV→List PV→Int→Int→Int→Prop) :
   yc2 (cks l) (logs lg) a an ad (shN l a).num (shN l a).den K =
     match yf1 l an ad lg.length a with
     | .ok p=>K (cks l) (logs (lg++[yow l an ad a p])) p.num p.den 0
     | .error e=>K [] [] 0 0 e:=by
 have hs:=ygX hd h
 have n6:=hd.n6
 rw [yJW hd.fin (by omega) (yoY lg) ha ha' hs.i1 hs.i2,ycB]
 have em:qryR l lg.length a (Ck.mark an ad (shN l a).num (shN l a).den)=yf1 l an ad lg.length a:=rfl
 rw [em]
 cases yf1 l an ad lg.length a with
 | ok p =>
   show K (cks l) (logs lg++[_]) _ _ _=K (cks l) (logs (lg++[_])) _ _ _
   rw [ysI];rfl
 | error c=>rfl
theorem yEd {m:Nat} {agent:Int} {k:Ck→Except Int Rat} (hk:∀ c,k c≠.error 0):qryR l m agent k≠.error 0:=by
 unfold qryR
 intro h
 split at h
 · split at h
   · split at h
     · split at h
       · cases h
       · cases h
     · rename_i c hc
       cases h
       exact hk _ hc
   · cases h
 · rename_i h0;exact h0 (Except.error.inj h)
theorem yxH {an ad:Int} {m a:Nat} {p:Rat}:valE l an ad m a p≠.error 0:=yEd fun _=>yxB
theorem yie {an ad:Int} {m a:Nat}:yf1 l an ad m a≠.error 0:=yEd fun _=>yD9
theorem yGl {an ad:Int}:∀ (r:List Nat) (s:TSt),tR l an ad r s≠.error 0
 | [],s,h=>by cases h
 | a::r,s,h=>by
   unfold tR at h
   cases hv:valE l an ad s.lg.length a s.p with
   | error e=>rw [hv] at h;cases h;exact yxH hv
   | ok v =>
     rw [hv] at h
     dsimp only at h
     split at h
     · cases hq:yf1 l an ad (s.lg.length+1) a with
       | error e=>rw [hq] at h;cases h;exact yie hq
       | ok q=>rw [hq] at h;exact yGl r _ h
     · exact yGl r _ h
theorem yfn {A:List Nat} {Z:List PV} {i:Nat} (h:i<A.length):List.getD (nts A++Z) i .nils=.int .i64 (A.getD i 0):=by
 rw [List.getD_eq_getElem?_getD,List.getElem?_append_left (by rw [ycq];exact h),← List.getD_eq_getElem?_getD,yJ3 h]
theorem yc5 (A:List Nat) (Z:List PV):(nts A++Z).length=A.length+Z.length:=by rw [List.length_append,ycq]
theorem ysK {A r:List Nat} {i a:Nat} (h:A.drop i=a::r):i<A.length∧A.getD i 0=a∧A.drop (i+1)=r:=by
 have hlt:i<A.length:=by
   have:=congrArg List.length h
   rw [List.length_drop,List.length_cons] at this
   omega
 rw [List.drop_eq_getElem_cons hlt] at h
 rw [List.getD_eq_getElem?_getD,List.getElem?_eq_getElem hlt]
 exact ⟨hlt,(List.cons.inj h).1,(List.cons.inj h).2⟩
theorem ag0 (hd:DK l) {an ad:Int} (ha:I64 an) (ha':I64 ad) {A:List Nat} (hA:∀ a∈A,a<l.length) (hA6:A.length≤1000) (h2:2≤A.length) (Z:List PV) (b:List PV→List PV→List PV→Int→Int→Int→Int→Int→Int→Int→Int→Nat→Nat→Nat→Int→Int→Int→Int→Int→Int→Nat→Nat→Nat→Int→Int→Bool→Prop) (d:List PV→List PV→List PV→Int→Int→Int→Int→Int→Int→Int→Int→Nat→Nat→Nat→Int→Int→Int→Int→Int→Int→Int→Int→Nat→Nat→Nat→Int→Int→Bool→Prop) (c:List PV→List PV→List PV→Int→Int→Int→Int→Int→Int→Int→Int→Int→Int→Int→Int→Int→Int→Int→Prop) (i6:Int) (i7:Int) (n12:Nat) (n13:Nat) (i14:Int) (i15:Int) (i16:Int) (i17:Int) (i18:Int) (i19:Int) (n22:Nat) :
   ∀ (r:List Nat) (i:Nat) (s:TSt),A.drop i=r→1≤i→i≤A.length→yap s.p→s.lg.length+2*r.length≤1900→s.k≤i →
   (match tR l an ad r s with | .ok s'=>b (nts A++Z) (cks l) (logs s'.lg) an ad (s'.w:Int) i6 i7 s'.p.num s'.p.den (s'.k:Int) A.length n12 n13 i14 i15 i16 i17 i18 i19 A.length (A.length+Z.length) n22 ((A.length:Nat):Int) ((A.length:Nat):Int) false | .error e=>∀ (q1:List PV) (q2:List PV) (q5:Int) (q8:Int) (q9:Int) (q10:Int),c (nts A++Z) q1 q2 an ad q5 i6 i7 q8 q9 q10 (0:Int) (0:Int) (0:Int) (0:Int) (0:Int) (0:Int) e)→∃ n,yaJ yay ybZ ydz yd5 yc2 b d c n (nts A++Z) (cks l) (logs s.lg) an ad (s.w:Int) i6 i7 s.p.num s.p.den (s.k:Int) A.length n12 n13 i14 i15 i16 i17 i18 i19 A.length (A.length+Z.length) n22 ((A.length:Nat):Int) ((i:Nat):Int)
 | [],i,s,hr,h1,hi,hs,hl,hk,h=>by
   have e:i=A.length:=by
     have:=congrArg List.length hr
     rw [List.length_drop,List.length_nil] at this
     omega
   subst e
   refine ⟨1,?_⟩
   unfold yaJ
   rw [cbF (by omega)]
   exact h
 | a::r,i,s,hr,h1,hi,hs,hl,hk,h=>by
   obtain ⟨hlt,hg,hr'⟩:=ysK hr
   have ham:a<l.length:=hA a (by rw [← hg,List.getD_eq_getElem?_getD,List.getElem?_eq_getElem hlt];exact List.getElem_mem hlt)
   have IH:=ag0 hd ha ha' hA hA6 h2 Z b d c i6 i7 n12 n13 i14 i15 i16 i17 i18 i19 n22 r (i+1)
   have ew:IntKind.i64.wrap ((i:Int)+1)=((i+1:Nat):Int):=by rw [wib (by omega) (by omega)];omega
   have ek:IntKind.i64.wrap ((s.k:Int)+1)=((s.k+1:Nat):Int):=by rw [wib (by omega) (by omega)];omega
   have step:∀ s1:TSt,tR l an ad (a::r) s=tR l an ad r s1→yap s1.p→s1.lg.length≤s.lg.length+2→s1.k≤i+1→∃ n,yaJ yay ybZ ydz yd5 yc2 b d c n (nts A++Z) (cks l) (logs s1.lg) an ad (s1.w:Int) i6 i7 s1.p.num s1.p.den (s1.k:Int) A.length n12 n13 i14 i15 i16 i17 i18 i19 A.length (A.length+Z.length) n22 ((A.length:Nat):Int) ((i+1:Nat):Int):=by
     intro s1 he hs1 hl1 hk1
     refine IH s1 hr' (by omega) (by omega) hs1 (by rw [List.length_cons] at hl;omega) hk1 ?_
     rw [he] at h
     exact h
   have hh:=h
   unfold tR at hh
   cases hv:valE l an ad s.lg.length a s.p with
   | error e =>
     rw [hv] at hh
     have he0:e≠0:=fun e0=>yxH (e0 ▸ hv)
     refine ⟨1,?_⟩
     unfold yaJ
     simp only [jn,lt]
     rw [cbT (by omega),asT (by omega),asT (by omega),yc5,asT (by omega),asT (by omega),Nat.zero_add,Int.toNat_natCast,yfn hlt,hg]
     simp only [conf,ygb,decide_true,yaj,yab]
     rw [ceF (by omega),cbT (by omega),yoZ hd ham ha ha' s.lg hs,hv]
     dsimp only
     rw [cnT he0]
     exact hh ..
   | ok v =>
     rw [hv] at hh
     dsimp only at hh
     have sv:yap v:=yuC hv
     by_cases hm:shN l a<v
     · rw [if_pos hm] at hh
       cases hq:yf1 l an ad (s.lg.length+1) a with
       | error e =>
         rw [hq] at hh
         have he0:e≠0:=fun e0=>yie (e0 ▸ hq)
         refine ⟨1,?_⟩
         unfold yaJ
         simp only [jn,lt]
         rw [cbT (by omega),asT (by omega),asT (by omega),yc5,asT (by omega),asT (by omega),Nat.zero_add,Int.toNat_natCast,yfn hlt,hg]
         simp only [conf,ygb,decide_true,yaj,yab]
         rw [ceF (by omega),cbT (by omega),yoZ hd ham ha ha' s.lg hs,hv]
         dsimp only
         rw [cnF rfl,ygY hd ham (by rw [ycB,List.length_append,List.length_singleton];rw [List.length_cons] at hl;omega),yxG sv (ygX hd ham),decide_eq_true hm,Bool.not_true,yaa]
         rw [ygY hd ham (by rw [ycB,List.length_append,List.length_singleton];rw [List.length_cons] at hl;omega),ysJ hd ham ha ha' (s.lg++[valQ an ad a s.p v]),List.length_append,List.length_singleton,hq]
         dsimp only
         rw [ceF he0,cnT he0]
         exact hh ..
       | ok q =>
         rw [hq] at hh
         have sq:=yf2 hq
         have he:tR l an ad (a::r) s=tR l an ad r ⟨(s.lg++[valQ an ad a s.p v])++[yow l an ad a q],q,a,s.k+1⟩:=by
           rw [tR,hv]
           dsimp only
           rw [if_pos hm,hq]
         obtain ⟨n,hn⟩:=step _ he sq (by simp) (by show s.k+1≤i+1;omega)
         refine ⟨n+1,?_⟩
         unfold yaJ
         simp only [jn,lt]
         rw [cbT (by omega),asT (by omega),asT (by omega),yc5,asT (by omega),asT (by omega),Nat.zero_add,Int.toNat_natCast,yfn hlt,hg]
         simp only [conf,ygb,decide_true,yaj,yab]
         rw [ceF (by omega),cbT (by omega),yoZ hd ham ha ha' s.lg hs,hv]
         dsimp only
         rw [cnF rfl,ygY hd ham (by rw [ycB,List.length_append,List.length_singleton];rw [List.length_cons] at hl;omega),yxG sv (ygX hd ham),decide_eq_true hm,Bool.not_true,yaa]
         rw [ygY hd ham (by rw [ycB,List.length_append,List.length_singleton];rw [List.length_cons] at hl;omega),ysJ hd ham ha ha' (s.lg++[valQ an ad a s.p v]),List.length_append,List.length_singleton,hq]
         dsimp only
         rw [ceT rfl,cnF rfl,ew,ek]
         try simp only [decide_true,Nat.beq_refl,Bool.and_self,yaj]
         exact hn
     · have he:tR l an ad (a::r) s=tR l an ad r ⟨s.lg++[valQ an ad a s.p v],s.p,s.w,s.k⟩:=by
         rw [tR,hv]
         dsimp only
         rw [if_neg hm]
       obtain ⟨n,hn⟩:=step _ he hs (by simp) (by show s.k≤i+1;omega)
       refine ⟨n+1,?_⟩
       unfold yaJ
       simp only [jn,lt]
       rw [cbT (by omega),asT (by omega),asT (by omega),yc5,asT (by omega),asT (by omega),Nat.zero_add,Int.toNat_natCast,yfn hlt,hg]
       simp only [conf,ygb,decide_true,yaj,yab]
       rw [ceF (by omega),cbT (by omega),yoZ hd ham ha ha' s.lg hs,hv]
       dsimp only
       rw [cnF rfl,ygY hd ham (by rw [ycB,List.length_append,List.length_singleton];rw [List.length_cons] at hl;omega),yxG sv (ygX hd ham),decide_eq_false hm,Bool.not_false,yad,ew]
       try simp only [decide_true,Nat.beq_refl,Bool.and_self,yaj]
       exact hn
theorem yeY {x:Int} {P:Prop}:asr (conf (.one (.i .i64)) (.int .i64 x)) P=P:=rfl
theorem yzx (a:Int) (K:Int→Int→Prop):yay a K=K a 1:=rfl
theorem iov {k:IntKind} {x:Int}:yab (.int k x)=x:=rfl
def ycv (l:List Ck) (an ad:Int) (lg:List Qy):List Nat→Except Int TSt
 | []=>.error 2
 | [a]=>.ok ⟨lg,(((l.getD 0 default).len:Int):Rat),a,0⟩
 | a::b::r=>match yf1 l an ad lg.length a with
   | .error e=>.error e
   | .ok p=>tR l an ad (b::r) ⟨lg++[yow l an ad a p],p,a,0⟩
theorem yIv (hd:DK l) {an ad:Int} (ha:I64 an) (ha':I64 ad) {A:List Nat} (hA:∀ a∈A,a<l.length) (hA6:A.length≤900) (h0:A≠[]) (Z:List PV) (c:Nat) {lg:List Qy} (hl:lg.length+2*A.length≤1900) (K)
   (h:match ycv l an ad lg A with
     | .ok s=>K (cks l) (logs s.lg) (s.w:Int) an ad s.p.num s.p.den (s.k:Int) 0 (nts A++Z)
     | .error e=>K [] [] 0 0 0 0 0 0 e (nts A++Z)):yaF (cks l) (logs lg) (nts A++Z) A.length (A.length+Z.length) c an ad K:=by
 have n0:=hd.n0
 obtain ⟨a,r,rfl⟩:∃ a r,A=a::r:=by cases A with | nil=>exact absurd rfl h0 | cons a r=>exact ⟨a,r,rfl⟩
 have hlen:(a::r).length=r.length+1:=rfl
 have hlt:0<(a::r).length:=by omega
 have ham:a<l.length:=hA a List.mem_cons_self
 have hg:(a::r).getD 0 0=a:=rfl
 unfold yaF yj5
 simp only [lt,jn]
 rw [asT (by omega),yc5,asT (by omega),asT (by omega),yfn hlt,hg,yeY,iov,yaM,asT (by omega),yeu (by omega),asCk,ck0]
 rw [yzx]
 cases r with
 | nil =>
   refine ⟨1,?_⟩
   unfold yaJ
   simp only [jn,lt]
   rw [cbT (by simp),asT (by omega),asT (by simp),yc5,asT (by omega),asT (by simp;omega),show (0:Nat)+(0:Int).toNat=0 from rfl,yfn hlt,hg]
   simp only [conf,ygb,decide_true,yaj,yab]
   rw [ceT (by simp)]
   have e1:((((l.getD 0 default).len:Int):Rat)).num=(l.getD 0 default).len:=Rat.num_intCast _
   have e2:(((((l.getD 0 default).len:Int):Rat)).den:Int)=1:=by rw [Rat.den_intCast];rfl
   simp only [ycv] at h
   rw [e1] at h
   have h:=h
   simp only [e2] at h
   exact h
 | cons b r =>
   simp only [ycv] at h
   cases hq:yf1 l an ad lg.length a with
   | error e =>
     rw [hq] at h
     have he0:e≠0:=fun e0=>yie (e0 ▸ hq)
     refine ⟨1,?_⟩
     unfold yaJ
     simp only [jn,lt]
     rw [cbT (by omega),asT (by omega),asT (by omega),yc5,asT (by omega),asT (by simp only [Int.toNat_zero];omega),show (0:Nat)+(0:Int).toNat=0 from rfl,yfn hlt,hg]
     simp only [conf,ygb,decide_true,yaj,yab]
     rw [ceF (by simp only [List.length_cons];omega),cbF (by omega),ygY hd ham (by rw [ycB];omega),ysJ hd ham ha ha' lg,hq]
     dsimp only
     rw [ceF he0,cnT he0]
     exact h
   | ok p =>
     rw [hq] at h
     have sp:=yf2 hq
     simp only [List.length_cons] at hl hA6
     obtain ⟨n,hn⟩:=ag0 hd ha ha' hA (by simp only [List.length_cons];omega) (by simp only [List.length_cons];omega) Z (fun v0 v1 v2 _ _ v5 v6 v7 v8 v9 v10 _ _ _ _ _ _ _ _ _ _ _ _ _ _ _=>asr (decide (v0.length=(a::b::r).length+Z.length)) (K v1 v2 v5 v6 v7 v8 v9 v10 0 v0)) (fun v0 v1 v2 _ _ v5 v6 v7 v8 v9 v10 _ _ _ _ _ _ _ _ _ _ _ _ _ _ _ _ _=>asr (decide (v0.length=(a::b::r).length+Z.length)) (K v1 v2 v5 v6 v7 v8 v9 v10 0 v0)) (fun v0 _ _ _ _ _ _ _ _ _ _ v11 v12 v13 v14 v15 v16 v17=>asr (decide (v0.length=(a::b::r).length+Z.length)) (K [] [] v11 v12 v13 v14 v15 v16 v17 v0)) an ad ((a::b::r).length+Z.length) c 0 0 0 0 0 0 c (b::r) 1 ⟨lg++[yow l an ad a p],p,a,0⟩ rfl (by omega) (by simp only [List.length_cons];omega) sp (by simp only [List.length_append,List.length_cons,List.length_nil];omega) (Nat.zero_le _) (by
       revert h
       dsimp only
       cases hr:tR l an ad (b::r) ⟨lg++[yow l an ad a p],p,a,0⟩ with
       | ok s'=>intro h;dsimp only;rw [yc5,asT (by omega)];exact h
       | error e=>intro h;dsimp only;intros;rw [yc5,asT (by omega)];exact h)
     refine ⟨n+1,?_⟩
     unfold yaJ
     simp only [jn,lt]
     rw [cbT (by simp only [List.length_cons];omega),asT (by omega),asT (by simp only [List.length_cons];omega),yc5,asT (by omega),asT (by simp only [Int.toNat_zero,List.length_cons];omega),show (0:Nat)+(0:Int).toNat=0 from rfl,yfn hlt,hg]
     simp only [conf,ygb,decide_true,yaj,yab]
     rw [ceF (by simp only [List.length_cons];omega),cbF (by omega),ygY hd ham (by rw [ycB];omega),ysJ hd ham ha ha' lg,hq]
     dsimp only
     rw [ceT rfl,cnF rfl]
     exact hn
end
end Go.Pf.Vc
namespace Go.Pf.Vc
open Go Go.Pf
theorem ymC (a b:List Nat):nts (a++b)=nts a++nts b:=by unfold nts ints;rw [List.map_append,List.map_append]
theorem ykL (P Y:List Nat) (w:Nat):(P++w::Y).getD P.length 0=w:=by
 rw [List.getD_eq_getElem?_getD,List.getElem?_append_right (Nat.le_refl _),Nat.sub_self];rfl
theorem yzy (P Y:List Nat) (c w:Nat):(P++c::w::Y).getD (P.length+1) 0=w:=by
 rw [List.getD_eq_getElem?_getD,List.getElem?_append_right (by omega),show P.length+1-P.length=1 by omega];rfl
theorem yHt (P Y:List Nat) (c y:Nat) (Z:List PV):List.set (nts (P++c::y::Y)++Z) P.length (.int .i64 y)=nts ((P++[y])++y::Y)++Z:=by
 have e:P.length=(nts P).length:=(ycq P).symm
 rw [ymC,List.append_assoc,e,List.set_append_right _ _ (Nat.le_refl _),Nat.sub_self,ymC,ymC]
 simp [nts,ints]
theorem sr0 (Z:List PV) {A Y:List Nat} {w:Nat} (b:List PV→List PV→List PV→List PV→Nat→Nat→Nat→List PV→Int→List PV→List PV→Int→Int→Int→Int→Int→Int→List PV→List PV→Int→Int→Int→Int→Int→Int→Nat→Nat→Nat→Int→Int→Bool→Prop) (a:List PV→List PV→List PV→List PV→Nat→Nat→Nat→List PV→Int→List PV→List PV→Int→Int→Int→Int→Int→Int→List PV→List PV→Int→Int→Int→Int→Int→Int→Int→Prop) (l0:List PV) (l2:List PV) (l3:List PV) (n4:Nat) (n5:Nat) (n6:Nat) (l9:List PV) (i10:Int) (l11:List PV) (l12:List PV) (i14:Int) (i15:Int) (i16:Int) (i17:Int) (i18:Int) (l19:List PV) (l20:List PV) (i21:Int) (i22:Int) (i23:Int) (i24:Int) (i25:Int) (i26:Int) (n29:Nat):∀ (X2 P:List Nat) (n:Nat),A=P++X2++w::Y→w∉X2→A.length≤1000→X2.length<n →
   a l0 (nts A++Z) l2 l3 n4 n5 n6 l9 i10 l11 l12 (w:Int) i14 i15 i16 i17 i18 l19 l20 i21 i22 i23 i24 i25 i26 (((P++X2).length:Nat):Int)→ydR yaV yay yaF b a n l0 (nts A++Z) l2 l3 n4 n5 n6 l9 i10 l11 l12 (w:Int) i14 i15 i16 i17 i18 l19 l20 i21 i22 i23 i24 i25 i26 A.length (A.length+Z.length) n29 ((A.length:Nat):Int) ((P.length:Nat):Int)
 | [],P,n,hA,hw,h6,hn,h=>by
   obtain ⟨n,rfl⟩:∃ k,n=k+1:=⟨n-1,by omega⟩
   rw [List.append_nil] at hA h
   have hl:=congrArg List.length hA
   simp only [List.length_append,List.length_cons] at hl
   have hg:A.getD P.length 0=w:=by rw [hA];exact ykL P Y w
   unfold ydR
   simp only [lt]
   rw [cbT (by omega),asT (by omega),asT (by omega),yc5,asT (by omega),asT (by omega),Nat.zero_add,Int.toNat_natCast,yfn (by omega),hg,yeY,iov,ceT rfl]
   exact h
 | x::X2,P,n,hA,hw,h6,hn,h=>by
   obtain ⟨n,rfl⟩:∃ k,n=k+1:=⟨n-1,by omega⟩
   have hl:=congrArg List.length hA
   simp only [List.length_append,List.length_cons] at hl
   simp only [List.length_cons] at hn
   have hg:A.getD P.length 0=x:=by rw [hA,List.append_assoc];exact ykL P _ x
   have hx:(x:Int)≠(w:Int):=fun e=>hw (by rw [Int.ofNat_inj.1 e];exact List.mem_cons_self)
   have ew:IntKind.i64.wrap ((P.length:Int)+1)=(((P++[x]).length:Nat):Int):=by rw [wib (by omega) (by omega)];simp only [List.length_append,List.length_cons,List.length_nil];omega
   have:=sr0 Z (Y:=Y) b a l0 l2 l3 n4 n5 n6 l9 i10 l11 l12 i14 i15 i16 i17 i18 l19 l20 i21 i22 i23 i24 i25 i26 n29 X2 (P++[x]) n (by rw [hA];simp) (fun hm=>hw (List.mem_cons_of_mem _ hm)) h6 (by omega) (by
     have e:((P++[x])++X2).length=(P++x::X2).length:=by simp
     rw [e];exact h)
   unfold ydR
   simp only [lt]
   rw [cbT (by omega),asT (by omega),asT (by omega),yc5,asT (by omega),asT (by omega),Nat.zero_add,Int.toNat_natCast,yfn (by omega),hg,yeY,iov,ceF hx,ew]
   try simp only [decide_true,Bool.and_self,yaj]
   exact this
theorem rm0 (Z:List PV) {w N:Nat} (a:List PV→List PV→List PV→List PV→Nat→Nat→Nat→List PV→Int→List PV→List PV→Int→Int→Int→Int→Int→Int→List PV→List PV→Int→Int→Int→Int→Int→Int→Nat→Nat→Nat→Int→Int→Bool→Prop) (l0:List PV) (l2:List PV) (l3:List PV) (n4:Nat) (n5:Nat) (n6:Nat) (l9:List PV) (i10:Int) (l11:List PV) (l12:List PV) (i14:Int) (i15:Int) (i16:Int) (i17:Int) (i18:Int) (l19:List PV) (l20:List PV) (i21:Int) (i22:Int) (i23:Int) (i24:Int) (i25:Int) (i26:Int) (n29:Nat):∀ (Y2 P:List Nat) (c n:Nat),w∉Y2→P.length+1+Y2.length=N→N≤1000→Y2.length<n →
   (∀ c',a l0 (nts ((P++Y2)++[c'])++Z) l2 l3 n4 n5 n6 l9 i10 l11 l12 (w:Int) i14 i15 i16 i17 i18 l19 l20 i21 i22 i23 i24 i25 i26 N (N+Z.length) n29 (((P++Y2).length:Nat):Int) ((N:Nat):Int) false)→ydT yaV yay yaF a n l0 (nts (P++c::Y2)++Z) l2 l3 n4 n5 n6 l9 i10 l11 l12 (w:Int) i14 i15 i16 i17 i18 l19 l20 i21 i22 i23 i24 i25 i26 N (N+Z.length) n29 ((P.length:Nat):Int) ((P.length+1:Nat):Int)
 | [],P,c,n,hw,hN,h6,hn,h=>by
   obtain ⟨n,rfl⟩:∃ k,n=k+1:=⟨n-1,by omega⟩
   simp only [List.length_nil] at hN
   have h:=h c
   rw [List.append_nil] at h
   have e:N=P.length+1:=by omega
   subst e
   unfold ydT
   rw [cbF (by omega)]
   exact h
 | y::Y3,P,c,n,hw,hN,h6,hn,h=>by
   obtain ⟨n,rfl⟩:∃ k,n=k+1:=⟨n-1,by omega⟩
   simp only [List.length_cons] at hn hN
   have hy:(y:Int)≠(w:Int):=fun e=>hw (by rw [Int.ofNat_inj.1 e];exact List.mem_cons_self)
   have hlen:(P++c::y::Y3).length=N:=by simp only [List.length_append,List.length_cons];omega
   have e1:IntKind.i64.wrap ((P.length:Int)+1)=(((P++[y]).length:Nat):Int):=by rw [wib (by omega) (by omega)];simp only [List.length_append,List.length_cons,List.length_nil];omega
   have e2:IntKind.i64.wrap (((P.length+1:Nat):Int)+1)=(((P++[y]).length+1:Nat):Int):=by rw [wib (by omega) (by omega)];simp only [List.length_append,List.length_cons,List.length_nil];omega
   have:=rm0 Z a l0 l2 l3 n4 n5 n6 l9 i10 l11 l12 i14 i15 i16 i17 i18 l19 l20 i21 i22 i23 i24 i25 i26 n29 Y3 (P++[y]) y n (fun hm=>hw (List.mem_cons_of_mem _ hm)) (by rw [List.length_append];simp only [List.length_cons,List.length_nil];omega) h6 (by omega) (by
     intro c'
     have:=h c'
     rw [show P++y::Y3=P++[y]++Y3 by simp] at this
     exact this)
   unfold ydT
   simp only [lt,jn]
   rw [cbT (by omega),asT (by omega),asT (by omega),yc5,hlen,asT (by omega),asT (by omega),Nat.zero_add,Int.toNat_natCast,yfn (by omega),yzy,yeY,iov,yqf hy,Bool.not_false,yad]
   rw [asT (by omega),asT (by omega),asT (by omega),Nat.zero_add,Int.toNat_natCast,asT (by omega),yfn (by omega),ykL,yeY,yHt,e1,e2]
   try simp only [decide_true,Bool.and_self,yaj]
   exact this
theorem sr1 (Z:List PV) {A Y:List Nat} {w:Nat} (b:List PV→List PV→List PV→List PV→Nat→Nat→Nat→List PV→Int→List PV→List PV→Int→Int→Int→Int→Int→Int→List PV→List PV→Int→Int→Int→Int→Int→Int→Nat→Nat→Nat→Int→Int→Bool→Prop) (a:List PV→List PV→List PV→List PV→Nat→Nat→Nat→List PV→Int→List PV→List PV→Int→Int→Int→Int→Int→Int→List PV→List PV→Int→Int→Int→Int→Int→Int→Int→Prop) (l0:List PV) (l2:List PV) (l3:List PV) (n4:Nat) (n5:Nat) (n6:Nat) (l9:List PV) (i10:Int) (l11:List PV) (l12:List PV) (i14:Int) (i15:Int) (i16:Int) (i17:Int) (i18:Int) (l19:List PV) (l20:List PV) (i21:Int) (i22:Int) (i23:Int) (i24:Int) (i25:Int) (i26:Int) (n29:Nat):∀ (X2 P:List Nat) (n:Nat),A=P++X2++w::Y→w∉X2→A.length≤1000→X2.length<n →
   a l0 (nts A++Z) l2 l3 n4 n5 n6 l9 i10 l11 l12 (w:Int) i14 i15 i16 i17 i18 l19 l20 i21 i22 i23 i24 i25 i26 (((P++X2).length:Nat):Int)→ydS yaV yay yaF b a n l0 (nts A++Z) l2 l3 n4 n5 n6 l9 i10 l11 l12 (w:Int) i14 i15 i16 i17 i18 l19 l20 i21 i22 i23 i24 i25 i26 A.length (A.length+Z.length) n29 ((A.length:Nat):Int) ((P.length:Nat):Int)
 | [],P,n,hA,hw,h6,hn,h=>by
   obtain ⟨n,rfl⟩:∃ k,n=k+1:=⟨n-1,by omega⟩
   rw [List.append_nil] at hA h
   have hl:=congrArg List.length hA
   simp only [List.length_append,List.length_cons] at hl
   have hg:A.getD P.length 0=w:=by rw [hA];exact ykL P Y w
   unfold ydS
   simp only [lt]
   rw [cbT (by omega),asT (by omega),asT (by omega),yc5,asT (by omega),asT (by omega),Nat.zero_add,Int.toNat_natCast,yfn (by omega),hg,yeY,iov,ceT rfl]
   exact h
 | x::X2,P,n,hA,hw,h6,hn,h=>by
   obtain ⟨n,rfl⟩:∃ k,n=k+1:=⟨n-1,by omega⟩
   have hl:=congrArg List.length hA
   simp only [List.length_append,List.length_cons] at hl
   simp only [List.length_cons] at hn
   have hg:A.getD P.length 0=x:=by rw [hA,List.append_assoc];exact ykL P _ x
   have hx:(x:Int)≠(w:Int):=fun e=>hw (by rw [Int.ofNat_inj.1 e];exact List.mem_cons_self)
   have ew:IntKind.i64.wrap ((P.length:Int)+1)=(((P++[x]).length:Nat):Int):=by rw [wib (by omega) (by omega)];simp only [List.length_append,List.length_cons,List.length_nil];omega
   have:=sr1 Z (Y:=Y) b a l0 l2 l3 n4 n5 n6 l9 i10 l11 l12 i14 i15 i16 i17 i18 l19 l20 i21 i22 i23 i24 i25 i26 n29 X2 (P++[x]) n (by rw [hA];simp) (fun hm=>hw (List.mem_cons_of_mem _ hm)) h6 (by omega) (by
     have e:((P++[x])++X2).length=(P++x::X2).length:=by simp
     rw [e];exact h)
   unfold ydS
   simp only [lt]
   rw [cbT (by omega),asT (by omega),asT (by omega),yc5,asT (by omega),asT (by omega),Nat.zero_add,Int.toNat_natCast,yfn (by omega),hg,yeY,iov,ceF hx,ew]
   try simp only [decide_true,Bool.and_self,yaj]
   exact this
theorem rm1 (Z:List PV) {w N:Nat} (a:List PV→List PV→List PV→List PV→Nat→Nat→Nat→List PV→Int→List PV→List PV→Int→Int→Int→Int→Int→Int→List PV→List PV→Int→Int→Int→Int→Int→Int→Nat→Nat→Nat→Int→Int→Bool→Prop) (l0:List PV) (l2:List PV) (l3:List PV) (n4:Nat) (n5:Nat) (n6:Nat) (l9:List PV) (i10:Int) (l11:List PV) (l12:List PV) (i14:Int) (i15:Int) (i16:Int) (i17:Int) (i18:Int) (l19:List PV) (l20:List PV) (i21:Int) (i22:Int) (i23:Int) (i24:Int) (i25:Int) (i26:Int) (n29:Nat):∀ (Y2 P:List Nat) (c n:Nat),w∉Y2→P.length+1+Y2.length=N→N≤1000→Y2.length<n →
   (∀ c',a l0 (nts ((P++Y2)++[c'])++Z) l2 l3 n4 n5 n6 l9 i10 l11 l12 (w:Int) i14 i15 i16 i17 i18 l19 l20 i21 i22 i23 i24 i25 i26 N (N+Z.length) n29 (((P++Y2).length:Nat):Int) ((N:Nat):Int) false)→ydU yaV yay yaF a n l0 (nts (P++c::Y2)++Z) l2 l3 n4 n5 n6 l9 i10 l11 l12 (w:Int) i14 i15 i16 i17 i18 l19 l20 i21 i22 i23 i24 i25 i26 N (N+Z.length) n29 ((P.length:Nat):Int) ((P.length+1:Nat):Int)
 | [],P,c,n,hw,hN,h6,hn,h=>by
   obtain ⟨n,rfl⟩:∃ k,n=k+1:=⟨n-1,by omega⟩
   simp only [List.length_nil] at hN
   have h:=h c
   rw [List.append_nil] at h
   have e:N=P.length+1:=by omega
   subst e
   unfold ydU
   rw [cbF (by omega)]
   exact h
 | y::Y3,P,c,n,hw,hN,h6,hn,h=>by
   obtain ⟨n,rfl⟩:∃ k,n=k+1:=⟨n-1,by omega⟩
   simp only [List.length_cons] at hn hN
   have hy:(y:Int)≠(w:Int):=fun e=>hw (by rw [Int.ofNat_inj.1 e];exact List.mem_cons_self)
   have hlen:(P++c::y::Y3).length=N:=by simp only [List.length_append,List.length_cons];omega
   have e1:IntKind.i64.wrap ((P.length:Int)+1)=(((P++[y]).length:Nat):Int):=by rw [wib (by omega) (by omega)];simp only [List.length_append,List.length_cons,List.length_nil];omega
   have e2:IntKind.i64.wrap (((P.length+1:Nat):Int)+1)=(((P++[y]).length+1:Nat):Int):=by rw [wib (by omega) (by omega)];simp only [List.length_append,List.length_cons,List.length_nil];omega
   have:=rm1 Z a l0 l2 l3 n4 n5 n6 l9 i10 l11 l12 i14 i15 i16 i17 i18 l19 l20 i21 i22 i23 i24 i25 i26 n29 Y3 (P++[y]) y n (fun hm=>hw (List.mem_cons_of_mem _ hm)) (by rw [List.length_append];simp only [List.length_cons,List.length_nil];omega) h6 (by omega) (by
     intro c'
     have:=h c'
     rw [show P++y::Y3=P++[y]++Y3 by simp] at this
     exact this)
   unfold ydU
   simp only [lt,jn]
   rw [cbT (by omega),asT (by omega),asT (by omega),yc5,hlen,asT (by omega),asT (by omega),Nat.zero_add,Int.toNat_natCast,yfn (by omega),yzy,yeY,iov,yqf hy,Bool.not_false,yad]
   rw [asT (by omega),asT (by omega),asT (by omega),Nat.zero_add,Int.toNat_natCast,asT (by omega),yfn (by omega),ykL,yeY,yHt,e1,e2]
   try simp only [decide_true,Bool.and_self,yaj]
   exact this
end Go.Pf.Vc
namespace Go.Pf.Vc
open Go Go.Pf
structure Tn where
 a:Nat
 f:Rat
 t:Rat
 k:Nat
def tnE (x:Tn):PV:=.agg [.int .i64 x.a,.int .i64 x.f.num,.int .i64 x.f.den,.int .i64 x.t.num,.int .i64 x.t.den,.int .i64 x.k]
def tns (l:List Tn):List PV:=l.map tnE
def spE (x:Tn):PV:=.data [.agg [.int .i64 x.f.num,.int .i64 x.f.den,.int .i64 x.t.num,.int .i64 x.t.den]]
def pcs (n:Nat) (ts:List Tn):List PV:=ts.foldl (fun P t=>P.set t.a (spE t)) (List.replicate n (.data []))
theorem yBQ (a:List Tn) (x:Tn):tns (a++[x])=tns a++[tnE x]:=by unfold tns;rw [List.map_append];rfl
theorem ymD (a:List Tn):(tns a).length=a.length:=by unfold tns;rw [List.length_map]
theorem yo0 (n:Nat) (a:List Tn) (x:Tn):pcs n (a++[x])=(pcs n a).set x.a (spE x):=by unfold pcs;rw [List.foldl_append];rfl
def yuD:List PV→Prop
 | []=>True
 | x::r=>(∃ d,x=.data d)∧yuD r
theorem yzz:∀ (l:List PV) (i:Nat) (d:List PV),yuD l→yuD (l.set i (.data d))
 | [],_,_,_=>trivial
 | _::_,0,d,h=>⟨⟨d,rfl⟩,h.2⟩
 | _::r,i+1,d,h=>⟨h.1,yzz r i d h.2⟩
theorem yo1:∀ n:Nat,yuD (List.replicate n (.data []))
 | 0=>trivial
 | n+1=>⟨⟨[],rfl⟩,yo1 n⟩
theorem yzA:∀ (l:List PV) (i:Nat),yuD l→i<l.length→∃ d,List.getD l i .nils=.data d
 | [],i,_,h=>by simp at h
 | x::r,0,h,_=>h.1
 | x::r,i+1,h,hi=>yzA r i h.2 (by simpa using hi)
theorem ysL:∀ (ts:List Tn) (P:List PV) (n:Nat),P.length=n→yuD P→(ts.foldl (fun P t=>P.set t.a (spE t)) P).length=n∧yuD (ts.foldl (fun P t=>P.set t.a (spE t)) P)
 | [],P,n,h1,h2=>⟨h1,h2⟩
 | t::r,P,n,h1,h2=>ysL r (P.set t.a (spE t)) n (by rw [List.length_set];exact h1) (yzz P t.a _ h2)
theorem yfc (n:Nat) (ts:List Tn):(pcs n ts).length=n:=(ysL ts _ n List.length_replicate (yo1 n)).1
theorem yxI (n:Nat) (ts:List Tn) {i:Nat} (h:i<n):∃ d,List.getD (pcs n ts) i .nils=.data d:=yzA _ i (ysL ts _ n List.length_replicate (yo1 n)).2 (by rw [yfc];exact h)
def nofn (l:List PV):Prop:=yaW (noY 0) (fun _=>true) l=true
theorem yxJ:∀ l:List PV,yuD l→nofn l
 | [],_=>rfl
 | x::r,⟨⟨d,e⟩,h⟩=>by subst e;exact yxJ r h
theorem yxK (n:Nat) (ts:List Tn):nofn (pcs n ts):=yxJ _ (ysL ts _ n List.length_replicate (yo1 n)).2
theorem yxL:∀ ts:List Tn,nofn (tns ts)
 | []=>rfl
 | _::r=>yxL r
theorem ykM:∀ (a b:List PV),nofn a→nofn b→nofn (a++b)
 | [],b,_,h=>h
 | x::r,b,h,k=>by
   unfold nofn at h ⊢
   simp only [yaW,Bool.and_eq_true] at h
   simp only [List.cons_append,yaW,Bool.and_eq_true]
   exact ⟨h.1,ykM r b h.2 k⟩
theorem ykN:∀ A:List Nat,nofn (nts A)
 | []=>rfl
 | _::r=>ykN r
theorem yHu (B:List Nat) (c:Nat) (Z:List PV):List.take B.length (nts (B++[c])++Z)++(List.replicate 1 (PV.int .i64 0)++List.drop (B.length+1) (nts (B++[c])++Z))=nts B++(.int .i64 0::Z):=by
 have e:B.length=(nts B).length:=(ycq B).symm
 have e1:nts (B++[c])++Z=nts B++(.int .i64 c::Z):=by rw [ymC,List.append_assoc];rfl
 rw [e1,e,List.take_left,List.drop_append,List.drop_of_length_le (by omega)]
 simp
theorem yo2 {X Y:List Nat} {w:Nat} (h:w∉X):(X++w::Y).erase w=X++Y:=by
 rw [List.erase_append_right _ h,List.erase_cons_head]
section
variable {l:List Ck}
theorem yJ4 {an ad:Int}:∀ (r:List Nat) (s s':TSt),tR l an ad r s=.ok s'→yap s.p→(s'.w=s.w∨s'.w∈r)∧yap s'.p∧s'.lg.length≤s.lg.length+2*r.length∧s'.k≤s.k+r.length
 | [],s,s',h,hs=>by cases h;exact ⟨.inl rfl,hs,by omega,by omega⟩
 | a::r,s,s',h,hs=>by
   unfold tR at h
   cases hv:valE l an ad s.lg.length a s.p with
   | error e=>rw [hv] at h;cases h
   | ok v =>
     rw [hv] at h
     dsimp only at h
     split at h
     · cases hq:yf1 l an ad (s.lg.length+1) a with
       | error e=>rw [hq] at h;cases h
       | ok q =>
         rw [hq] at h
         obtain ⟨h1,h2,h3,h4⟩:=yJ4 r _ s' h (yf2 hq)
         refine ⟨.inr ?_,h2,?_,?_⟩
         · rcases h1 with h1 | h1
           · rw [h1];exact List.mem_cons_self
           · exact List.mem_cons_of_mem _ h1
         · simp only [List.length_append,List.length_cons,List.length_nil] at h3 ⊢;omega
         · simp only [List.length_cons];simp only at h4;omega
     · obtain ⟨h1,h2,h3,h4⟩:=yJ4 r _ s' h hs
       refine ⟨?_,h2,?_,?_⟩
       · rcases h1 with h1 | h1
         · exact .inl h1
         · exact .inr (List.mem_cons_of_mem _ h1)
       · simp only [List.length_append,List.length_cons,List.length_nil] at h3 ⊢;omega
       · simp only [List.length_cons];simp only at h4;omega
theorem ygZ (hd:DK l) {an ad:Int} {lg:List Qy} {A:List Nat} {s:TSt} (h:ycv l an ad lg A=.ok s):s.w∈A∧yap s.p∧s.lg.length≤lg.length+2*A.length∧s.k≤A.length:=by
 cases A with
 | nil=>cases h
 | cons a r =>
   cases r with
   | nil =>
     simp only [ycv,Except.ok.injEq] at h
     subst h
     have hok:=hd.ok 0 (by have:=hd.n0;omega)
     have:=VC.len0 hok
     exact ⟨List.mem_cons_self,yf0 (by omega),by simp only [List.length_cons];omega,by simp only [List.length_cons];omega⟩
   | cons b r =>
     simp only [ycv] at h
     cases hq:yf1 l an ad lg.length a with
     | error e=>rw [hq] at h;cases h
     | ok p =>
       rw [hq] at h
       obtain ⟨h1,h2,h3,h4⟩:=yJ4 _ _ s h (yf2 hq)
       refine ⟨?_,h2,?_,?_⟩
       · rcases h1 with h1 | h1
         · rw [h1];exact List.mem_cons_self
         · exact List.mem_cons_of_mem _ h1
       · simp only [List.length_append,List.length_cons,List.length_nil] at h3 ⊢;omega
       · simp only [List.length_cons] at h4 ⊢;omega
def tGo (l:List Ck):Nat→List Nat→List Qy→Rat→List Tn→Except Int (List Tn×List Qy)
 | 0,_,_,_,_=>.error 2
 | m+1,A,lg,q,ts=>match ycv l q.num q.den lg A with
   | .error e=>.error e
   | .ok s=>if A.length=1 then .ok (ts++[⟨s.w,q,s.p,s.k⟩],s.lg) else tGo l m (A.erase s.w) s.lg s.p (ts++[⟨s.w,q,s.p,s.k⟩])
theorem yg0 {an ad:Int} {lg:List Qy} {A:List Nat}:ycv l an ad lg A≠.error 0:=by
 intro h
 cases A with
 | nil=>cases h
 | cons a r =>
   cases r with
   | nil=>cases h
   | cons b r =>
     simp only [ycv] at h
     cases hq:yf1 l an ad lg.length a with
     | error e=>rw [hq] at h;cases h;exact yie hq
     | ok p=>rw [hq] at h;exact yGl _ _ h
theorem yg1 (hd:DK l) {an ad:Int} (ha:I64 an) (ha':I64 ad) {A:List Nat} (hA:∀ a∈A,a<l.length) (hA6:A.length≤900) (h0:A≠[]) (Z:List PV) (c:Nat) {lg:List Qy} (hl:lg.length+2*A.length≤1900) (K)
   (h1:∀ s,ycv l an ad lg A=.ok s→K (cks l) (logs s.lg) (s.w:Int) an ad s.p.num s.p.den (s.k:Int) 0 (nts A++Z)) (h2:∀ e,ycv l an ad lg A=.error e→K [] [] 0 0 0 0 0 0 e (nts A++Z)) :
   yaF (cks l) (logs lg) (nts A++Z) A.length (A.length+Z.length) c an ad K:=by
 refine yIv hd ha ha' hA hA6 h0 Z c hl K ?_
 cases h:ycv l an ad lg A with
 | ok s=>exact h1 s h
 | error e=>exact h2 e h
theorem yHv:∀ (m:Nat) (A:List Nat) (lg:List Qy) (q:Rat) (ts:List Tn),tGo l m A lg q ts≠.error 0
 | 0,A,lg,q,ts,h=>by cases h
 | m+1,A,lg,q,ts,h=>by
   unfold tGo at h
   cases hR:ycv l q.num q.den lg A with
   | error e=>rw [hR] at h;cases h;exact yg0 hR
   | ok s =>
     rw [hR] at h
     dsimp only at h
     split at h
     · cases h
     · exact yHv m _ _ _ _ h
theorem asTw {P:Prop}:asr (decide True) P=P:=by rw [decide_true];rfl
theorem yEe {n:Nat} {P:Prop}:asr (!decide (0+n+1≤n)) P=P:=by rw [decide_eq_false (by omega)];rfl
theorem asOr {a:Int} {b:Bool} {P:Prop}:asr (decide (a≤a)||b) P=P:=by rw [decide_eq_true (by omega)];rfl
theorem yzB {d:List PV} {P:Prop}:asr (conf (.one .d) (.data d)) P=P:=rfl
theorem go1 (hd:DK l) (f:List PV→List PV→List PV→List PV→Nat→Nat→Nat→List PV→Int→List PV→List PV→Nat→Nat→Nat→Int→Int→Bool→Prop) (b:List PV→List PV→List PV→List PV→Nat→Nat→Nat→List PV→Int→List PV→List PV→Int→Int→Int→Int→Int→Int→Prop) (d:List PV→List PV→List PV→List PV→Nat→Nat→Nat→List PV→Int→List PV→List PV→Int→Int→Int→Int→Int→Int→List PV→List PV→Int→Int→Int→Int→Int→Int→Nat→Nat→Nat→Int→Int→List PV→List PV→Int→Bool→List PV→List PV→Int→Int→Int→Int→Int→Int→Bool→Bool→Prop):∀ (m:Nat) (A:List Nat) (Z:List PV) (c:Nat) (q:Rat) (lg:List Qy) (ts:List Tn) (lgd:List PV),A.length=m+1→A.Nodup→(∀ a∈A,a<l.length)→ts.length+A.length=l.length→yap q→lg.length≤20*ts.length→nofn Z →
   (match tGo l (m+1) A lg q ts with
     | .ok (ts',lg')=>∀ (r1:List PV) (j9:List PV) (j10:List PV) (j11:Int) (j12:Int) (j13:Int) (j14:Int) (j15:Int) (j16:Int) (j17:List PV) (j18:List PV) (j19:Int) (j20:Int) (j21:Int) (j22:Int) (j23:Int) (j24:Int) (j25:Nat) (j26:Nat) (j27:Nat) (j28:Int) (j29:Int) (j30:List PV) (j31:List PV) (j32:Int) (j33:Bool) (j34:List PV) (j35:List PV) (j36:Int) (j37:Int) (j38:Int) (j39:Int) (j40:Int) (j41:Int) (j42:Bool) (j43:Bool),nofn r1→d (pcs l.length ts') r1 (tns ts') (cks l) l.length l.length l.length (logs lg') 0 j9 j10 j11 j12 j13 j14 j15 j16 j17 j18 j19 j20 j21 j22 j23 j24 j25 j26 j27 j28 j29 j30 j31 j32 j33 j34 j35 j36 j37 j38 j39 j40 j41 j42 j43
     | .error e=>∀ (r1:List PV) (ts':List Tn) (lgx:List PV) (j9:List PV) (j10:List PV) (j11:Int) (j12:Int) (j13:Int) (j14:Int) (j15:Int) (j16:Int),nofn r1→b (pcs l.length ts') r1 (tns ts') (cks l) l.length l.length l.length lgx e j9 j10 j11 j12 j13 j14 j15 j16)→∃ n,yc3 yaV yay yaF f b d n (pcs l.length ts) (nts A++Z) (tns ts) (cks l) l.length l.length l.length lgd 0 (cks l) (logs lg) A.length (A.length+Z.length) c q.num q.den:=by
 intro m
 induction m with
 | zero =>
   intro A Z c q lg ts lgd hm hnd hA hts hq hlg hZ h
   have n6:=hd.n6
   unfold tGo at h
   refine ⟨1,?_⟩
   unfold yc3
   simp only [jn,lt]
   rw [cbT (by omega)]
   refine yg1 hd hq.i1 hq.i2 hA (by omega) (fun e=>by rw [e] at hm;cases hm) Z c (by omega) _ (fun s hR=>?_) (fun e hR=>?_)
   case refine_2 =>
     rw [hR] at h
     show cbr _ _ _
     rw [cnT (fun e0=>yg0 (e0 ▸ hR))]
     exact h _ _ _ _ _ _ _ _ _ _ _ (ykM _ _ (ykN A) hZ)
   case refine_1 =>
     rw [hR] at h
     obtain ⟨hw,hsp,hsl,hsk⟩:=ygZ hd hR
     have hwl:s.w<l.length:=hA _ hw
     obtain ⟨d0,hd0⟩:=yxI l.length ts hwl
     have n6:=hd.n6
     dsimp only at h
     rw [if_pos hm] at h
     show cbr _ _ _
     rw [cnF rfl,asTw,asT (by omega),yEe,asTw,asT (by rw [ymD];unfold room;omega),asT (by omega),asT (by omega),yfc,asT (by omega),Int.toNat_natCast,Nat.zero_add,asT (by omega),hd0,yzB,ceT (by rw [List.length_append,ymD,yaM];simp only [List.length_cons,List.length_nil];omega)]
     have:=h (nts A++Z)
     rw [yo0,yBQ] at this
     exact this _ _ _ _ _ _ _ _ _ _ _ _ _ _ _ _ _ _ _ _ _ _ _ _ _ _ _ _ _ _ _ _ _ _ _ (ykM _ _ (ykN A) hZ)
 | succ m ih =>
   intro A Z c q lg ts lgd hm hnd hA hts hq hlg hZ h
   have n6:=hd.n6
   unfold tGo at h
   cases hR:ycv l q.num q.den lg A with
   | error e =>
     rw [hR] at h
     refine ⟨1,?_⟩
     unfold yc3
     simp only [jn,lt]
     rw [cbT (by omega)]
     refine yg1 hd hq.i1 hq.i2 hA (by omega) (fun e=>by rw [e] at hm;cases hm) Z c (by omega) _ (fun s' hR'=>by rw [hR] at hR';cases hR') (fun e' hR'=>?_)
     rw [hR] at hR'
     cases hR'
     show cbr _ _ _
     rw [cnT (fun e0=>yg0 (e0 ▸ hR))]
     exact h _ _ _ _ _ _ _ _ _ _ _ (ykM _ _ (ykN A) hZ)
   | ok s =>
     rw [hR] at h
     obtain ⟨hw,hsp,hsl,hsk⟩:=ygZ hd hR
     have hwl:s.w<l.length:=hA _ hw
     obtain ⟨d0,hd0⟩:=yxI l.length ts hwl
     have n6:=hd.n6
     dsimp only at h
     rw [if_neg (by omega)] at h
     obtain ⟨X,Y,rfl,hX⟩:=List.eq_append_cons_of_mem hw
     have hY:s.w∉Y:=fun hm=>by
       have:=hnd
       rw [List.nodup_append] at this
       exact (List.nodup_cons.1 this.2.1).1 hm
     have hXY:(X++Y).length=m+1:=by
       simp only [List.length_append,List.length_cons] at hm ⊢;omega
     have hnd2:(X++Y).Nodup:=by
       have:=hnd.erase s.w
       rwa [yo2 hX] at this
     rw [yo2 hX] at h
     have eXY:(X++Y).length=X.length+Y.length:=List.length_append
     have eN:(X++s.w::Y).length=(X++Y).length+1:=by simp only [List.length_append,List.length_cons];omega
     obtain ⟨n,hn⟩:=ih (X++Y) (.int .i64 0::Z) (c-0) s.p s.lg (ts++[⟨s.w,q,s.p,s.k⟩]) (logs s.lg) hXY hnd2 (fun a ha=>hA a (by
         rcases List.mem_append.1 ha with h1 | h1
         · exact List.mem_append_left _ h1
         · exact List.mem_append_right _ (List.mem_cons_of_mem _ h1))) (by simp only [List.length_append,List.length_cons,List.length_nil] at hts hXY ⊢;omega) hsp (by simp only [List.length_append,List.length_cons,List.length_nil] at hsl ⊢;omega) hZ h
     rw [yo0,yBQ] at hn
     refine ⟨n+1,?_⟩
     unfold yc3
     simp only [jn,lt]
     rw [cbT (by omega)]
     refine yg1 hd hq.i1 hq.i2 hA (by omega) (fun e=>by rw [e] at hm;cases hm) Z c (by omega) _ (fun s' hR'=>?_) (fun e' hR'=>by rw [hR] at hR';cases hR')
     rw [hR] at hR'
     cases hR'
     show cbr _ _ _
     rw [cnF rfl,asTw,asT (by omega),yEe,asTw,asT (by rw [ymD];unfold room;omega),asT (by omega),asT (by omega),yfc,asT (by omega),Int.toNat_natCast,Nat.zero_add,asT (by omega),hd0,yzB,ceF (by rw [List.length_append,ymD,yaM];simp only [List.length_cons,List.length_nil];omega)]
     try simp only [decide_true,Bool.and_self,yaj]
     refine ⟨X.length+1,sr1 Z (A:=X++s.w::Y) (Y:=Y) (w:=s.w) _ _ _ _ _ _ _ _ _ _ _ _ _ _ _ _ _ _ _ _ _ _ _ _ _ _ X [] _ (by simp) hX (by omega) (by omega) ?_⟩
     show cbr _ _ _
     simp only [List.nil_append]
     rw [ceF (by omega),show IntKind.i64.wrap ((X.length:Int)+1)=((X.length+1:Nat):Int) by rw [wib (by omega) (by omega)];omega]
     try simp only [decide_true,Nat.beq_refl,Bool.and_self,yaj]
     refine ⟨Y.length+1,rm1 Z (w:=s.w) (N:=(X++s.w::Y).length) _ _ _ _ _ _ _ _ _ _ _ _ _ _ _ _ _ _ _ _ _ _ _ _ _ Y X s.w _ hY (by simp only [List.length_append,List.length_cons];omega) (by omega) (by omega) fun c'=>?_⟩
     show asr _ _
     have e9:((((X++s.w::Y).length:Nat):Int)-(((X++Y).length:Nat):Int)).toNat=1:=by omega
     rw [e9,asT (by omega),asT (by omega),asOr,cbF (by omega),yc5,asT (by simp only [List.length_append,List.length_cons,List.length_nil];omega),Int.toNat_natCast,Nat.zero_add,asT (by omega),yHu,asT (by omega),asTT (by simp;omega)]
     try simp only [decide_true,Nat.beq_refl,Bool.and_self,yaj]
     have e10:((((X++Y).length:Nat):Int)-0).toNat=(X++Y).length:=by omega
     have e11:(X++s.w::Y).length+Z.length=(X++Y).length+(PV.int IntKind.i64 0::Z).length:=by rw [eN];simp only [List.length_cons];omega
     rw [e10,e11]
     exact hn
theorem go0 (hd:DK l) (o:List PV→List PV→List PV→Nat→Nat→Nat→List PV→Int→List PV→List PV→Nat→Nat→Nat→Int→Int→Bool→Prop) (g:List PV→List PV→List PV→Nat→Nat→Nat→List PV→Int→List PV→List PV→Int→Int→Int→Int→Int→Int→Prop) (i:List PV→List PV→List PV→List PV→Nat→Nat→Nat→List PV→Int→List PV→List PV→Int→Int→Int→Int→Int→Int→List PV→List PV→Int→Int→Int→Int→Int→Int→Nat→Nat→Nat→Int→Int→List PV→List PV→Int→Bool→List PV→List PV→Int→Int→Int→Int→Int→Int→Bool→Bool→Prop) (j:List PV→List PV→List PV→List PV→Nat→Nat→Nat→List PV→Int→List PV→List PV→Nat→Nat→Nat→Int→Int→Bool→Prop) (d:List PV→List PV→List PV→List PV→Nat→Nat→Nat→List PV→Int→List PV→List PV→Int→Int→Int→Int→Int→Int→Prop) (f:List PV→List PV→List PV→List PV→Nat→Nat→Nat→List PV→Int→List PV→List PV→Int→Int→Int→Int→Int→Int→List PV→List PV→Int→Int→Int→Int→Int→Int→Nat→Nat→Nat→Int→Int→List PV→List PV→Int→Bool→List PV→List PV→Int→Int→Int→Int→Int→Int→Bool→Bool→Prop):∀ (m:Nat) (A:List Nat) (Z:List PV) (c:Nat) (q:Rat) (lg:List Qy) (lgd:List PV),A.length=m+1→A.Nodup→(∀ a∈A,a<l.length)→A.length=l.length→yap q→lg.length=0→nofn Z →
   (match tGo l (m+1) A lg q [] with
     | .ok (ts',lg')=>(∀ (r1:List PV) (j9:List PV) (j10:List PV) (j11:Int) (j12:Int) (j13:Int) (j14:Int) (j15:Int) (j16:Int) (j17:List PV) (j18:List PV) (j19:Int) (j20:Int) (j21:Int) (j22:Int) (j23:Int) (j24:Int) (j25:Nat) (j26:Nat) (j27:Nat) (j28:Int) (j29:Int) (j30:List PV) (j31:List PV) (j32:Int) (j33:Bool) (j34:List PV) (j35:List PV) (j36:Int) (j37:Int) (j38:Int) (j39:Int) (j40:Int) (j41:Int) (j42:Bool) (j43:Bool),nofn r1→i (pcs l.length ts') r1 (tns ts') (cks l) l.length l.length l.length (logs lg') 0 j9 j10 j11 j12 j13 j14 j15 j16 j17 j18 j19 j20 j21 j22 j23 j24 j25 j26 j27 j28 j29 j30 j31 j32 j33 j34 j35 j36 j37 j38 j39 j40 j41 j42 j43)∧(∀ (r1:List PV) (j9:List PV) (j10:List PV) (j11:Int) (j12:Int) (j13:Int) (j14:Int) (j15:Int) (j16:Int) (j17:List PV) (j18:List PV) (j19:Int) (j20:Int) (j21:Int) (j22:Int) (j23:Int) (j24:Int) (j25:Nat) (j26:Nat) (j27:Nat) (j28:Int) (j29:Int) (j30:List PV) (j31:List PV) (j32:Int) (j33:Bool) (j34:List PV) (j35:List PV) (j36:Int) (j37:Int) (j38:Int) (j39:Int) (j40:Int) (j41:Int) (j42:Bool) (j43:Bool),nofn r1→f (pcs l.length ts') r1 (tns ts') (cks l) l.length l.length l.length (logs lg') 0 j9 j10 j11 j12 j13 j14 j15 j16 j17 j18 j19 j20 j21 j22 j23 j24 j25 j26 j27 j28 j29 j30 j31 j32 j33 j34 j35 j36 j37 j38 j39 j40 j41 j42 j43)
     | .error e=>(∀ (r1 lgx:List PV) (j8:List PV) (j9:List PV) (j10:Int) (j11:Int) (j12:Int) (j13:Int) (j14:Int) (j15:Int),nofn r1→g (pcs l.length []) r1 (cks l) l.length l.length l.length lgx e j8 j9 j10 j11 j12 j13 j14 j15)∧(∀ (r1:List PV) (ts':List Tn) (lgx:List PV) (j9:List PV) (j10:List PV) (j11:Int) (j12:Int) (j13:Int) (j14:Int) (j15:Int) (j16:Int),nofn r1→d (pcs l.length ts') r1 (tns ts') (cks l) l.length l.length l.length lgx e j9 j10 j11 j12 j13 j14 j15 j16))→∃ n,yc4 yaV yay yaF o g i j d f n (pcs l.length []) (nts A++Z) (cks l) l.length l.length l.length lgd 0 (cks l) (logs lg) A.length (A.length+Z.length) c q.num q.den:=by
 intro m A Z c q lg lgd hm hnd hA hts hq hlg hZ h
 have n6:=hd.n6
 unfold tGo at h
 cases hR:ycv l q.num q.den lg A with
 | error e =>
   rw [hR] at h
   refine ⟨1,?_⟩
   unfold yc4
   simp only [jn,lt]
   rw [cbT (by omega)]
   refine yg1 hd hq.i1 hq.i2 hA (by omega) (fun e=>by rw [e] at hm;cases hm) Z c (by omega) _ (fun s' hR'=>by rw [hR] at hR';cases hR') (fun e' hR'=>?_)
   rw [hR] at hR'
   cases hR'
   show cbr _ _ _
   rw [cnT (fun e0=>yg0 (e0 ▸ hR))]
   exact h.1 _ _ _ _ _ _ _ _ _ _ (ykM _ _ (ykN A) hZ)
 | ok s =>
   rw [hR] at h
   obtain ⟨hw,hsp,hsl,hsk⟩:=ygZ hd hR
   have hwl:s.w<l.length:=hA _ hw
   obtain ⟨d0,hd0⟩:=yxI l.length [] hwl
   have n6:=hd.n6
   dsimp only at h
   cases m with
   | zero =>
     rw [if_pos hm] at h
     refine ⟨1,?_⟩
     unfold yc4
     simp only [jn,lt]
     rw [cbT (by omega)]
     refine yg1 hd hq.i1 hq.i2 hA (by omega) (fun e=>by rw [e] at hm;cases hm) Z c (by omega) _ (fun s' hR'=>?_) (fun e' hR'=>by rw [hR] at hR';cases hR')
     rw [hR] at hR'
     cases hR'
     show cbr _ _ _
     rw [cnF rfl,asT (by omega),asT (by omega),yfc,asT (by omega),Int.toNat_natCast,Nat.zero_add,asT (by omega),hd0,yzB,ceT (by rw [yaM];omega)]
     have:=h.1 (nts A++Z)
     rw [yo0] at this
     exact this _ _ _ _ _ _ _ _ _ _ _ _ _ _ _ _ _ _ _ _ _ _ _ _ _ _ _ _ _ _ _ _ _ _ _ (ykM _ _ (ykN A) hZ)
   | succ m =>
     rw [if_neg (by omega)] at h
     obtain ⟨X,Y,rfl,hX⟩:=List.eq_append_cons_of_mem hw
     have hY:s.w∉Y:=fun hm=>by
       have:=hnd
       rw [List.nodup_append] at this
       exact (List.nodup_cons.1 this.2.1).1 hm
     have hXY:(X++Y).length=m+1:=by
       simp only [List.length_append,List.length_cons] at hm ⊢;omega
     have hnd2:(X++Y).Nodup:=by
       have:=hnd.erase s.w
       rwa [yo2 hX] at this
     rw [yo2 hX] at h
     have eXY:(X++Y).length=X.length+Y.length:=List.length_append
     have eN:(X++s.w::Y).length=(X++Y).length+1:=by simp only [List.length_append,List.length_cons];omega
     obtain ⟨n,hn⟩:=go1 hd j d f m (X++Y) (.int .i64 0::Z) (c-0) s.p s.lg ([]++[⟨s.w,q,s.p,s.k⟩]) (logs s.lg) hXY hnd2 (fun a ha=>hA a (by
         rcases List.mem_append.1 ha with h1 | h1
         · exact List.mem_append_left _ h1
         · exact List.mem_append_right _ (List.mem_cons_of_mem _ h1))) (by simp only [List.length_append,List.length_cons,List.length_nil] at hts hXY ⊢;omega) hsp (by simp only [List.length_append,List.length_cons,List.length_nil] at hsl hts ⊢;omega) hZ (by
           revert h
           cases tGo l (m+1) (X++Y) s.lg s.p ([]++[⟨s.w,q,s.p,s.k⟩]) with
           | ok x=>obtain ⟨a,b⟩:=x;intro h;exact h.2
           | error e=>intro h;exact h.2)
     rw [yo0] at hn
     refine ⟨n+1,?_⟩
     unfold yc4
     simp only [jn,lt]
     rw [cbT (by omega)]
     refine yg1 hd hq.i1 hq.i2 hA (by omega) (fun e=>by rw [e] at hm;cases hm) Z c (by omega) _ (fun s' hR'=>?_) (fun e' hR'=>by rw [hR] at hR';cases hR')
     rw [hR] at hR'
     cases hR'
     show cbr _ _ _
     rw [cnF rfl,asT (by omega),asT (by omega),yfc,asT (by omega),Int.toNat_natCast,Nat.zero_add,asT (by omega),hd0,yzB,ceF (by rw [yaM];omega)]
     try simp only [List.length_cons,List.length_nil,decide_true,Bool.and_self,yaj]
     refine ⟨X.length+1,sr0 Z (A:=X++s.w::Y) (Y:=Y) (w:=s.w) _ _ _ _ _ _ _ _ _ _ _ _ _ _ _ _ _ _ _ _ _ _ _ _ _ _ X [] _ (by simp) hX (by omega) (by omega) ?_⟩
     show cbr _ _ _
     simp only [List.nil_append]
     rw [ceF (by omega),show IntKind.i64.wrap ((X.length:Int)+1)=((X.length+1:Nat):Int) by rw [wib (by omega) (by omega)];omega]
     try simp only [decide_true,Nat.beq_refl,Bool.and_self,yaj]
     refine ⟨Y.length+1,rm0 Z (w:=s.w) (N:=(X++s.w::Y).length) _ _ _ _ _ _ _ _ _ _ _ _ _ _ _ _ _ _ _ _ _ _ _ _ _ Y X s.w _ hY (by simp only [List.length_append,List.length_cons];omega) (by omega) (by omega) fun c'=>?_⟩
     show asr _ _
     have e9:((((X++s.w::Y).length:Nat):Int)-(((X++Y).length:Nat):Int)).toNat=1:=by omega
     rw [e9,asT (by omega),asT (by omega),asOr,cbF (by omega),yc5,asT (by simp only [List.length_append,List.length_cons,List.length_nil];omega),Int.toNat_natCast,Nat.zero_add,asT (by omega),yHu,asT (by omega),asTT (by simp;omega)]
     try simp only [decide_true,Nat.beq_refl,Bool.and_self,yaj]
     have e10:((((X++Y).length:Nat):Int)-0).toNat=(X++Y).length:=by omega
     have e11:(X++s.w::Y).length+Z.length=(X++Y).length+(PV.int IntKind.i64 0::Z).length:=by rw [eN];simp only [List.length_cons];omega
     rw [e10,e11]
     exact hn
theorem go0e (hd:DK l) (i:List PV→List PV→List PV→Nat→Nat→Nat→List PV→Int→List PV→List PV→Nat→Nat→Nat→Int→Int→Bool→Prop) (b:List PV→List PV→List PV→Nat→Nat→Nat→List PV→Int→List PV→List PV→Int→Int→Int→Int→Int→Int→Prop) (d:List PV→List PV→List PV→List PV→Nat→Nat→Nat→List PV→Int→List PV→List PV→Int→Int→Int→Int→Int→Int→List PV→List PV→Int→Int→Int→Int→Int→Int→Nat→Nat→Nat→Int→Int→List PV→List PV→Int→Bool→List PV→List PV→Int→Int→Int→Int→Int→Int→Bool→Bool→Prop) (j:List PV→List PV→List PV→List PV→Nat→Nat→Nat→List PV→Int→List PV→List PV→Nat→Nat→Nat→Int→Int→Bool→Prop) (f:List PV→List PV→List PV→List PV→Nat→Nat→Nat→List PV→Int→List PV→List PV→Int→Int→Int→Int→Int→Int→Prop) (g:List PV→List PV→List PV→List PV→Nat→Nat→Nat→List PV→Int→List PV→List PV→Int→Int→Int→Int→Int→Int→List PV→List PV→Int→Int→Int→Int→Int→Int→Nat→Nat→Nat→Int→Int→List PV→List PV→Int→Bool→List PV→List PV→Int→Int→Int→Int→Int→Int→Bool→Bool→Prop) (m:Nat) (A:List Nat) (Z:List PV) (c:Nat) (q:Rat) (lg:List Qy) (lgd:List PV) (hm:A.length=m+1) (hnd:A.Nodup) (hA:∀ a∈A,a<l.length) (hts:A.length=l.length) (hq:yap q) (hlg:lg.length=0) (hZ:nofn Z) {pc rows dl:List PV} {n10 n11:Nat} {i13 i14:Int} (e0:pc=pcs l.length []) (e1:rows=nts A++Z) (e2:n10=A.length) (e3:n11=A.length+Z.length) (e4:i13=q.num) (e5:i14=q.den) (e6:dl=logs lg)
   (h:match tGo l (m+1) A lg q [] with
     | .ok (ts',lg')=>(∀ (r1:List PV) (j9:List PV) (j10:List PV) (j11:Int) (j12:Int) (j13:Int) (j14:Int) (j15:Int) (j16:Int) (j17:List PV) (j18:List PV) (j19:Int) (j20:Int) (j21:Int) (j22:Int) (j23:Int) (j24:Int) (j25:Nat) (j26:Nat) (j27:Nat) (j28:Int) (j29:Int) (j30:List PV) (j31:List PV) (j32:Int) (j33:Bool) (j34:List PV) (j35:List PV) (j36:Int) (j37:Int) (j38:Int) (j39:Int) (j40:Int) (j41:Int) (j42:Bool) (j43:Bool),nofn r1→d (pcs l.length ts') r1 (tns ts') (cks l) l.length l.length l.length (logs lg') 0 j9 j10 j11 j12 j13 j14 j15 j16 j17 j18 j19 j20 j21 j22 j23 j24 j25 j26 j27 j28 j29 j30 j31 j32 j33 j34 j35 j36 j37 j38 j39 j40 j41 j42 j43)∧(∀ (r1:List PV) (j9:List PV) (j10:List PV) (j11:Int) (j12:Int) (j13:Int) (j14:Int) (j15:Int) (j16:Int) (j17:List PV) (j18:List PV) (j19:Int) (j20:Int) (j21:Int) (j22:Int) (j23:Int) (j24:Int) (j25:Nat) (j26:Nat) (j27:Nat) (j28:Int) (j29:Int) (j30:List PV) (j31:List PV) (j32:Int) (j33:Bool) (j34:List PV) (j35:List PV) (j36:Int) (j37:Int) (j38:Int) (j39:Int) (j40:Int) (j41:Int) (j42:Bool) (j43:Bool),nofn r1→g (pcs l.length ts') r1 (tns ts') (cks l) l.length l.length l.length (logs lg') 0 j9 j10 j11 j12 j13 j14 j15 j16 j17 j18 j19 j20 j21 j22 j23 j24 j25 j26 j27 j28 j29 j30 j31 j32 j33 j34 j35 j36 j37 j38 j39 j40 j41 j42 j43)
     | .error e=>(∀ (r1 lgx:List PV) (j8:List PV) (j9:List PV) (j10:Int) (j11:Int) (j12:Int) (j13:Int) (j14:Int) (j15:Int),nofn r1→b (pcs l.length []) r1 (cks l) l.length l.length l.length lgx e j8 j9 j10 j11 j12 j13 j14 j15)∧(∀ (r1:List PV) (ts':List Tn) (lgx:List PV) (j9:List PV) (j10:List PV) (j11:Int) (j12:Int) (j13:Int) (j14:Int) (j15:Int) (j16:Int),nofn r1→f (pcs l.length ts') r1 (tns ts') (cks l) l.length l.length l.length lgx e j9 j10 j11 j12 j13 j14 j15 j16)):∃ n,yc4 yaV yay yaF i b d j f g n pc rows (cks l) l.length l.length l.length lgd 0 (cks l) dl n10 n11 c i13 i14:=by
 subst e0;subst e1;subst e2;subst e3;subst e4;subst e5;subst e6
 exact go0 hd i b d j f g m A Z c q lg lgd hm hnd hA hts hq hlg hZ h
theorem ini (x:List PV→List PV→List PV→Nat→Nat→Nat→List PV→Int→List PV→List PV→Nat→Nat→Nat→Int→Int→Bool→Prop) (l0 l2:List PV) (n3 n4 n5:Nat) (l6:List PV) (i7:Int) (l8 l9:List PV) {N c:Nat} (hN:N≤1000):∀ (r i n:Nat),i+r=N→r<n →
   x l0 (nts (List.range N)) l2 n3 n4 n5 l6 i7 l8 l9 N N c ((N:Nat):Int) ((N:Nat):Int) false→ydQ yaV yay yaF x n l0 (nts (List.range i)++List.replicate r (.int .i64 0)) l2 n3 n4 n5 l6 i7 l8 l9 N N c ((N:Nat):Int) ((i:Nat):Int)
 | 0,i,n,hi,hn,h=>by
   obtain ⟨n,rfl⟩:∃ k,n=k+1:=⟨n-1,by omega⟩
   have e:i=N:=by omega
   subst e
   unfold ydQ
   rw [cbF (by omega),List.replicate_zero,List.append_nil]
   exact h
 | r+1,i,n,hi,hn,h=>by
   obtain ⟨n,rfl⟩:∃ k,n=k+1:=⟨n-1,by omega⟩
   have IH:=ini x l0 l2 n3 n4 n5 l6 i7 l8 l9 (c:=c) hN r (i+1) n (by omega) (by omega) h
   have hlen:(nts (List.range i)++List.replicate (r+1) (PV.int IntKind.i64 0)).length=N:=by
     rw [List.length_append,ycq,List.length_range,List.length_replicate];omega
   have hrow:List.getD (nts (List.range i)++List.replicate (r+1) (PV.int IntKind.i64 0)) i .nils=.int .i64 0:=by
     rw [List.getD_eq_getElem?_getD,List.getElem?_append_right (by rw [ycq,List.length_range];exact Nat.le_refl _),ycq,List.length_range,Nat.sub_self]
     rfl
   have hset:List.set (nts (List.range i)++List.replicate (r+1) (PV.int IntKind.i64 0)) i (.int .i64 i)=nts (List.range (i+1))++List.replicate r (PV.int IntKind.i64 0):=by
     have e:i=(nts (List.range i)).length:=by rw [ycq,List.length_range]
     rw [List.range_succ,ymC,List.append_assoc]
     conv=>lhs;arg 2;rw [e]
     rw [List.set_append_right _ _ (Nat.le_refl _),Nat.sub_self]
     rfl
   have ew:IntKind.i64.wrap ((i:Int)+1)=((i+1:Nat):Int):=by rw [wib (by omega) (by omega)];omega
   unfold ydQ
   simp only [lt]
   rw [cbT (by omega),asT (by omega),asT (by omega),hlen,asT (by omega),Nat.zero_add,Int.toNat_natCast,asT (by omega),hrow,yeY,hset,ew]
   exact IH
def tRun (l:List Ck):Except Int (List Tn×List Qy):=if ydW l 0=0 then tGo l l.length (List.range l.length) [] 0 [] else .error (ydW l 0)
end
end Go.Pf.Vc
namespace Go.Pf.Vc
open Go Go.Pf
section
variable {l:List Ck}
theorem take_all {a:List PV} {n:Nat} (h:a.length=n):List.take n a=a:=List.take_of_length_le (by omega)
theorem yK4 (hf:finC l) (hl:l.length<4611686018427387904) (K:List PV→List PV→List PV→Int→Prop) :
   yeV (cks l) K=match tRun l with
     | .ok (ts,lg)=>K (pcs l.length ts) (tns ts) (logs lg) 0
     | .error e=>K [] [] [] e:=by
 unfold tRun
 by_cases h0:ydW l 0=0
 case neg =>
   rw [if_neg h0]
   refine ymz _ [] [] [] (ydW l 0) (fun K k=>?_) K
   unfold yeV yju
   rw [yD7 hf hl,if_neg h0,cnT h0]
   exact k
 rw [if_pos h0]
 obtain ⟨hd,_⟩:=yeX h0
 have n6:=hd.n6
 have n0:=hd.n0
 obtain ⟨m,hm⟩:∃ m,l.length=m+1:=⟨l.length-1,by omega⟩
 have hnd:(List.range l.length).Nodup:=List.nodup_range
 have hA:∀ a∈List.range l.length,a<l.length:=fun a ha=>List.mem_range.1 ha
 have s0:yap (0:Rat):=by have:=yf0 (x:=0) (by omega);simpa using this
 have main:∀ K:List PV→List PV→List PV→Int→Prop,(match tGo l l.length (List.range l.length) [] 0 [] with
     | .ok (ts,lg)=>K (pcs l.length ts) (tns ts) (logs lg) 0
     | .error e=>e≠0∧K [] [] [] e)→yeV (cks l) K:=by
   intro K k
   unfold yeV yju
   rw [yD7 hf hl,if_pos h0,cnF rfl]
   rw [yaM,asT (by omega),asT (by omega),asT (by unfold room;omega),asT (by omega),asT (by omega),asT (by unfold room;omega)]
   refine ⟨l.length+1,ini _ _ _ _ _ _ _ _ _ _ (N:=l.length) (by omega) l.length 0 _ (by omega) (by omega) ?_⟩
   show yay 0 _
   rw [yzx]
   refine go0e hd _ _ _ _ _ _ m (List.range l.length) [] _ 0 [] _ (by rw [List.length_range];exact hm) hnd hA List.length_range s0 rfl rfl rfl (List.append_nil _).symm List.length_range.symm (by rw [List.length_range];rfl) rfl rfl rfl ?_
   rw [← hm]
   revert k
   cases tGo l l.length (List.range l.length) [] 0 [] with
   | ok x =>
     obtain ⟨ts,lg⟩:=x
     intro k
     have hp:=yxK l.length ts
     have ht:=yxL ts
     unfold nofn at hp ht
     refine ⟨?_,?_⟩
     · intro r1
       intros
       rename_i hr
       unfold nofn at hr
       show asr _ _
       rw [asTT (by simp only [noYH,yaW,ycX,noY,Bool.and_self,hr,hp,ht])]
       show cbr _ _ _
       rw [cnF rfl,yfc,asT (by omega),asT (by omega),asT (by omega),asT (by omega),take_all (yfc _ _),take_all rfl]
       exact k
     · intro r1
       intros
       rename_i hr
       unfold nofn at hr
       show asr _ _
       rw [asTT (by simp only [noYH,yaW,ycX,noY,Bool.and_self,hr,hp,ht])]
       show cbr _ _ _
       rw [cnF rfl,yfc,asT (by omega),asT (by omega),asT (by omega),asT (by omega),take_all (yfc _ _),take_all rfl]
       exact k
   | error e =>
     intro k
     refine ⟨?_,?_⟩
     · intro r1 lgx
       intros
       rename_i hr
       have hp:=yxK l.length []
       unfold nofn at hr hp
       show asr _ _
       rw [asTT (by simp only [noYH,yaW,ycX,noY,Bool.and_self,hr,hp])]
       show cbr _ _ _
       rw [cnT k.1]
       exact k.2
     · intro r1 ts' lgx
       intros
       rename_i hr
       have hp:=yxK l.length ts'
       have ht:=yxL ts'
       unfold nofn at hr hp ht
       show asr _ _
       rw [asTT (by simp only [noYH,yaW,ycX,noY,Bool.and_self,hr,hp,ht])]
       show cbr _ _ _
       rw [cnT k.1]
       exact k.2
 cases hT:tGo l l.length (List.range l.length) [] 0 [] with
 | ok x =>
   obtain ⟨ts,lg⟩:=x
   refine ymz _ (pcs l.length ts) (tns ts) (logs lg) 0 (fun K k=>main K ?_) K
   rw [hT]
   exact k
 | error e =>
   refine ymz _ [] [] [] e (fun K k=>main K ?_) K
   rw [hT]
   exact ⟨fun e0=>yHv _ _ _ _ _ (e0 ▸ hT),k⟩
end
end Go.Pf.Vc
namespace Go.Pf.Vc
open Go Go.Pf
section
variable {l:List Ck}
theorem yIw (hd:DK l) {a:Nat} {an ad:Int} (ha:I64 an) (ha':I64 ad) (lg:List Qy) {p:Rat} (hp:yap p) (K:List PV→List PV→Int→Int→Int→Prop) :
   ydx (cks l) (logs lg) a an ad p.num p.den K =
     match valE l an ad lg.length a p with
     | .ok v=>K (cks l) (logs (lg++[valQ an ad a p v])) v.num v.den 0
     | .error e=>K [] [] 0 0 e:=by
 have n6:=hd.n6
 rw [yIo hd.fin (by omega) (yoY lg) ha ha' hp.i1 hp.i2,ycB]
 have em:qryR l lg.length a (Ck.value an ad p.num p.den)=valE l an ad lg.length a p:=rfl
 rw [em]
 cases valE l an ad lg.length a p with
 | ok v =>
   show K (cks l) (logs lg++[_]) _ _ _=K (cks l) (logs (lg++[_])) _ _ _
   rw [ysI];rfl
 | error c=>rfl
theorem yzC (hd:DK l) {a:Nat} (h:a<l.length) {an ad:Int} (ha:I64 an) (ha':I64 ad) (lg:List Qy) (K:List PV→List PV→Int→Int→Int→Prop) :
   yee (cks l) (logs lg) a an ad (shN l a).num (shN l a).den K =
     match yf1 l an ad lg.length a with
     | .ok p=>K (cks l) (logs (lg++[yow l an ad a p])) p.num p.den 0
     | .error e=>K [] [] 0 0 e:=by
 have hs:=ygX hd h
 have n6:=hd.n6
 rw [yJ0 hd.fin (by omega) (yoY lg) ha ha' hs.i1 hs.i2,ycB]
 have em:qryR l lg.length a (Ck.mark an ad (shN l a).num (shN l a).den)=yf1 l an ad lg.length a:=rfl
 rw [em]
 cases yf1 l an ad lg.length a with
 | ok p =>
   show K (cks l) (logs lg++[_]) _ _ _=K (cks l) (logs (lg++[_])) _ _ _
   rw [ysI];rfl
 | error c=>rfl
theorem ytU (hd:DK l) {a:Nat} (h2:a<l.length) (lg:List PV) (K:Int→Int→Prop):ydy (cks l) lg a K=K (shN l a).num (shN l a).den :=
 yIu h2 (hd.ok a h2) (by have:=hd.n6;omega) lg K
theorem yHw {A:List Nat} {i:Nat} (h:i<A.length):List.getD (nts A) i .nils=.int .i64 (A.getD i 0):=yJ3 h
theorem rag (hd:DK l) {an ad:Int} (ha:I64 an) (ha':I64 ad) {A:List Nat} (hA:∀ a∈A,a<l.length) (hA6:A.length≤1000) {x} (j5 j6 j7 j8 j9 j10 i12 i13:Int)
   {R:TSt→Prop} {R':Int→Prop}
   (hR:∀ s,R s→x (nts A) (cks l) (logs s.lg) an ad j5 j6 j7 j8 j9 j10 (s.w:Int) i12 i13 s.p.num s.p.den (s.k:Int) 0 ((A.length:Nat):Int) false)
   (hR':∀ e,e≠0→R' e→∀ (d1 d2:List PV) (w a b k i:Int),x (nts A) d1 d2 an ad j5 j6 j7 j8 j9 j10 w i12 i13 a b k e i false) :
   ∀ (r:List Nat) (i n:Nat) (s:TSt),A.drop i=r→i≤A.length→yap s.p→s.k≤i→r.length+1<n →
   (match tR l an ad r s with | .ok s'=>R s' | .error e=>R' e) →
   ybs ybl ydy yee ydx yaT x n (nts A) (cks l) (logs s.lg) an ad j5 j6 j7 j8 j9 j10 (s.w:Int) i12 i13 s.p.num s.p.den (s.k:Int) 0 ((i:Nat):Int)
 | [],i,n,s,hr,hi,hs,hk,hn,h=>by
   obtain ⟨n,rfl⟩:∃ k,n=k+1:=⟨n-1,by omega⟩
   have e:i=A.length:=by
     have:=congrArg List.length hr
     rw [List.length_drop,List.length_nil] at this
     omega
   subst e
   unfold ybs
   simp only [jn]
   rw [ycq,cbF (by omega),yaa]
   exact hR s h
 | a::r,i,n,s,hr,hi,hs,hk,hn,h=>by
   obtain ⟨n,rfl⟩:∃ k,n=k+1:=⟨n-1,by omega⟩
   simp only [List.length_cons] at hn
   obtain ⟨hlt,hg,hr'⟩:=ysK hr
   have ham:a<l.length:=hA a (by rw [← hg,List.getD_eq_getElem?_getD,List.getElem?_eq_getElem hlt];exact List.getElem_mem hlt)
   have ew:IntKind.i64.wrap ((i:Int)+1)=((i+1:Nat):Int):=by rw [wib (by omega) (by omega)];omega
   have ek:IntKind.i64.wrap ((s.k:Int)+1)=((s.k+1:Nat):Int):=by rw [wib (by omega) (by omega)];omega
   have er:∀ e,e≠0→R' e→∀ (d1 d2:List PV) (w a b k:Int),ybs ybl ydy yee ydx yaT x n (nts A) d1 d2 an ad j5 j6 j7 j8 j9 j10 w i12 i13 a b k e ((i+1:Nat):Int):=by
     intro e he hE d1 d2 w a b k
     obtain ⟨n,rfl⟩:∃ k,n=k+1:=⟨n-1,by omega⟩
     unfold ybs
     simp only [jn]
     rw [yqf he]
     by_cases hc:((i+1:Nat):Int)<(((nts A).length:Nat):Int)
     · rw [cbT hc,yaa];exact hR' e he hE _ _ _ _ _ _ _
     · rw [cbF hc,yaa];exact hR' e he hE _ _ _ _ _ _ _
   have IH:=rag hd ha ha' hA hA6 j5 j6 j7 j8 j9 j10 i12 i13 hR hR' r (i+1) n
   have hh:=h
   unfold tR at hh
   unfold ybs
   simp only [jn,lt]
   rw [ycq,cbT (by omega),yHg rfl,yad,asT (by omega),asT (by omega),Int.toNat_natCast,yHw hlt,hg,yeY,iov,yIw hd ha ha' s.lg hs]
   cases hv:valE l an ad s.lg.length a s.p with
   | error e =>
     rw [hv] at hh
     have he0:e≠0:=fun e0=>yxH (e0 ▸ hv)
     dsimp only
     rw [cnT he0,yad,ew]
     exact er e he0 hh _ _ _ _ _ _
   | ok v =>
     rw [hv] at hh
     dsimp only at hh ⊢
     have sv:yap v:=yuC hv
     rw [cnF rfl,asT (by omega),asT (by omega),yeY,ytU hd ham,yhy (ygX hd ham) sv]
     by_cases hm:shN l a<v
     · rw [if_pos hm] at hh
       rw [decide_eq_true hm,Bool.not_true,yaa,asT (by omega),asT (by omega),yeY,asT (by omega),asT (by omega),yeY,ytU hd ham,yzC hd ham ha ha' (s.lg++[valQ an ad a s.p v])]
       rw [List.length_append,List.length_singleton]
       cases hq:yf1 l an ad (s.lg.length+1) a with
       | error e =>
         rw [hq] at hh
         have he0:e≠0:=fun e0=>yie (e0 ▸ hq)
         dsimp only
         rw [asT (by omega),asT (by omega),yeY,ew,ek]
         exact er e he0 hh _ _ _ _ _ _
       | ok q =>
         rw [hq] at hh
         dsimp only at hh ⊢
         rw [asT (by omega),asT (by omega),yeY,ew,ek]
         exact IH ⟨(s.lg++[valQ an ad a s.p v])++[yow l an ad a q],q,a,s.k+1⟩ hr' (by omega) (yf2 hq) (by show s.k+1≤i+1;omega) (by omega) hh
     · rw [if_neg hm] at hh
       rw [decide_eq_false hm,Bool.not_false,yad,ew]
       exact IH ⟨s.lg++[valQ an ad a s.p v],s.p,s.w,s.k⟩ hr' (by omega) hs (by show s.k≤i+1;omega) (by omega) hh
theorem yzD (hd:DK l) {an ad:Int} (ha:I64 an) (ha':I64 ad) {A:List Nat} (hA:∀ a∈A,a<l.length) (hA6:A.length≤900) (h0:A≠[]) (lg:List Qy) (K:List PV→List PV→Int→Int→Int→Int→Int→Int→Int→Prop)
   (h1:∀ s,ycv l an ad lg A=.ok s→K (cks l) (logs s.lg) (s.w:Int) an ad s.p.num s.p.den (s.k:Int) 0) (h2:∀ e,ycv l an ad lg A=.error e→K [] [] 0 0 0 0 0 0 e) :
   ycO (cks l) (logs lg) (nts A) an ad K:=by
 have n0:=hd.n0
 obtain ⟨a,r,rfl⟩:∃ a r,A=a::r:=by cases A with | nil=>exact absurd rfl h0 | cons a r=>exact ⟨a,r,rfl⟩
 have hlen:(a::r).length=r.length+1:=rfl
 have hlt:0<(a::r).length:=by omega
 have ham:a<l.length:=hA a List.mem_cons_self
 have hg:(a::r).getD 0 0=a:=rfl
 unfold ycO ymu
 simp only [lt]
 rw [ycq,asT (by omega),yHw hlt,hg,yeY,iov,yaM,asT (by omega),yeu (by omega),asCk,ck0,yos]
 have e1:((((l.getD 0 default).len:Int):Rat)).num=(l.getD 0 default).len:=Rat.num_intCast _
 cases r with
 | nil =>
   rw [ceT (by simp)]
   exact h1 _ rfl
 | cons b r =>
   rw [ceF (by simp only [List.length_cons];omega),asT (by omega),yeY,asT (by omega),yeY,ytU hd ham,yzC hd ham ha ha' lg]
   have ht:∀ p,yf1 l an ad lg.length a=.ok p→ycv l an ad lg (a::b::r)=tR l an ad (b::r) ⟨lg++[yow l an ad a p],p,a,0⟩:=fun p hp=>by simp only [ycv,hp]
   have hte:∀ e,yf1 l an ad lg.length a=.error e→ycv l an ad lg (a::b::r)=.error e:=fun e hp=>by simp only [ycv,hp]
   cases hq:yf1 l an ad lg.length a with
   | error e =>
     have he0:e≠0:=fun e0=>yie (e0 ▸ hq)
     dsimp only
     refine ⟨1,?_⟩
     unfold ybs
     simp only [jn]
     rw [yqf he0]
     by_cases hc:(1:Int)<(((nts (a::b::r)).length:Nat):Int)
     · rw [cbT hc,yaa,cnT he0];exact h2 e (hte e hq)
     · rw [cbF hc,yaa,cnT he0];exact h2 e (hte e hq)
   | ok p =>
     dsimp only
     refine ⟨(b::r).length+2,rag hd ha ha' hA (by omega) 0 0 0 0 0 0 an ad (R:=fun s=>ycv l an ad lg (a::b::r)=.ok s) (R':=fun e=>ycv l an ad lg (a::b::r)=.error e) (fun s hs=>?_) (fun e he hE d1 d2 w a b k i=>?_) (b::r) 1 _ ⟨lg++[yow l an ad a p],p,a,0⟩ rfl (by simp only [List.length_cons];omega) (yf2 hq) (Nat.zero_le _) (by omega) ?_⟩
     · rw [cnF rfl];exact h1 s hs
     · rw [cnT he];exact h2 e hE
     · rw [ht p hq]
       cases tR l an ad (b::r) ⟨lg++[yow l an ad a p],p,a,0⟩ with
       | ok s=>rfl
       | error e=>rfl
end
theorem wo1 (w:Nat) {A:List Nat} (hA:A.length≤900) {x0} {x1}:∀ (r:List Nat) (i n:Nat) (B:List Nat),A.drop i=r→i≤A.length→B.length≤i→r.length<n →
   x1 (nts (B++r.filter (· != w))) (nts A) (w:Int) ((A.length:Nat):Int) false→yco x0 x1 n (nts B) (nts A) (w:Int) ((i:Nat):Int)
 | [],i,n,B,hr,hi,hB,hn,h=>by
   obtain ⟨n,rfl⟩:∃ k,n=k+1:=⟨n-1,by omega⟩
   have e:i=A.length:=by
     have:=congrArg List.length hr
     rw [List.length_drop,List.length_nil] at this
     omega
   subst e
   unfold yco
   rw [ycq,cbF (by omega)]
   rw [List.filter_nil,List.append_nil] at h
   exact h
 | a::r,i,n,B,hr,hi,hB,hn,h=>by
   obtain ⟨n,rfl⟩:∃ k,n=k+1:=⟨n-1,by omega⟩
   simp only [List.length_cons] at hn
   obtain ⟨hlt,hg,hr'⟩:=ysK hr
   have ew:IntKind.i64.wrap ((i:Int)+1)=((i+1:Nat):Int):=by rw [wib (by omega) (by omega)];omega
   unfold yco
   simp only [jn,lt]
   rw [ycq,cbT (by omega),asT (by omega),asT (by omega),Int.toNat_natCast,yHw hlt,hg,yeY,iov]
   by_cases e:a=w
   · subst e
     rw [cnF rfl,ew]
     try simp only [decide_true,Bool.and_self,yaj]
     refine wo1 a hA r (i+1) n B hr' (by omega) (by omega) (by omega) ?_
     rw [List.filter_cons_of_neg (by simp)] at h
     exact h
   · rw [cnT (fun e'=>e (Int.ofNat_inj.1 e')),asT (by omega),asT (by omega),yeY]
     try simp only [decide_true,yaj]
     have eB:nts B++[PV.int IntKind.i64 (a:Int)]=nts (B++[a]):=by rw [ymC];rfl
     rw [ycq,asT (by omega),yEe,asT (by unfold room;omega),ew,eB]
     try simp only [Bool.and_self,yaj]
     refine wo1 w hA r (i+1) n (B++[a]) hr' (by omega) (by rw [List.length_append];simp only [List.length_cons,List.length_nil];omega) (by omega) ?_
     rw [List.filter_cons_of_pos (by simpa using e)] at h
     rw [List.append_assoc]
     exact h
theorem wo0 (w:Nat) {A:List Nat} (hA:A.length≤900) {x0} {x1}:∀ (r:List Nat) (i n:Nat),A.drop i=r→i≤A.length→r.length<n →
   (r.filter (· != w)=[]→x0 (nts A) (w:Int) ((A.length:Nat):Int) false)→x1 (nts (r.filter (· != w))) (nts A) (w:Int) ((A.length:Nat):Int) false→ycn x0 x1 n (nts A) (w:Int) ((i:Nat):Int)
 | [],i,n,hr,hi,hn,h,h'=>by
   obtain ⟨n,rfl⟩:∃ k,n=k+1:=⟨n-1,by omega⟩
   have e:i=A.length:=by
     have:=congrArg List.length hr
     rw [List.length_drop,List.length_nil] at this
     omega
   subst e
   unfold ycn
   rw [ycq,cbF (by omega)]
   exact h rfl
 | a::r,i,n,hr,hi,hn,h,h'=>by
   obtain ⟨n,rfl⟩:∃ k,n=k+1:=⟨n-1,by omega⟩
   simp only [List.length_cons] at hn
   obtain ⟨hlt,hg,hr'⟩:=ysK hr
   have ew:IntKind.i64.wrap ((i:Int)+1)=((i+1:Nat):Int):=by rw [wib (by omega) (by omega)];omega
   unfold ycn
   simp only [lt]
   rw [ycq,cbT (by omega),asT (by omega),asT (by omega),Int.toNat_natCast,yHw hlt,hg,yeY,iov]
   by_cases e:a=w
   · subst e
     rw [cnF rfl,ew]
     rw [List.filter_cons_of_neg (by simp)] at h h'
     exact wo0 a hA r (i+1) n hr' (by omega) (by omega) h h'
   · rw [cnT (fun e'=>e (Int.ofNat_inj.1 e')),asT (by omega),asT (by omega),yeY,ew]
     try simp only [List.length_cons,List.length_nil,decide_true,Bool.and_self,yaj]
     rw [List.filter_cons_of_pos (by simpa using e)] at h'
     exact wo1 w hA r (i+1) n [a] hr' (by omega) (by simp only [List.length_cons,List.length_nil];omega) (by omega) h'
theorem yLI (w:Nat) {A:List Nat} (hA:A.length≤900) (K:List PV→Prop):yba (nts A) (w:Int) K=K (nts (A.filter (· != w))):=by
 refine yve _ _ _ (fun K k=>?_) K
 unfold yba yiR
 refine ⟨A.length+1,wo0 w hA A 0 _ rfl (by omega) (by omega) (fun e=>?_) ?_⟩
 · rw [e] at k;exact k
 · rw [asT (by omega),asT (by omega),take_all rfl];exact k
end Go.Pf.Vc
namespace Go.Pf.Vc
open Go Go.Pf
section
variable {l:List Ck}
def goN (l:List Ck) (A:List Nat) (lg:List Qy) (q:Rat) (ts:List Tn):Except Int (List Tn×List Qy):=if A=[] then .ok (ts,lg) else tGo l A.length A lg q ts
theorem yEf {m:Nat} {A:List Nat} {lg:List Qy} {q:Rat} {ts:List Tn} {s:TSt} (hd:DK l) (hm:A.length=m+1) (hnd:A.Nodup) (hR:ycv l q.num q.den lg A=.ok s) :
   tGo l (m+1) A lg q ts=goN l (A.filter (· != s.w)) s.lg s.p (ts++[⟨s.w,q,s.p,s.k⟩])∧(A.filter (· != s.w)).length=m:=by
 obtain ⟨hw,_⟩:=ygZ hd hR
 have e1:A.erase s.w=A.filter (· != s.w):=hnd.erase_eq_filter s.w
 have e2:(A.filter (· != s.w)).length=m:=by rw [← e1,List.length_erase_of_mem hw];omega
 refine ⟨?_,e2⟩
 unfold tGo goN
 rw [hR]
 dsimp only
 by_cases h1:A.length=1
 · have:A.filter (· != s.w)=[]:=List.eq_nil_of_length_eq_zero (by omega)
   rw [if_pos h1,if_pos this]
 · have:A.filter (· != s.w)≠[]:=fun e=>by rw [e] at e2;simp at e2;omega
   rw [if_neg h1,if_neg this,e1,e2]
theorem rgo2 (hd:DK l) {x0 x1 x2 x3 x4} (l1:List PV):∀ (m:Nat) (A:List Nat) (q:Rat) (lg:List Qy) (ts:List Tn) (n:Nat),A.length=m→A.Nodup→(∀ a∈A,a<l.length)→ts.length+A.length=l.length→yap q→m<n →
   (match goN l A lg q ts with
     | .ok (ts',lg')=>∀ q1 q2,x3 (pcs l.length ts') l1 (tns ts') (cks l) (logs lg') l.length l.length l.length [] q1 q2 false
     | .error e=>∀ ts',x4 (pcs l.length ts') l1 (tns ts') e) →
   ydD ydC ybl ycO yba x0 x1 x2 x3 x4 n (pcs l.length ts) l1 (tns ts) (cks l) (logs lg) l.length l.length l.length (nts A) q.num q.den:=by
 intro m
 induction m with
 | zero =>
   intro A q lg ts n hm hnd hA hts hq hn h
   obtain ⟨n,rfl⟩:∃ k,n=k+1:=⟨n-1,by omega⟩
   have e:A=[]:=List.eq_nil_of_length_eq_zero hm
   subst e
   unfold ydD
   rw [cbF (by simp [nts,ints])]
   unfold goN at h
   rw [if_pos rfl] at h
   exact h _ _
 | succ m ih =>
   intro A q lg ts n hm hnd hA hts hq hn h
   obtain ⟨n,rfl⟩:∃ k,n=k+1:=⟨n-1,by omega⟩
   have n6:=hd.n6
   have hne:A≠[]:=fun e=>by rw [e] at hm;cases hm
   unfold goN at h
   rw [if_neg hne,hm] at h
   unfold ydD
   simp only [lt]
   rw [ycq,cbT (by omega)]
   refine yzD hd hq.i1 hq.i2 hA (by omega) hne lg _ (fun s hR=>?_) (fun e hR=>?_)
   · obtain ⟨hw,hsp,hsl,hsk⟩:=ygZ hd hR
     have hwl:s.w<l.length:=hA _ hw
     obtain ⟨d0,hd0⟩:=yxI l.length ts hwl
     obtain ⟨e1,e2⟩:=yEf (ts:=ts) hd hm hnd hR
     rw [e1] at h
     rw [cnF rfl,asT (by omega),asT (by omega),yfc,asT (by omega),Int.toNat_natCast,Nat.zero_add,asT (by omega),hd0,yzB]
     try simp only [decide_true,yaj]
     rw [asT (by omega),yEe,asT (by rw [ymD];unfold room;omega),yLI s.w (by omega)]
     try simp only [Bool.and_self,yaj]
     have:=ih (A.filter (· != s.w)) s.p s.lg (ts++[⟨s.w,q,s.p,s.k⟩]) n e2 (hnd.filter _) (fun a ha=>hA a (List.mem_filter.1 ha).1) (by rw [List.length_append];simp only [List.length_cons,List.length_nil];omega) hsp (by omega) h
     rw [yo0,yBQ] at this
     exact this
   · have:tGo l (m+1) A lg q ts=.error e:=by unfold tGo;rw [hR]
     rw [this] at h
     rw [cnT (fun e0=>yg0 (e0 ▸ hR))]
     exact h ts
theorem yMS (hd:DK l) {x0 x1 x2 x3 x4} (l1:List PV) (m:Nat) (A:List Nat) (q:Rat) (lg:List Qy) (ts:List Tn) (n:Nat) (hm:A.length=m) (hnd:A.Nodup) (hA:∀ a∈A,a<l.length) (hts:ts.length+A.length=l.length) (hq:yap q) (hn:m<n) {pc tn:List PV} (e0:pc=pcs l.length ts) (e1:tn=tns ts)
   (h:match goN l A lg q ts with
     | .ok (ts',lg')=>∀ q1 q2,x3 (pcs l.length ts') l1 (tns ts') (cks l) (logs lg') l.length l.length l.length [] q1 q2 false
     | .error e=>∀ ts',x4 (pcs l.length ts') l1 (tns ts') e) :
   ydD ydC ybl ycO yba x0 x1 x2 x3 x4 n pc l1 tn (cks l) (logs lg) l.length l.length l.length (nts A) q.num q.den:=by
 subst e0;subst e1
 exact rgo2 hd l1 m A q lg ts n hm hnd hA hts hq hn h
theorem yLJ {x0 x1} (l0:List PV) (ld:List PV) (lg:List PV) (n5 n6 n7:Nat) (h9:l.length≤900):∀ (r i n:Nat),i+r=l.length→r<n →
   x1 l0 (nts (List.range l.length)) (cks l) ld lg n5 n6 n7 ((l.length:Nat):Int) false→yep ydC ybl ycO yba x0 x1 n l0 (nts (List.range i)) (cks l) ld lg n5 n6 n7 ((i:Nat):Int)
 | 0,i,n,hi,hn,h=>by
   obtain ⟨n,rfl⟩:∃ k,n=k+1:=⟨n-1,by omega⟩
   have e:i=l.length:=by omega
   subst e
   unfold yep
   rw [yaM,cbF (by omega)]
   exact h
 | r+1,i,n,hi,hn,h=>by
   obtain ⟨n,rfl⟩:∃ k,n=k+1:=⟨n-1,by omega⟩
   have ew:IntKind.i64.wrap ((i:Int)+1)=((i+1:Nat):Int):=by rw [wib (by omega) (by omega)];omega
   have eB:nts (List.range i)++[PV.int IntKind.i64 (i:Int)]=nts (List.range (i+1)):=by rw [List.range_succ,ymC];rfl
   have IH:=yLJ (x0:=x0) l0 ld lg n5 n6 n7 h9 r (i+1) n (by omega) (by omega) h
   unfold yep
   simp only [lt]
   rw [yaM,cbT (by omega)]
   try simp only [decide_true,yaj]
   rw [ycq,List.length_range,asT (by omega),yEe,asT (by unfold room;omega),ew,eB]
   try simp only [Bool.and_self,yaj]
   exact IH
theorem yEg (hf:finC l) (hl:l.length<4611686018427387904) (K:List PV→List PV→List PV→Int→Prop) :
   yfZ (cks l) K=match tRun l with
     | .ok (ts,lg)=>K (pcs l.length ts) (tns ts) (logs lg) 0
     | .error e=>K [] [] [] e:=by
 unfold tRun
 by_cases h0:ydW l 0=0
 case neg =>
   rw [if_neg h0]
   refine yok _ [] [] [] (ydW l 0) (fun K k=>?_) K
   unfold yfZ ymw
   rw [yD8 hf hl,if_neg h0,cnT h0]
   exact k
 rw [if_pos h0]
 obtain ⟨hd,_⟩:=yeX h0
 have n6:=hd.n6
 have n0:=hd.n0
 obtain ⟨m,hm⟩:∃ m,l.length=m+1:=⟨l.length-1,by omega⟩
 have hnd:(List.range l.length).Nodup:=List.nodup_range
 have hA:∀ a∈List.range l.length,a<l.length:=fun a ha=>List.mem_range.1 ha
 have hlr:(List.range l.length).length=l.length:=List.length_range
 have hne:List.range l.length≠[]:=fun e=>by rw [e] at hlr;simp at hlr;omega
 have s0:yap (0:Rat):=by have:=yf0 (x:=0) (by omega);simpa using this
 have main:∀ K:List PV→List PV→List PV→Int→Prop,(match tGo l l.length (List.range l.length) [] 0 [] with
     | .ok (ts,lg)=>K (pcs l.length ts) (tns ts) (logs lg) 0
     | .error e=>K [] [] [] e)→yfZ (cks l) K:=by
   intro K k
   unfold yfZ ymw
   rw [yD8 hf hl,if_pos h0,cnF rfl]
   rw [yaM,asT (by omega),asT (by omega),asT (by unfold room;omega)]
   refine ⟨l.length+3,?_⟩
   unfold yjU
   simp only [lt]
   rw [yaM,cbT (by omega)]
   try simp only [List.length_cons,List.length_nil,decide_true,Bool.and_self,yaj]
   refine yLJ (l:=l) _ _ _ _ _ _ (by omega) m 1 _ (by omega) (by omega) ?_
   show ybl 0 _
   rw [yos]
   try simp only [decide_true,Nat.beq_refl,Bool.and_self,yaj]
   refine ⟨l.length+3,?_⟩
   unfold yjV
   simp only [lt]
   rw [ycq,hlr,cbT (by omega)]
   try simp only [decide_true,yaj]
   rw [asT (by omega),take_all (by rw [ycq,hlr])]
   refine yzD hd s0.i1 s0.i2 hA (by omega) hne [] _ (fun s hR=>?_) (fun e hR=>?_)
   · obtain ⟨hw,hsp,hsl,hsk⟩:=ygZ hd hR
     have hwl:s.w<l.length:=hA _ hw
     obtain ⟨d0,hd0⟩:=yxI l.length [] hwl
     have hd0:List.getD (List.replicate l.length (PV.data [])) s.w .nils=.data d0:=hd0
     obtain ⟨e1,e2⟩:=yEf (m:=m) (ts:=[]) hd (by omega) hnd hR
     rw [← hm] at e1
     rw [e1] at k
     rw [cnF rfl,asT (by omega),asT (by omega),List.length_replicate,asT (by omega),Int.toNat_natCast,Nat.zero_add,asT (by omega),hd0,yzB]
     try simp only [decide_true,yaj]
     rw [asT (by omega),yLI s.w (by omega)]
     try simp only [List.length_cons,List.length_nil,decide_true,Bool.and_self,yaj]
     refine yMS hd _ m ((List.range l.length).filter (· != s.w)) s.p s.lg ([]++[⟨s.w,0,s.p,s.k⟩]) (l.length+2) e2 (hnd.filter _) (fun a ha=>hA a (List.mem_filter.1 ha).1) (by simp only [List.length_append,List.length_cons,List.length_nil];omega) hsp (by omega) (by rw [yo0];rfl) rfl ?_
     revert k
     cases goN l ((List.range l.length).filter (· != s.w)) s.lg s.p ([]++[⟨s.w,0,s.p,s.k⟩]) with
     | ok x =>
       obtain ⟨ts,lg⟩:=x
       intro k q1 q2
       rw [yfc,asT (by omega),asT (by omega)]
       try simp only [decide_true,yaj]
       rw [asT (by omega),take_all (yfc _ _),take_all rfl]
       exact k
     | error e=>intro k ts';exact k
   · have:tGo l l.length (List.range l.length) [] 0 []=.error e:=by
       rw [hm];unfold tGo;rw [← hm,hR]
     rw [this] at k
     rw [cnT (fun e0=>yg0 (e0 ▸ hR))]
     exact k
 cases hT:tGo l l.length (List.range l.length) [] 0 [] with
 | ok x =>
   obtain ⟨ts,lg⟩:=x
   refine yok _ (pcs l.length ts) (tns ts) (logs lg) 0 (fun K k=>main K ?_) K
   rw [hT]
   exact k
 | error e =>
   refine yok _ [] [] [] e (fun K k=>main K ?_) K
   rw [hT]
   exact k
theorem yMt {ts:List Tn} {i:Nat} (h:i<ts.length):∃ x,List.getD (tns ts) i .nils=tnE x:=by
 unfold tns
 rw [List.getD_eq_getElem?_getD,List.getElem?_map,List.getElem?_eq_getElem h]
 exact ⟨ts[i],rfl⟩
theorem yzE (ts:List Tn) (h6:ts.length≤1000) {x0 x1}:∀ (r i n:Nat),i+r=ts.length→r<n→x0 (tns ts) (tns ts) ((ts.length:Nat):Int) false→ybM x0 x1 n (tns ts) (tns ts) ((i:Nat):Int)
 | 0,i,n,hi,hn,h=>by
   obtain ⟨n,rfl⟩:∃ k,n=k+1:=⟨n-1,by omega⟩
   have e:i=ts.length:=by omega
   subst e
   unfold ybM
   rw [ymD,cbF (by omega)]
   exact h
 | r+1,i,n,hi,hn,h=>by
   obtain ⟨n,rfl⟩:∃ k,n=k+1:=⟨n-1,by omega⟩
   obtain ⟨x,hx⟩:=yMt (ts:=ts) (i:=i) (by omega)
   have ew:IntKind.i64.wrap ((i:Int)+1)=((i+1:Nat):Int):=by rw [wib (by omega) (by omega)];omega
   have ec:∀ P:Prop,asr (conf (.agg [.i .i64,.i .i64,.i .i64,.i .i64,.i .i64,.i .i64]) (tnE x)) P=P:=fun P=>rfl
   unfold ybM
   simp only [lt]
   rw [ymD,cbT (by omega),asT (by omega),asT (by omega),Int.toNat_natCast,hx,ec,asT (by omega),asT (by omega),ec,beq_self_eq_true,beq_self_eq_true,beq_self_eq_true,beq_self_eq_true,beq_self_eq_true,beq_self_eq_true]
   simp only [Bool.and_self,Bool.not_true,yaa]
   rw [ew]
   exact yzE ts h6 r (i+1) n (by omega) (by omega) h
theorem yox {ts:List Tn} (h6:ts.length≤1000) (K:Bool→Prop):ydj (tns ts) (tns ts) K=K true:=by
 refine ysx _ _ _ (fun K k=>?_) K
 unfold ydj ygT
 rw [cnF rfl]
 exact ⟨ts.length+1,yzE ts h6 ts.length 0 _ (by omega) (by omega) k⟩
def dvT (n:Nat) (ts:List Tn):List (List Sp):=ts.foldl (fun P t=>P.set t.a [⟨t.f.num,t.f.den,t.t.num,t.t.den⟩]) (List.replicate n [])
theorem yuE:∀ (ts:List Tn) (P:List (List Sp)),yfJ (ts.foldl (fun P t=>P.set t.a [⟨t.f.num,t.f.den,t.t.num,t.t.den⟩]) P)=ts.foldl (fun P t=>P.set t.a (spE t)) (yfJ P)
 | [],P=>rfl
 | t::r,P=>by
   show yfJ (r.foldl _ (P.set t.a _))=r.foldl _ ((yfJ P).set t.a (spE t))
   rw [yuE r]
   congr 1
   unfold yfJ
   rw [List.map_set]
   rfl
theorem yxM (n:Nat) (ts:List Tn):pcs n ts=yfJ (dvT n ts):=by
 unfold dvT pcs
 rw [yuE]
 congr 1
 unfold yfJ
 rw [List.map_replicate]
 rfl
theorem yzF:∀ (ts:List Tn) (P:List (List Sp)),(∀ i,i<P.length→(P.getD i []).length≤1)→∀ i,i<(ts.foldl (fun P t=>P.set t.a [⟨t.f.num,t.f.den,t.t.num,t.t.den⟩]) P).length→((ts.foldl (fun P t=>P.set t.a [⟨t.f.num,t.f.den,t.t.num,t.t.den⟩]) P).getD i []).length≤1
 | [],P,h,i,hi=>h i hi
 | t::r,P,h,i,hi=>yzF r (P.set t.a _) (fun j hj=>by
     rw [List.length_set] at hj
     rw [List.getD_eq_getElem?_getD,List.getElem?_set]
     split
     · split
       · simp
       · simp
     · rw [← List.getD_eq_getElem?_getD];exact h j hj) i hi
theorem yK5 (n:Nat) (ts:List Tn):(dvT n ts).length=n:=by
 have:=yfc n ts
 rw [yxM] at this
 unfold yfJ at this
 rwa [List.length_map] at this
theorem yHx:∀ (m:Nat) (A:List Nat) (lg:List Qy) (q:Rat) (ts ts':List Tn) (lg':List Qy),DK l→A.length=m→lg.length≤20*ts.length→ts.length+m≤6→tGo l m A lg q ts=.ok (ts',lg')→ts'.length≤ts.length+m∧lg'.length≤120
 | 0,A,lg,q,ts,ts',lg',hd,hm,h1,h2,h=>by cases h
 | m+1,A,lg,q,ts,ts',lg',hd,hm,h1,h2,h=>by
   unfold tGo at h
   cases hR:ycv l q.num q.den lg A with
   | error e=>rw [hR] at h;cases h
   | ok s =>
     rw [hR] at h
     obtain ⟨hw,hsp,hsl,hsk⟩:=ygZ hd hR
     dsimp only at h
     split at h
     · cases h
       rw [List.length_append]
       simp only [List.length_cons,List.length_nil]
       omega
     · have:=yHx m _ _ _ _ _ _ hd (by rw [List.length_erase_of_mem hw];omega) (by rw [List.length_append];simp only [List.length_cons,List.length_nil];omega) (by rw [List.length_append];simp only [List.length_cons,List.length_nil];omega) h
       rw [List.length_append] at this
       simp only [List.length_cons,List.length_nil] at this
       omega
theorem yJ5 {ts:List Tn} {lg:List Qy} (h:tRun l=.ok (ts,lg)):ts.length≤6∧lg.length≤120:=by
 unfold tRun at h
 split at h
 · rename_i h0
   obtain ⟨hd,_⟩:=yeX h0
   have n6:=hd.n6
   have:=yHx l.length _ _ _ _ _ _ hd List.length_range (by simp) (by simpa using n6) h
   simp only [List.length_nil] at this
   omega
 · cases h
end
end Go.Pf.Vc
namespace Go.Pf.Vc
open Go Go.Pf
section
variable {l:List Ck}
def bndV (n:Int):Int×Int:=if n<1∨n>6 then (0,2) else (IntKind.i64.wrap (IntKind.i64.wrap (n*n)-1),0)
theorem yzG (n:Int) (K:Int→Int→Prop):yh3 n K=K (bndV n).1 (bndV n).2:=by
 unfold yh3 yj1 bndV
 simp only [jn,lt]
 by_cases h:n<1
 · rw [cbT h,yad,if_pos (.inl h)]
 · rw [cbF h]
   by_cases h2:n>6
   · rw [cbT h2,if_pos (.inr h2)]
   · rw [cbF h2,if_neg (fun x=>x.elim h h2)]
theorem yGm (n:Int) (K:Int→Int→Prop):yn9 n K=K (bndV n).1 (bndV n).2:=yzG n K
theorem yEh (hl:l.length≤9223372036854775807) (n:Int):ygw (cks l) n (fun b=>b=true):=by
 unfold ygw yhG
 rw [yyL hl]
 cases hg:yBN l with
 | true=>rw [yad]
 | false =>
   obtain ⟨g1,g2,g3⟩:=yGh hg
   rw [yaa,yzG,yGm,yK4 g3 (by omega)]
   cases hT:tRun l with
   | error e =>
     dsimp only
     rw [yEg g3 (by omega),hT]
     dsimp only [jn]
     rw [ceT rfl,ceT rfl,yIt,yad,show ([]:List PV)=tns [] from rfl,yox (by decide),yad,show tns []=([]:List PV) from rfl,yBO,yad]
     exact beq_self_eq_true _
   | ok x =>
     obtain ⟨ts,lg⟩:=x
     obtain ⟨h1,h2⟩:=yJ5 hT
     dsimp only
     rw [yEg g3 (by omega),hT]
     dsimp only [jn]
     have hs:=yzF ts (List.replicate l.length []) (fun i hi=>by rw [List.length_replicate] at hi;simp [List.getD_eq_getElem?_getD,hi])
     have hdl:(dvT l.length ts).length=l.length:=yK5 _ _
     rw [ceT rfl,ceT rfl,yxM,yxF (l:=dvT l.length ts) (fun i hi=>Nat.lt_of_le_of_lt (hs i hi) (by decide)) (by omega),yad,yox (by omega),yad,yqh (by omega),yad]
     exact beq_self_eq_true _
end
end Go.Pf.Vc
