/- Part 5 of what the statement rests on: a verified evaluator over pure values, the conditions of the program's functions, and their plain laws. -/
import Derived.Test.YtpofkodjoakifaaKeW4
namespace Go.Pf.Vc
open Go Go.Pf
section
variable {l:List Ck}
theorem yIh (hd:DK l) {an ad:Int} (ha:I64 an) (ha':I64 ad) (bk:List Nat) {k:Nat} (hk:k≤bk.length) (hb:∀ a∈bk,a<l.length) (hk2:bk.length≤6) (pcs ord:List PV) (n3 n4 n5 c1 c2:Nat) :
   ∀ x0 x1 x2 x3,∀ (r i n:Nat) (lg:List Qy) (b:Option (Nat×Nat×Rat)),i+r=k→r<n→(i=0→b=none)→(0<i→b≠none)→bSmall b →
     ya4 ya2 yae yaq yaO yam x0 x1 x2 x3 n (nts bk) pcs ord (cks l) n3 n4 n5 (cks l) (logs lg) k bk.length c1 an ad (bJ b) (bN b) (bD b) k bk.length c2 k i =
       match rnd l an ad i ((bk.take k).drop i) lg b with
       | .ok x=>x3 (nts bk) pcs ord (cks l) n3 n4 n5 (cks l) (logs x.1) k bk.length c1 an ad (bJ x.2) (bN x.2) (bD x.2) k bk.length c2 k k false
       | .error e=>x2 (nts bk) pcs ord e:=by
 intro x0 x1 x2 x3 r
 induction r with
 | zero =>
   intro i n lg b hi hn _ _ _
   obtain ⟨n,rfl⟩:∃ m,n=m+1:=⟨n-1,by omega⟩
   obtain rfl:i=k:=by omega
   rw [ya4,cbF (by omega),List.drop_eq_nil_of_le (by rw [List.length_take];omega)]
   unfold rnd
   rfl
 | succ r ih =>
   intro i n lg b hi hn h0 h1 hs
   obtain ⟨n,rfl⟩:∃ m,n=m+1:=⟨n-1,by omega⟩
   have hil:i<bk.length:=by omega
   have ham:=hb _ (ymU hil)
   have hd2:(bk.take k).drop i=bk.getD i 0::(bk.take k).drop (i+1):=by
     rw [ye7 0 (by rw [List.length_take];omega),yjU (by omega)]
   have e1:=wib (n:=(i:Int)+1) (by omega) (by omega)
   have n6:=hd.n6
   rw [ya4,cbT (by omega),asT (by omega),asT (by omega),ynV,asT rfl,Int.toNat_natCast,Nat.zero_add,asT (by omega),asN hil,yjT hil,asT (by omega),ycn,asT (by omega),Int.toNat_natCast,yhm ham,asCk,ck0,ck1,ck2,
     yDq hd ham ha ha',hd2]
   unfold rnd
   cases hm:markE l an ad lg.length (bk.getD i 0) with
   | error e =>
     dsimp only
     rw [cnT (yuG hm)]
   | ok p =>
     dsimp only
     have hp:small p:=by unfold markE at hm;exact yrW hm
     rw [cnF rfl,e1,cast1]
     have hs2:=ytG (j:=i) (a:=bk.getD i 0) hp hs
     have IH:=fun bb h2=>ih (i+1) n (lg++[markQ l an ad (bk.getD i 0) p]) bb (by omega) (by omega) (by omega) h2
     cases b with
     | none =>
       have hi0:i=0:=by
         rcases Nat.eq_zero_or_pos i with h | h
         · exact h
         · exact absurd rfl (h1 h)
       rw [ceT (by omega),asTT (by simp)]
       exact IH (better i (bk.getD i 0) p none) (fun _=>by simp [better]) hs2
     | some x =>
       obtain ⟨kk,c,t⟩:=x
       have hi0:i≠0:=fun h=>by have:=h0 h;cases this
       rw [ceF (by omega)]
       change yam p.num p.den t.num t.den _=_
       rw [ytH hp hs]
       by_cases hlt:p<t
       · rw [cbT hlt,asTT (by simp)]
         have eb:better i (bk.getD i 0) p (some (kk,c,t))=some (i,bk.getD i 0,p):=if_pos hlt
         rw [eb] at hs2 ⊢
         exact IH _ (fun _=>by simp) hs2
       · rw [cbF hlt,asTT (by simp)]
         have eb:better i (bk.getD i 0) p (some (kk,c,t))=some (kk,c,t):=if_neg hlt
         rw [eb] at hs2 ⊢
         exact IH _ (fun _=>by simp) hs2
def bOk (rest:List Nat) (i:Nat):Option (Nat×Nat×Rat)→Prop
 | none=>i=0
 | some (j,a,p)=>j<i∧rest.getD j 0=a∧small p
theorem yFi {an ad:Int} (rest:List Nat):∀ (r i:Nat) (lg:List Qy) (b:Option (Nat×Nat×Rat)) (x:List Qy×Option (Nat×Nat×Rat)),i+r=rest.length→bOk rest i b→rnd l an ad i (rest.drop i) lg b=.ok x→bOk rest rest.length x.2
 | 0,i,lg,b,x,hi,hb,h=>by
   rw [List.drop_eq_nil_of_le (by omega)] at h
   unfold rnd at h
   cases h
   obtain rfl:i=rest.length:=by omega
   exact hb
 | r+1,i,lg,b,x,hi,hb,h=>by
   rw [ye7 0 (by omega)] at h
   unfold rnd at h
   split at h
   · cases h
   · rename_i p hm
     have hp:small p:=by unfold markE at hm;exact yrW hm
     refine yFi rest r (i+1) _ _ x (by omega) ?_ h
     cases b with
     | none=>exact ⟨by omega,rfl,hp⟩
     | some y =>
       obtain ⟨j,a,t⟩:=y
       obtain ⟨h1,h2,h3⟩:=hb
       unfold better
       dsimp only
       split
       · exact ⟨by omega,rfl,hp⟩
       · exact ⟨by omega,h2,h3⟩
theorem yBy {an ad:Int}:∀ (rest:List Nat) (i:Nat) (lg:List Qy) (b:Option (Nat×Nat×Rat)) (e:Int),rnd l an ad i rest lg b=.error e→e≠0
 | [],_,_,_,_,h=>by unfold rnd at h;cases h
 | a::r,i,lg,b,e,h=>by
   unfold rnd at h
   split at h
   · rename_i e2 hm;cases h;exact yuG hm
   · exact yBy r _ _ _ e h
end
end Go.Pf.Vc
namespace Go.Pf.Vc
open Go Go.Pf
section
variable {l:List Ck}
theorem ytI (r:List Nat) (n:Nat):List.take n (nts r)=nts (r.take n):=by unfold nts ints;rw [List.map_take,List.map_take]
theorem yDr (r:List Nat) (n:Nat):List.drop n (nts r)=nts (r.drop n):=by unfold nts ints;rw [List.map_drop,List.map_drop]
theorem ytJ (r s:List Nat):nts r++nts s=nts (r++s):=by unfold nts ints;rw [List.map_append,List.map_append]
theorem yDs (r:List Nat):headOk 1 (nts r)=true:=by cases r <;> rfl
theorem yF2 (r:List Nat):List.isEmpty (nts r)=r.isEmpty:=by cases r <;> rfl
theorem yh5 (pcs:List (List Sp)) (a:Nat) (s:List Sp):List.set (pieces pcs) a (.data (spans s))=pieces (pcs.set a s):=by unfold pieces;rw [List.map_set]
theorem asP {pcs:List (List Sp)} {i:Nat} {P:Prop} (h:i<pcs.length):asr (conf (.one (.d)) (List.getD (pieces pcs) i .nils)) P=P:=by
 have:List.getD (pieces pcs) i .nils=.data (spans (pcs.getD i [])):=by
   unfold pieces
   rw [List.getD_eq_getElem?_getD,List.getElem?_map,List.getElem?_eq_getElem h,List.getD_eq_getElem?_getD,List.getElem?_eq_getElem h]
   rfl
 rw [this];rfl
def remK (bk:List Nat) (k j:Nat):List Nat:=bk.take j++((bk.drop (j+1)).take (k-(j+1))++bk.drop (j+(k-(j+1))))
theorem yDt {bk:List Nat} {k j:Nat} (h1:j<k) (h2:k≤bk.length):(remK bk k j).length=bk.length:=by
 unfold remK
 simp only [List.length_append,List.length_take,List.length_drop]
 omega
theorem yzU {bk:List Nat} {k j:Nat} (h1:j<k) (h2:k≤bk.length):(remK bk k j).take (k-1)=(bk.take k).eraseIdx j:=by
 apply List.ext_getElem?
 intro i
 unfold remK
 rw [List.getElem?_eraseIdx]
 by_cases h:i<k-1
 · rw [List.getElem?_take_of_lt h]
   by_cases hj:i<j
   · rw [if_pos hj,List.getElem?_append_left (by rw [List.length_take];omega),List.getElem?_take_of_lt hj,List.getElem?_take_of_lt (by omega)]
   · rw [if_neg hj,List.getElem?_append_right (by rw [List.length_take];omega),List.length_take,Nat.min_eq_left (by omega),
       List.getElem?_append_left (by rw [List.length_take,List.length_drop];omega),List.getElem?_take_of_lt (by omega),List.getElem?_drop,List.getElem?_take_of_lt (by omega)]
     congr 1
     omega
 · rw [List.getElem?_eq_none (by rw [List.length_take];omega)]
   rw [if_neg (by omega),List.getElem?_eq_none (by rw [List.length_take];omega)]
theorem yzV {bk:List Nat} {k j:Nat} (h1:j+1=k) (h2:k≤bk.length):bk.take (k-1)=(bk.take k).eraseIdx j:=by
 apply List.ext_getElem?
 intro i
 rw [List.getElem?_eraseIdx]
 by_cases h:i<k-1
 · rw [List.getElem?_take_of_lt h,if_pos (by omega),List.getElem?_take_of_lt (by omega)]
 · rw [List.getElem?_eq_none (by rw [List.length_take];omega),if_neg (by omega),List.getElem?_eq_none (by rw [List.length_take];omega)]
theorem yDu {bk:List Nat} {k j:Nat} {a:Nat} (h:a∈remK bk k j):a∈bk:=by
 unfold remK at h
 rcases List.mem_append.1 h with h | h
 · exact List.mem_of_mem_take h
 · rcases List.mem_append.1 h with h | h
   · exact List.mem_of_mem_drop (List.mem_of_mem_take h)
   · exact List.mem_of_mem_drop h
def knf (l:List Ck):Nat→List Nat→Int→Int→List (List Sp)→List Nat→List Qy→Except Int (List (List Sp)×List Nat×List Qy)
 | 0,rest,an,ad,pcs,ord,lg=>.ok (pcs.set (rest.getD 0 0) [⟨an,ad,(l.getD 0 default).len,1⟩],ord++[rest.getD 0 0],lg)
 | r+1,rest,an,ad,pcs,ord,lg=>match rnd l an ad 0 rest lg none with
   | .error e=>.error e
   | .ok (lg',some (j,a,p))=>knf l r (rest.eraseIdx j) p.num p.den (pcs.set a [⟨an,ad,p.num,p.den⟩]) (ord++[a]) lg'
   | .ok (_,none)=>.error 0
end
end Go.Pf.Vc
namespace Go.Pf.Vc
open Go Go.Pf
section
variable {l:List Ck}
theorem asO {c:Prop} [Decidable c] {d:Bool} {P:Prop} (h:c):asr (decide c||d) P=P:=by rw [decide_eq_true h];rfl
theorem asNF {c:Prop} [Decidable c] {P:Prop} (h:¬c):asr (!decide c) P=P:=by rw [decide_eq_false h];rfl
abbrev KR:=Except Int (List (List Sp)×List Nat×List Qy)
theorem ytK (hd:DK l) (R:KR→Prop) {y0:List PV→List PV→Int→Prop} {y1:List PV→List PV→List PV→Int→Prop} {y2:List PV→List PV→List PV→List PV→Nat→Nat→Nat→List PV→List PV→Nat→Nat→Nat→Int→Int→Bool→Prop}
   {y3:List PV→List PV→List PV→Nat→Nat→Nat→List PV→List PV→Nat→Nat→Nat→Int→Int→Bool→Prop}
   (h1:∀ a b c e,e≠0→R (.error e)→y1 a b c e)
   (h2:∀ (bk:List Nat) (an ad:Int) (pcs:List (List Sp)) (ord:List Nat) (lg:List Qy),bk.length=l.length→(∀ a∈bk,a<l.length)→pcs.length=l.length→ord.length+1=l.length→R (knf l 0 (bk.take 1) an ad pcs ord lg) →
     y2 (nts bk) (pieces pcs) (nts ord) (cks l) l.length l.length l.length (cks l) (logs lg) 1 bk.length bk.length an ad false) :
   ∀ (r n:Nat) (bk:List Nat) (an ad:Int) (pcs:List (List Sp)) (ord:List Nat) (lg:List Qy),r<n→r+1≤bk.length→bk.length=l.length→(∀ a∈bk,a<l.length)→I64 an→I64 ad→pcs.length=l.length→ord.length+(r+1)=l.length→ord≠[] →
     R (knf l r (bk.take (r+1)) an ad pcs ord lg) →
     yaD ya2 yae yaq yaO yam y0 y1 y2 y3 n (nts bk) (pieces pcs) (nts ord) (cks l) l.length l.length l.length (cks l) (logs lg) (r+1) bk.length bk.length an ad
 | 0,n+1,bk,an,ad,pcs,ord,lg,hn,hk,hbl,hb,ha,ha',hp,ho,hne,h=>by
   rw [yaD,cbF (by omega)]
   exact h2 bk an ad pcs ord lg hbl hb hp ho h
 | r+1,n+1,bk,an,ad,pcs,ord,lg,hn,hk,hbl,hb,ha,ha',hp,ho,hne,h=>by
   have n6:=hd.n6
   rw [yaD,cbT (by omega),asTT (by simp)]
   refine ⟨r+2+1,?_⟩
   refine (yIh hd ha ha' bk (k:=r+2) (by omega) hb (by omega) (pieces pcs) (nts ord) l.length l.length l.length bk.length bk.length _ _ _ _ (r+2) 0 (r+2+1) lg none (by omega) (by omega) (fun _=>rfl) (fun h=>absurd h (by omega)) trivial).mpr ?_
   rw [List.drop_zero]
   unfold knf at h
   cases hr:rnd l an ad 0 (bk.take (r+2)) lg none with
   | error e=>rw [hr] at h;exact h1 _ _ _ _ (yBy _ _ _ _ _ hr) h
   | ok x =>
     obtain ⟨lg',b⟩:=x
     have hlen:(bk.take (r+2)).length=r+2:=by rw [List.length_take];omega
     have hbo:=yFi (bk.take (r+2)) (r+2) 0 lg none (lg',b) (by omega) rfl (by rw [List.drop_zero];exact hr)
     rw [hr] at h
     cases b with
     | none=>have:(bk.take (r+2)).length=0:=hbo;omega
     | some y =>
       obtain ⟨j,a,p⟩:=y
       obtain ⟨hj,haj,hps⟩:=hbo
       rw [hlen] at hj
       rw [yjU hj] at haj
       dsimp only at h ⊢
       have hjl:j<bk.length:=by omega
       have ham:a<l.length:=by rw [← haj];exact hb _ (ymU hjl)
       have e1:=wib (n:=(j:Int)+1) (by omega) (by omega)
       have hl':∀ (P:Prop),asr (decide True) P=P:=fun _=>rfl
       have hl2:∀ (P:Prop),asr (decide True&&decide True) P=P:=fun _=>rfl
       have no1:([.int .i64 (a:Int)]:List PV)=nts [a]:=rfl
       have hkj:(((r+2:Nat):Int)-((j:Int)+1)).toNat=r+2-(j+1):=by omega
       rw [show bJ (some (j,a,p))=(j:Int) from rfl,show bN (some (j,a,p))=p.num from rfl,show bD (some (j,a,p))=p.den from rfl]
       simp only [ynV,yfE,Int.toNat_natCast,Nat.zero_add,Int.sub_zero,Nat.sub_zero,e1,toNat1,yjT hjl,haj,hl',hl2,hkj,ytI,yDr,ytJ,no1,yDs,yF2,yaw]
       rw [asN hjl,asP (by omega)]
       simp (discharger:=omega) only [asT,asO,asNF]
       unfold room
       simp (discharger:=omega) only [asT]
       have hl3:(List.take (r+2-(j+1)) (List.drop (j+1) bk)).length=r+2-(j+1):=by rw [List.length_take,List.length_drop];omega
       by_cases hj2:j+1=r+2
       · have e0:(List.take (r+2-(j+1)) (List.drop (j+1) bk)).isEmpty=true:=by rw [show r+2-(j+1)=0 by omega];rfl
         rw [e0,yac]
         have IH:=ytK (y0:=y0) (y3:=y3) hd R h1 h2 r n bk p.num p.den (pcs.set a [⟨an,ad,p.num,p.den⟩]) (ord++[a]) lg' (by omega) (by omega) hbl hb hps.i1 hps.i2 (by rw [List.length_set];exact hp) (by simp;omega) (by simp)
           (by rw [show bk.take (r+1)=_ from yzV (k:=r+2) hj2 (by omega)];exact h)
         rw [← yh5] at IH
         obtain rfl:j=r+1:=by omega
         exact IH
       · have e0:(List.take (r+2-(j+1)) (List.drop (j+1) bk)).isEmpty=false:=by
           cases hx:List.take (r+2-(j+1)) (List.drop (j+1) bk) with
           | nil=>rw [hx] at hl3;simp at hl3;omega
           | cons _ _=>rfl
         have e2:j+(r+2-(j+1))=r+1:=by omega
         rw [e0,yaa,hl3]
         have hrl:=yDt (bk:=bk) (k:=r+2) hj (by omega)
         have IH:=ytK (y0:=y0) (y3:=y3) hd R h1 h2 r n (remK bk (r+2) j) p.num p.den (pcs.set a [⟨an,ad,p.num,p.den⟩]) (ord++[a]) lg' (by omega) (by omega) (by omega) (fun x hx=>hb x (yDu hx)) hps.i1 hps.i2 (by rw [List.length_set];exact hp) (by simp;omega) (by simp)
           (by rw [show (remK bk (r+2) j).take (r+1)=_ from yzU (k:=r+2) hj (by omega)];exact h)
         rw [← yh5,hrl] at IH
         unfold remK at IH
         rw [e2] at IH ⊢
         rw [asT (by omega)]
         exact IH
end
end Go.Pf.Vc
namespace Go.Pf.Vc
open Go Go.Pf
section
variable {l:List Ck}
theorem yIi (hd:DK l) (R:KR→Prop) {y0:List PV→List PV→Int→Prop} {y1:List PV→List PV→List PV→Int→Prop} {y2:List PV→List PV→List PV→List PV→Nat→Nat→Nat→List PV→List PV→Nat→Nat→Nat→Int→Int→Bool→Prop}
   {y3:List PV→List PV→List PV→Nat→Nat→Nat→List PV→List PV→Nat→Nat→Nat→Int→Int→Bool→Prop}
   (h0:∀ a b e,e≠0→R (.error e)→y0 a b e)
   (h1:∀ a b c e,e≠0→R (.error e)→y1 a b c e)
   (h2:∀ (bk:List Nat) (an ad:Int) (pcs:List (List Sp)) (ord:List Nat) (lg:List Qy),bk.length=l.length→(∀ a∈bk,a<l.length)→pcs.length=l.length→ord.length+1=l.length→R (knf l 0 (bk.take 1) an ad pcs ord lg) →
     y2 (nts bk) (pieces pcs) (nts ord) (cks l) l.length l.length l.length (cks l) (logs lg) 1 bk.length bk.length an ad false)
   (r n:Nat) (bk:List Nat) (an ad:Int) (pcs:List (List Sp)) (lg:List Qy) (hn:r+1<n+1) (hk:r+1+1≤bk.length) (hbl:bk.length=l.length) (hb:∀ a∈bk,a<l.length) (ha:I64 an) (ha':I64 ad) (hp:pcs.length=l.length) (ho:r+1+1=l.length)
   (h:R (knf l (r+1) (bk.take (r+1+1)) an ad pcs [] lg)) :
   ybu ya2 yae yaq yaO yam y0 y1 y2 y3 (n+1) (nts bk) (pieces pcs) (cks l) l.length l.length l.length (cks l) (logs lg) (r+1+1) bk.length bk.length an ad:=by
 have n6:=hd.n6
 rw [ybu,cbT (by omega)]
 refine ⟨r+2+1,?_⟩
 refine (yIg hd ha ha' bk (k:=r+2) (by omega) hb (by omega) (pieces pcs) l.length l.length l.length bk.length bk.length _ _ _ _ (r+2) 0 (r+2+1) lg none (by omega) (by omega) (fun _=>rfl) (fun h=>absurd h (by omega)) trivial).mpr ?_
 rw [List.drop_zero]
 unfold knf at h
 cases hr:rnd l an ad 0 (bk.take (r+2)) lg none with
 | error e=>rw [hr] at h;exact h0 _ _ _ (yBy _ _ _ _ _ hr) h
 | ok x =>
   obtain ⟨lg',b⟩:=x
   have hlen:(bk.take (r+2)).length=r+2:=by rw [List.length_take];omega
   have hbo:=yFi (bk.take (r+2)) (r+2) 0 lg none (lg',b) (by omega) rfl (by rw [List.drop_zero];exact hr)
   rw [hr] at h
   cases b with
   | none=>have:(bk.take (r+2)).length=0:=hbo;omega
   | some y =>
     obtain ⟨j,a,p⟩:=y
     obtain ⟨hj,haj,hps⟩:=hbo
     rw [hlen] at hj
     rw [yjU hj] at haj
     dsimp only at h ⊢
     have hjl:j<bk.length:=by omega
     have ham:a<l.length:=by rw [← haj];exact hb _ (ymU hjl)
     have e1:=wib (n:=(j:Int)+1) (by omega) (by omega)
     have hl':∀ (P:Prop),asr (decide True) P=P:=fun _=>rfl
     have hl2:∀ (P:Prop),asr (decide True&&decide True) P=P:=fun _=>rfl
     have no1:([.int .i64 (a:Int)]:List PV)=nts [a]:=rfl
     have hkj:(((r+2:Nat):Int)-((j:Int)+1)).toNat=r+2-(j+1):=by omega
     rw [show bJ (some (j,a,p))=(j:Int) from rfl,show bN (some (j,a,p))=p.num from rfl,show bD (some (j,a,p))=p.den from rfl]
     simp only [ynV,yfE,Int.toNat_natCast,Nat.zero_add,Int.sub_zero,Nat.sub_zero,e1,toNat1,yjT hjl,haj,hl',hkj,ytI,yDr,ytJ,no1,yDs,yF2,yaw]
     rw [asN hjl,asP (by omega)]
     simp (discharger:=omega) only [asT,asO]
     have hl3:(List.take (r+2-(j+1)) (List.drop (j+1) bk)).length=r+2-(j+1):=by rw [List.length_take,List.length_drop];omega
     by_cases hj2:j+1=r+2
     · have e0:(List.take (r+2-(j+1)) (List.drop (j+1) bk)).isEmpty=true:=by rw [show r+2-(j+1)=0 by omega];rfl
       rw [e0,yac]
       have IH:=ytK (y0:=y0) (y3:=y3) hd R h1 h2 r n bk p.num p.den (pcs.set a [⟨an,ad,p.num,p.den⟩]) [a] lg' (by omega) (by omega) hbl hb hps.i1 hps.i2 (by rw [List.length_set];exact hp) (by simp;omega) (by simp)
         (by rw [show bk.take (r+1)=_ from yzV (k:=r+2) hj2 (by omega)];exact h)
       rw [← yh5] at IH
       obtain rfl:j=r+1:=by omega
       exact IH
     · have e0:(List.take (r+2-(j+1)) (List.drop (j+1) bk)).isEmpty=false:=by
         cases hx:List.take (r+2-(j+1)) (List.drop (j+1) bk) with
         | nil=>rw [hx] at hl3;simp at hl3;omega
         | cons _ _=>rfl
       have e2:j+(r+2-(j+1))=r+1:=by omega
       rw [e0,yaa,hl3]
       have hrl:=yDt (bk:=bk) (k:=r+2) hj (by omega)
       have IH:=ytK (y0:=y0) (y3:=y3) hd R h1 h2 r n (remK bk (r+2) j) p.num p.den (pcs.set a [⟨an,ad,p.num,p.den⟩]) [a] lg' (by omega) (by omega) (by omega) (fun x hx=>hb x (yDu hx)) hps.i1 hps.i2 (by rw [List.length_set];exact hp) (by simp;omega) (by simp)
         (by rw [show (remK bk (r+2) j).take (r+1)=_ from yzU (k:=r+2) hj (by omega)];exact h)
       rw [← yh5,hrl] at IH
       unfold remK at IH
       rw [e2] at IH ⊢
       rw [asT (by omega)]
       exact IH
theorem K10' (hd:DK l) (R:KR→Prop) {y0:List PV→List PV→Int→Prop} {y1:List PV→List PV→List PV→Int→Prop} {y2:List PV→List PV→List PV→List PV→Nat→Nat→Nat→List PV→List PV→Nat→Nat→Nat→Int→Int→Bool→Prop}
   {y3:List PV→List PV→List PV→Nat→Nat→Nat→List PV→List PV→Nat→Nat→Nat→Int→Int→Bool→Prop}
   (h0:∀ a b e,e≠0→R (.error e)→y0 a b e)
   (h1:∀ a b c e,e≠0→R (.error e)→y1 a b c e)
   (h2:∀ (bk:List Nat) (an ad:Int) (pcs:List (List Sp)) (ord:List Nat) (lg:List Qy),bk.length=l.length→(∀ a∈bk,a<l.length)→pcs.length=l.length→ord.length+1=l.length→R (knf l 0 (bk.take 1) an ad pcs ord lg) →
     y2 (nts bk) (pieces pcs) (nts ord) (cks l) l.length l.length l.length (cks l) (logs lg) 1 bk.length bk.length an ad false)
   (r n:Nat) (bk:List Nat) (an ad:Int) (pcs:List (List Sp)) (lg:List Qy) (hn:r+1<n+1) (hk:r+1+1≤bk.length) (hbl:bk.length=l.length) (hb:∀ a∈bk,a<l.length) (ha:I64 an) (ha':I64 ad) (hp:pcs.length=l.length) (ho:r+1+1=l.length)
   (h:R (knf l (r+1) (bk.take (r+1+1)) an ad pcs [] lg)) (k e:Nat) (hk3:k=r+1+1) (he:e=bk.length) :
   ybu ya2 yae yaq yaO yam y0 y1 y2 y3 (n+1) (nts bk) (pieces pcs) (cks l) l.length l.length l.length (cks l) (logs lg) k e e an ad:=by
 subst hk3;subst he
 exact yIi hd R h0 h1 h2 r n bk an ad pcs lg hn hk hbl hb ha ha' hp ho h
theorem yIj (l1 l2 l3:List PV) {len:Nat} (hl:len≤1000):∀ x,∀ (r i n:Nat),i+r=len→r<n →
   ybt ya2 yae yaq yaO yam x n (nts (List.range i)++List.replicate r (.int .i64 0)) l1 l2 l3 i len len len i=x (nts (List.range len)) l1 l2 l3 len len len len len false:=by
 intro x r
 induction r with
 | zero =>
   intro i n hi hn
   obtain ⟨n,rfl⟩:∃ m,n=m+1:=⟨n-1,by omega⟩
   obtain rfl:i=len:=by omega
   rw [ybt,cbF (by omega),List.replicate_zero,List.append_nil]
 | succ r ih =>
   intro i n hi hn
   obtain ⟨n,rfl⟩:∃ m,n=m+1:=⟨n-1,by omega⟩
   have e1:=wib (n:=(i:Int)+1) (by omega) (by omega)
   have hln:(nts (List.range i)).length=i:=by rw [ynV,List.length_range]
   have et:List.take i (nts (List.range i)++List.replicate (r+1) (PV.int .i64 0))=nts (List.range i):=by
     rw [List.take_append_of_le_length (by omega),List.take_of_length_le (by omega)]
   have ed:List.drop (i+1) (nts (List.range i)++List.replicate (r+1) (PV.int .i64 0))=List.replicate r (.int .i64 0):=by
     rw [List.drop_append,hln,List.drop_eq_nil_of_le (by omega),List.nil_append,List.drop_replicate]
     congr 1
     omega
   have ea:nts (List.range i)++([.int .i64 (i:Int)]++List.replicate r (.int .i64 0))=nts (List.range (i+1))++List.replicate r (.int .i64 0):=by
     rw [List.range_succ,← ytJ,List.append_assoc];rfl
   rw [ybt,cbT (by omega),Nat.zero_add,asT (by rw [List.length_append,hln,List.length_replicate];omega),asT (by omega),asT (by omega),et,ed,ea,e1,cast1]
   exact ih (i+1) n (by omega) (by omega)
def kE (l:List Ck):KR:=if deskE l 0=0 then knf l (l.length-1) (List.range l.length) 0 1 (List.replicate l.length []) [] [] else .error (deskE l 0)
def ansK (e:KR) (K:List PV→List PV→List PV→Int→Prop):Prop :=
 match e with
 | .ok (p,o,lg)=>K (pieces p) (nts o) (logs lg) 0
 | .error e=>K [] [] [] e
theorem yIk {w:(List PV→List PV→List PV→Int→Prop)→Prop} {e:KR} (det:∀ r0 r1 r2 r3,(∀ K:List PV→List PV→List PV→Int→Prop,K r0 r1 r2 r3→w K)→∀ K,w K=K r0 r1 r2 r3)
   (h:∀ K,ansK e K→w K) (K):w K=ansK e K:=by
 cases e with
 | ok x=>exact det _ _ _ _ h K
 | error c=>exact det _ _ _ _ h K
theorem kwhole (n:Int) (K:Int→Int→Prop):yae n K=K n 1:=rfl
theorem yFj (n:Nat):List.replicate n (.data []:PV)=pieces (List.replicate n []):=by unfold pieces;rw [List.map_replicate];rfl
theorem yG4 (hf:finC l) (hl:l.length<4611686018427387904) (K:List PV→List PV→List PV→Int→Prop):ydO (cks l) K=ansK (kE l) K:=by
 refine yIk (fun r0 r1 r2 r3 h K=>yvR _ r0 r1 r2 r3 h K) (fun K k=>?_) K
 unfold ydO ykE
 unfold kE at k
 rw [yH9 hf hl]
 by_cases h:deskE l 0=0
 case neg=>rw [if_neg h] at k ⊢;rw [cnT h];exact k
 have hd:=(ynU h).1
 have n6:=hd.n6;have n0:=hd.n0
 rw [if_pos h] at k ⊢
 rw [cnF rfl,ycn,asT (by omega),asT (by unfold room;omega)]
 refine ⟨l.length+1,?_⟩
 refine (yIj (cks l) (cks l) [] (len:=l.length) (by omega) _ l.length 0 (l.length+1) (by omega) (by omega)).mpr ?_
 rw [ycn,asT (by omega),asT (by omega),asT (by unfold room;omega),kwhole]
 rw [yFj]
 have hrl:(List.range l.length).length=l.length:=List.length_range ..
 have hrm:∀ a∈List.range l.length,a<l.length:=fun a ha=>List.mem_range.1 ha
 obtain ⟨m,hm⟩:∃ m,l.length=m+1:=⟨l.length-1,by omega⟩
 have k2:ansK (knf l m ((List.range l.length).take (m+1)) 0 1 (List.replicate l.length []) [] []) K:=by
   rw [List.take_of_length_le (by omega)]
   rw [show l.length-1=m by omega] at k
   exact k
 cases m with
 | zero =>
   refine ⟨1,?_⟩
   rw [ybu,cbF (by omega)]
   have h0l:0<(List.range l.length).length:=by omega
   have ham:=hrm _ (ymU h0l)
   have no1:([.int .i64 (((List.range l.length).getD 0 0:Nat):Int)]:List PV)=nts [(List.range l.length).getD 0 0]:=rfl
   have hs1:∀ z:Int,([.agg [.int .i64 0,.int .i64 1,.int .i64 z,.int .i64 1]]:List PV)=spans [⟨0,1,z,1⟩]:=fun z=>rfl
   have hpl:(List.replicate l.length ([]:List Sp)).length=l.length:=by rw [List.length_replicate]
   unfold knf ansK at k2
   dsimp only at k2
   rw [yjU (by omega),List.nil_append] at k2
   simp only [ynV,yfE,ycn,yjT h0l,kwhole,yhm (l:=l) (i:=0) (by omega),asCk,ck0,Int.toNat_natCast,Nat.zero_add,List.length_set,asN h0l,no1,hs1,yh5,hrl]
   rw [asP (by omega)]
   simp (discharger:=omega) only [asT]
   rw [List.take_of_length_le (by rw [yfE,List.length_set];omega)]
   exact k2
 | succ r =>
   refine ⟨r+2+1,?_⟩
   refine K10' hd (fun e=>ansK e K) (fun _ _ e _ h=>h) (fun _ _ _ e _ h=>h) ?_ r (r+2) (List.range l.length) 0 1 (List.replicate l.length []) [] (by omega) (by omega) hrl hrm ⟨by decide,by decide⟩ ⟨by decide,by decide⟩ (by rw [List.length_replicate]) (by omega) k2 l.length l.length (by omega) hrl.symm
   intro bk an ad pcs ord lg hbl hb hp ho hk
   have h0l:0<bk.length:=by omega
   have ham:=hb _ (ymU h0l)
   have no1:([.int .i64 ((bk.getD 0 0:Nat):Int)]:List PV)=nts [bk.getD 0 0]:=rfl
   have hs1:∀ z:Int,([.agg [.int .i64 an,.int .i64 ad,.int .i64 z,.int .i64 1]]:List PV)=spans [⟨an,ad,z,1⟩]:=fun z=>rfl
   unfold knf ansK at hk
   dsimp only at hk
   rw [yjU (by omega)] at hk
   simp only [ynV,yfE,ycn,yjT h0l,kwhole,yhm (l:=l) (i:=0) (by omega),asCk,ck0,Int.toNat_natCast,Nat.zero_add,List.length_set,asN h0l,no1,ytJ,hs1,yh5,ytI]
   rw [asP (by omega)]
   unfold room
   simp (discharger:=omega) only [asT,asNF]
   rw [List.take_of_length_le (by rw [yfE,List.length_set];omega),List.take_of_length_le (by omega)]
   exact hk
end
end Go.Pf.Vc
namespace Go.Pf.Vc
open Go Go.Pf
section
variable {l:List Ck}
def left:Nat→List Bool→List Nat
 | _,[]=>[]
 | i,b::r=>if b then left (i+1) r else i::left (i+1) r
end
end Go.Pf.Vc
namespace Go.Pf.Vc
abbrev RS:Type:=Rat×Rat
end Go.Pf.Vc
namespace Go.Pf.Vc
def maxR (a b:Rat):Rat:=if a<b then b else a
end Go.Pf.Vc
namespace Go.Pf.Vc
def jn (f:Rat→Bool):List Rat→Option RS→List RS
 | x::y::r,none=>if f x then jn f (y::r) (some (x,y)) else jn f (y::r) none
 | x::y::r,some c=>if f x then (if c.2=x then jn f (y::r) (some (c.1,y)) else c::jn f (y::r) (some (x,y))) else jn f (y::r) (some c)
 | _,none=>[]
 | _,some c=>[c]
end Go.Pf.Vc
namespace Go.Pf.Vc
def minR (a b:Rat):Rat:=if a<b then a else b
theorem yc4 (a b:Rat):a≤maxR a b∧b≤maxR a b∧(maxR a b=a∨maxR a b=b):=by unfold maxR;split <;> grind
theorem ydK (a b:Rat):minR a b≤a∧minR a b≤b∧(minR a b=a∨minR a b=b):=by unfold minR;split <;> grind
end Go.Pf.Vc
namespace Go.Pf.Vc
open Go Go.Pf
def outW (w:(Int→Int→Int→Prop)→Prop) (t:Rat):Prop:=(∃ c,c≠0∧∀ K,w K=K 0 0 c)∨(small t∧∀ K,w K=K t.num t.den 0)
theorem outW.const {w:(Int→Int→Int→Prop)→Prop} {t:Rat} (h:outW w t) (P:Prop):w (fun _ _ _=>P)=P:=by
 rcases h with ⟨c,_,q⟩ | ⟨_,q⟩ <;> rw [q]
end Go.Pf.Vc
namespace Go.Pf.Vc
open Go Go.Pf
section
variable {len:Int} {cuts dens:List Int}
def uC (cuts:List Int) (i:Nat) (x:Rat):Rat:=minR (maxR x (cuts.getD i 0:Int)) (cuts.getD (i+1) 0:Int)
def vu (cuts dens:List Int) (x:Rat):Nat→Nat→Rat
 | 0,_=>0
 | r+1,i=>(dens.getD i 0:Int)*uC cuts i x+vu cuts dens x r (i+1)
theorem yuH (h:VC len cuts dens):∀ (r i:Nat) {x y:Rat},i+r=dens.length→x≤(cuts.getD i 0:Int)→y≤(cuts.getD i 0:Int)→vu cuts dens x r i=vu cuts dens y r i
 | 0,_,_,_,_,_,_=>rfl
 | r+1,i,x,y,hi,hx,hy=>by
   have l1:=h.l1
   have hst:((cuts.getD i 0:Int):Rat)<((cuts.getD (i+1) 0:Int):Rat):=Rat.intCast_lt_intCast.2 (h.step (i:=i) (by omega))
   have ih:=yuH h r (i+1) (x:=x) (y:=y) (by omega) (by grind) (by grind)
   unfold vu
   rw [ih]
   have e:uC cuts i x=uC cuts i y:=by
     unfold uC
     have a1:=yc4 x (cuts.getD i 0:Int)
     have a2:=yc4 y (cuts.getD i 0:Int)
     have e1:maxR x (cuts.getD i 0:Int)=(cuts.getD i 0:Int):=by grind
     have e2:maxR y (cuts.getD i 0:Int)=(cuts.getD i 0:Int):=by grind
     rw [e1,e2]
   rw [e]
theorem ylz {α:Type} {q:Rat} {k:Rat→Except Int α} {v:α} (h:fit q k=.ok v):k q=.ok v:=by
 unfold fit at h
 split at h
 · exact h
 · cases h
theorem yv9 (h:VC len cuts dens) {b:Rat}:∀ (r i:Nat) (p sum v:Rat),i+r=dens.length→p≤b→(p=b∨((cuts.getD i 0:Int):Rat)≤p)→valS cuts dens b r i p sum=.ok v→v=sum+(vu cuts dens b r i-vu cuts dens p r i)
 | 0,i,p,sum,v,hi,hp,hc,hv=>by
   unfold valS at hv
   cases hv
   unfold vu
   grind
 | r+1,i,p,sum,v,hi,hp,hc,hv=>by
   have l1:=h.l1
   have hst:((cuts.getD i 0:Int):Rat)<((cuts.getD (i+1) 0:Int):Rat):=Rat.intCast_lt_intCast.2 (h.step (i:=i) (by omega))
   unfold valS at hv
   dsimp only at hv
   have hen:∃ en:Rat,(if b<((cuts.getD (i+1) 0:Int):Rat) then b else ((cuts.getD (i+1) 0:Int):Rat))=en∧en≤b∧en≤((cuts.getD (i+1) 0:Int):Rat)∧(en=b∨en=((cuts.getD (i+1) 0:Int):Rat)):=by
     refine ⟨_,rfl,?_⟩
     split <;> grind
   obtain ⟨en,e0,he1,he2,he3⟩:=hen
   rw [e0] at hv
   have low:=yuH h r (i+1) (x:=en) (y:=p) (by omega)
   have m1:=yc4 b (cuts.getD i 0:Int)
   have m2:=yc4 p (cuts.getD i 0:Int)
   have n1:=ydK (maxR b (cuts.getD i 0:Int)) (cuts.getD (i+1) 0:Int)
   have n2:=ydK (maxR p (cuts.getD i 0:Int)) (cuts.getD (i+1) 0:Int)
   unfold vu uC
   generalize ((cuts.getD i 0:Int):Rat)=c0 at *
   generalize hc1:((cuts.getD (i+1) 0:Int):Rat)=c1 at *
   by_cases hlt:p<en
   · have hb:minR (maxR b c0) c1=en:=by grind
     have hq:minR (maxR p c0) c1=p:=by grind
     by_cases hd:dens.getD i 0=0
     · rw [if_pos (.inl hd),if_pos hlt] at hv
       have ih:=yv9 h r (i+1) en sum v (by omega) he1 (by rw [hc1];grind) hv
       rw [ih,hd,low (by grind) (by grind)]
       grind
     · rw [if_neg (by intro k;rcases k with k | k;exact hd k;exact k hlt)] at hv
       have hv:=ylz (ylz (ylz hv))
       have ih:=yv9 h r (i+1) en _ v (by omega) he1 (by rw [hc1];grind) hv
       rw [ih,low (by grind) (by grind),hb,hq]
       grind
   · rw [if_pos (.inr hlt),if_neg hlt] at hv
     have ih:=yv9 h r (i+1) p sum v (by omega) hp (by rw [hc1];grind) hv
     have:minR (maxR b c0) c1=minR (maxR p c0) c1:=by grind
     rw [ih,this]
     grind
end
end Go.Pf.Vc
namespace Go.Pf.Vc
open Go Go.Pf
section
variable {len:Int} {cuts dens:List Int}
def vX (cuts dens:List Int) (x:Rat):Rat:=vu cuts dens x dens.length 0
theorem yF3 (h:VC len cuts dens) {a b v:Rat} (h0:0≤a) (hab:a≤b) (hv:valC cuts dens a b=.ok v):v=vX cuts dens b-vX cuts dens a:=by
 have c0:cuts.getD 0 0=0:=h.2.2.2.2.2.1
 have:=yv9 h dens.length 0 a 0 v (by omega) hab (.inr (by rw [c0];exact h0)) hv
 unfold vX
 rw [this];grind
theorem yx2 (cuts dens:List Int) (b:Rat):∀ (r i:Nat) (p sum v:Rat),small sum→valS cuts dens b r i p sum=.ok v→small v:=by
 intro r
 induction r with
 | zero=>intro i p sum v hs e;unfold valS at e;cases e;exact hs
 | succ r ih =>
   intro i p sum v hs e
   unfold valS fit at e
   repeat' (first | split at e | dsimp only at e)
   all_goals first | exact ih _ _ _ _ hs e | (rename_i h;exact ih _ _ _ _ h e) | cases e
end
end Go.Pf.Vc
namespace Go.Pf.Vc
open Go Go.Pf
section
variable {len:Int} {cuts dens:List Int}
theorem yF4 (h:VC len cuts dens) {i:Nat} (hi:i+1<cuts.length) {x y:Rat} (hxy:x≤y):uC cuts i x≤uC cuts i y:=by
 have hst:((cuts.getD i 0:Int):Rat)<((cuts.getD (i+1) 0:Int):Rat):=Rat.intCast_lt_intCast.2 (h.step (i:=i) hi)
 have m1:=yc4 x (cuts.getD i 0:Int)
 have m2:=yc4 y (cuts.getD i 0:Int)
 have n1:=ydK (maxR x (cuts.getD i 0:Int)) (cuts.getD (i+1) 0:Int)
 have n2:=ydK (maxR y (cuts.getD i 0:Int)) (cuts.getD (i+1) 0:Int)
 unfold uC
 grind
theorem yIl (h:VC len cuts dens) {i:Nat} (hi:i<dens.length):(0:Rat)≤((dens.getD i 0:Int):Rat):=Rat.intCast_nonneg.2 (h.den hi).1
theorem yBz (h:VC len cuts dens) {x y:Rat} (hxy:x≤y):∀ (r i:Nat),i+r=dens.length→vu cuts dens x r i≤vu cuts dens y r i
 | 0,_,_=>Rat.le_refl
 | r+1,i,hi=>by
   have l1:=h.l1
   have h1:=yF4 h (i:=i) (by omega) hxy
   have h2:=yBz h hxy r (i+1) (by omega)
   have h3:=Rat.mul_le_mul_of_nonneg_left h1 (yIl h (i:=i) (by omega))
   unfold vu
   grind
theorem yeG (h:VC len cuts dens) {x y:Rat} (hxy:x≤y):vX cuts dens x≤vX cuts dens y:=yBz h hxy dens.length 0 (by omega)
theorem ywa (h:VC len cuts dens):∀ (r i:Nat) (p v q:Rat),i+r=dens.length→0<v→((cuts.getD i 0:Int):Rat)≤p→mrkS cuts dens r i p v=.ok q →
   vu cuts dens q r i-vu cuts dens p r i=v∧p<q∧q≤((cuts.getD dens.length 0:Int):Rat)∧∀ x,x<q→vu cuts dens x r i<vu cuts dens q r i
 | 0,_,_,_,_,_,_,_,e=>by cases e
 | r+1,i,p,v,q,hi,hv,hp,e=>by
   have l1:=h.l1
   have hst:((cuts.getD i 0:Int):Rat)<((cuts.getD (i+1) 0:Int):Rat):=Rat.intCast_lt_intCast.2 (h.step (i:=i) (by omega))
   have hd:=h.den (i:=i) (by omega)
   have hd0:=yIl h (i:=i) (by omega)
   have low:=fun {x y:Rat}=>yuH h r (i+1) (x:=x) (y:=y) (by omega)
   have hmon:=fun {x:Rat} (hx:x<q)=>yF4 h (i:=i) (by omega) (Rat.le_of_lt hx)
   have hmon2:=fun {x:Rat} (hx:x<q)=>yBz h (Rat.le_of_lt hx) r (i+1) (by omega)
   have m1:=yc4 p (cuts.getD i 0:Int)
   have m2:=yc4 q (cuts.getD i 0:Int)
   have n1:=ydK (maxR p (cuts.getD i 0:Int)) (cuts.getD (i+1) 0:Int)
   have n2:=ydK (maxR q (cuts.getD i 0:Int)) (cuts.getD (i+1) 0:Int)
   unfold mrkS at e
   by_cases c1:p<((cuts.getD (i+1) 0:Int):Rat)
   case neg =>
     rw [if_pos c1] at e
     obtain ⟨a1,a2,a3,a4⟩:=ywa h r (i+1) p v q (by omega) hv (Rat.not_lt.1 c1) e
     have eq:uC cuts i q=uC cuts i p:=by unfold uC;grind
     refine ⟨by unfold vu;rw [eq];grind,a2,a3,fun x hx=>?_⟩
     have b1:=a4 x hx
     have b2:=Rat.mul_le_mul_of_nonneg_left (hmon hx) hd0
     unfold vu
     grind
   rw [if_neg (fun k=>k c1)] at e
   by_cases c2:dens.getD i 0=0
   · rw [if_pos c2] at e
     obtain ⟨a1,a2,a3,a4⟩:=ywa h r (i+1) _ v q (by omega) hv Rat.le_refl e
     have e2:=low (x:=p) (y:=((cuts.getD (i+1) 0:Int):Rat)) (Rat.le_of_lt c1) Rat.le_refl
     refine ⟨by unfold vu;rw [e2,c2];grind,by grind,a3,fun x hx=>?_⟩
     have b1:=a4 x hx
     have b2:=Rat.mul_le_mul_of_nonneg_left (hmon hx) hd0
     unfold vu
     grind
   rw [if_neg c2] at e
   have e:=ylz (ylz e)
   have dpos:(0:Rat)<((dens.getD i 0:Int):Rat):=Rat.intCast_pos.2 (by omega)
   have up:uC cuts i p=p:=by unfold uC;grind
   by_cases c3:(((cuts.getD (i+1) 0:Int):Rat)-p)*((dens.getD i 0:Int):Rat)<v
   · rw [if_pos c3] at e
     have e:=ylz e
     obtain ⟨a1,a2,a3,a4⟩:=ywa h r (i+1) _ _ q (by omega) (by grind) Rat.le_refl e
     have e2:=low (x:=p) (y:=((cuts.getD (i+1) 0:Int):Rat)) (Rat.le_of_lt c1) Rat.le_refl
     have uq:uC cuts i q=((cuts.getD (i+1) 0:Int):Rat):=by unfold uC;grind
     refine ⟨by unfold vu;rw [e2,up,uq];grind,by grind,a3,fun x hx=>?_⟩
     have b1:=a4 x hx
     have b2:=Rat.mul_le_mul_of_nonneg_left (hmon hx) hd0
     unfold vu
     grind
   · rw [if_neg c3] at e
     have e:=ylz (ylz e)
     cases e
     generalize hs:v / ((dens.getD i 0:Int):Rat)=s at *
     have es:s*((dens.getD i 0:Int):Rat)=v:=by rw [← hs];exact Rat.div_mul_cancel (by grind)
     have s0:0<s:=by
       refine Rat.not_le.1 fun k=>?_
       have:=Rat.mul_le_mul_of_nonneg_right k hd0
       grind
     have s1:p+s≤((cuts.getD (i+1) 0:Int):Rat):=by
       refine Rat.not_lt.1 fun k=>?_
       have:(((cuts.getD (i+1) 0:Int):Rat)-p)<s:=by grind
       have:=Rat.mul_lt_mul_of_pos_right this dpos
       grind
     have uq:uC cuts i (p+s)=p+s:=by unfold uC;grind
     have e2:=low (x:=p+s) (y:=p) s1 (Rat.le_of_lt c1)
     have hlast:cuts.getD (i+1) 0≤cuts.getD dens.length 0:=h.mono (by omega) (by omega)
     have hlast:((cuts.getD (i+1) 0:Int):Rat)≤((cuts.getD dens.length 0:Int):Rat):=Rat.intCast_le_intCast.2 hlast
     refine ⟨by unfold vu;rw [e2,up,uq];grind,by grind,by grind,fun x hx=>?_⟩
     have b1:=hmon2 hx
     have ux:uC cuts i x<p+s:=by
       have k1:=yc4 x (cuts.getD i 0:Int)
       have k2:=ydK (maxR x (cuts.getD i 0:Int)) (cuts.getD (i+1) 0:Int)
       unfold uC
       grind
     have b2:=Rat.mul_lt_mul_of_pos_left ux dpos
     unfold vu
     rw [uq]
     grind
theorem VC.last (h:VC len cuts dens):cuts.getD dens.length 0=len:=by
 have l1:=h.l1
 have:=h.2.2.2.2.2.2.1
 rw [show dens.length=cuts.length-1 by omega]
 exact this
theorem yF5 (h:VC len cuts dens) {a v q:Rat} (h0:0≤a) (h1:a≤(len:Rat)) (hv:0≤v) (e:mrkC cuts dens a v=.ok q) :
   vX cuts dens q=vX cuts dens a+v∧a≤q∧q≤(len:Rat)∧(v=0→a=q)∧(v≠0→∀ x,x<q→vX cuts dens x<vX cuts dens q):=by
 unfold mrkC at e
 by_cases c:v=0
 · rw [if_pos c] at e
   cases e
   rw [c]
   exact ⟨by grind,Rat.le_refl,h1,fun _=>rfl,fun k=>absurd rfl k⟩
 · rw [if_neg c] at e
   have c0:cuts.getD 0 0=0:=h.2.2.2.2.2.1
   obtain ⟨a1,a2,a3,a4⟩:=ywa h dens.length 0 a v q (by omega) (by grind) (by rw [c0];exact h0) e
   rw [h.last] at a3
   exact ⟨by unfold vX;grind,Rat.le_of_lt a2,a3,fun k=>absurd k c,fun _=>a4⟩
end
end Go.Pf.Vc
namespace Go.Pf.Vc
open Go Go.Pf
def In (D:Int) (q:Rat):Prop:=∃ n:Int,q=(n:Rat) / (D:Rat)
theorem In.int {D:Int} (h:1≤D) (c:Int):In D (c:Rat):=⟨c*D,by rw [Rat.intCast_mul,Rat.mul_div_cancel (rne h)]⟩
theorem In.add {D:Int} {q r:Rat} (h:In D q) (k:In D r):In D (q+r):=by
 obtain ⟨n,rfl⟩:=h
 obtain ⟨m,rfl⟩:=k
 exact ⟨n+m,by rw [Rat.intCast_add];grind⟩
theorem In.sub {D:Int} {q r:Rat} (h:In D q) (k:In D r):In D (q-r):=by
 obtain ⟨n,rfl⟩:=h
 obtain ⟨m,rfl⟩:=k
 exact ⟨n-m,by rw [Rat.intCast_sub];grind⟩
theorem In.mulI {D:Int} {q:Rat} (h:In D q) (d:Int):In D (q*(d:Rat)):=by
 obtain ⟨n,rfl⟩:=h
 exact ⟨n*d,by rw [Rat.intCast_mul];grind⟩
theorem In.up {D d:Int} {q:Rat} (hD:1≤D) (hd:1≤d) (h:In D q):In (d*D) q:=by
 obtain ⟨n,rfl⟩:=h
 have h1:=rne hD
 have h2:=rne hd
 refine ⟨d*n,?_⟩
 rw [Rat.intCast_mul,Rat.intCast_mul]
 grind
theorem In.div {D d:Int} {q:Rat} (hD:1≤D) (hd:1≤d) (h:In D q):In (d*D) (q / (d:Rat)):=by
 obtain ⟨n,rfl⟩:=h
 have h1:=rne hD
 have h2:=rne hd
 refine ⟨n,?_⟩
 rw [Rat.intCast_mul]
 grind
theorem In.small {D M:Int} {q:Rat} (h:In D q) (hD:1≤D∧D≤1000000000000000000) (hM:M*D≤1000000000000000000) (h0:-(M:Rat)≤q) (h1:q≤(M:Rat)):small q:=by
 obtain ⟨n,rfl⟩:=h
 have hp:(0:Rat)<(D:Rat):=Rat.intCast_pos.2 (by omega)
 have e:(n:Rat) / (D:Rat)*(D:Rat)=(n:Rat):=Rat.div_mul_cancel (rne hD.1)
 have a:=Rat.mul_le_mul_of_nonneg_right h0 (Rat.le_of_lt hp)
 have b:=Rat.mul_le_mul_of_nonneg_right h1 (Rat.le_of_lt hp)
 rw [e] at a b
 have a':((-(M*D):Int):Rat)≤(n:Rat):=by rw [Rat.intCast_neg,Rat.intCast_mul];grind
 have b':(n:Rat)≤((M*D:Int):Rat):=by rw [Rat.intCast_mul];exact b
 have a2:=Rat.intCast_le_intCast.1 a'
 have b2:=Rat.intCast_le_intCast.1 b'
 exact yuE (d:=D) ⟨by omega,by omega⟩ ⟨by omega,by omega⟩
section
variable {len:Int} {cuts dens:List Int}
theorem yIm (h:VC len cuts dens) {u:Rat} (h0:0≤u) (h1:u<(len:Rat)):∃ i,i<dens.length∧((cuts.getD i 0:Int):Rat)≤u∧u<((cuts.getD (i+1) 0:Int):Rat):=by
 have key:∀ n,n≤dens.length→u<((cuts.getD n 0:Int):Rat)→∃ i,i<n∧((cuts.getD i 0:Int):Rat)≤u∧u<((cuts.getD (i+1) 0:Int):Rat):=by
   intro n
   induction n with
   | zero =>
     intro _ hu
     have c0:cuts.getD 0 0=0:=h.2.2.2.2.2.1
     rw [c0] at hu
     have:u<0:=hu
     grind
   | succ n ih =>
     intro hn hu
     by_cases hc:u<((cuts.getD n 0:Int):Rat)
     · obtain ⟨i,h1,h2,h3⟩:=ih (by omega) hc
       exact ⟨i,by omega,h2,h3⟩
     · exact ⟨n,by omega,Rat.not_lt.1 hc,hu⟩
 obtain ⟨i,h1,h2,h3⟩:=key dens.length (Nat.le_refl _) (by rw [h.last];exact h1)
 exact ⟨i,h1,h2,h3⟩
theorem ypK (h:VC len cuts dens) {i j:Nat} (hij:i≤j) (hj:j≤dens.length):((cuts.getD i 0:Int):Rat)≤((cuts.getD j 0:Int):Rat):=Rat.intCast_le_intCast.2 (h.mono hij (by have:=h.l1;omega))
theorem yIn (h:VC len cuts dens) {i:Nat} (hi:i<dens.length) {u p:Rat} (h0:((cuts.getD i 0:Int):Rat)≤u) (h1:u≤p) (h2:p≤((cuts.getD (i+1) 0:Int):Rat)) :
   ∀ (r j:Nat),j+r=dens.length→j≤i→vu cuts dens p r j=vu cuts dens u r j+((dens.getD i 0:Int):Rat)*(p-u)
 | 0,j,hj,hji=>by omega
 | r+1,j,hj,hji=>by
   have hst:((cuts.getD j 0:Int):Rat)≤((cuts.getD (j+1) 0:Int):Rat):=ypK h (Nat.le_succ j) (by omega)
   have m1:=yc4 p (cuts.getD j 0:Int)
   have m2:=yc4 u (cuts.getD j 0:Int)
   have n1:=ydK (maxR p (cuts.getD j 0:Int)) (cuts.getD (j+1) 0:Int)
   have n2:=ydK (maxR u (cuts.getD j 0:Int)) (cuts.getD (j+1) 0:Int)
   by_cases e:j=i
   · subst e
     have low:=yuH h r (j+1) (x:=p) (y:=u) (by omega) h2 (by grind)
     have ep:uC cuts j p=p:=by unfold uC;grind
     have eu:uC cuts j u=u:=by unfold uC;grind
     unfold vu
     rw [low,ep,eu]
     grind
   · have hc:((cuts.getD (j+1) 0:Int):Rat)≤((cuts.getD i 0:Int):Rat):=ypK h (by omega) (by omega)
     have ih:=yIn h hi h0 h1 h2 r (j+1) (by omega) (by omega)
     have ep:uC cuts j p=uC cuts j u:=by unfold uC;grind
     unfold vu
     rw [ih,ep]
     grind
theorem yFk (h:VC len cuts dens) {i:Nat} (hi:i<dens.length) {u p:Rat} (h0:((cuts.getD i 0:Int):Rat)≤u) (h1:u≤p) (h2:p≤((cuts.getD (i+1) 0:Int):Rat)) :
   vX cuts dens p=vX cuts dens u+((dens.getD i 0:Int):Rat)*(p-u):=yIn h hi h0 h1 h2 dens.length 0 (by omega) (Nat.zero_le _)
def Hun (dens:List Int):Prop:=∀ i,i<dens.length→0<dens.getD i 0
theorem ytL (h:VC len cuts dens) (hh:Hun dens) {u w:Rat} (h0:0≤u) (h1:u<w) (h2:w≤(len:Rat)) (hc:∀ j,j<cuts.length→¬(u<((cuts.getD j 0:Int):Rat)∧((cuts.getD j 0:Int):Rat)<w)) :
   ∃ d:Rat,0<d∧∀ p,u≤p→p≤w→vX cuts dens p=vX cuts dens u+d*(p-u):=by
 obtain ⟨i,i1,i2,i3⟩:=yIm h h0 (by grind)
 have l1:=h.l1
 have hw:w≤((cuts.getD (i+1) 0:Int):Rat):=Rat.not_lt.1 fun k=>hc (i+1) (by omega) ⟨i3,k⟩
 exact ⟨_,Rat.intCast_pos.2 (hh i i1),fun p hp hq=>yFk h i1 i2 hp (by grind)⟩
theorem vX_lt (h:VC len cuts dens) (hh:Hun dens) {u w:Rat} (h0:0≤u) (h1:u<w) (h2:w≤(len:Rat)):vX cuts dens u<vX cuts dens w:=by
 obtain ⟨i,i1,i2,i3⟩:=yIm h h0 (by grind)
 have hd:(0:Rat)<((dens.getD i 0:Int):Rat):=Rat.intCast_pos.2 (hh i i1)
 by_cases hw:w≤((cuts.getD (i+1) 0:Int):Rat)
 · have e:=yFk h i1 i2 (Rat.le_of_lt h1) hw
   have:=Rat.mul_lt_mul_of_pos_left (show (0:Rat)<w-u by grind) hd
   grind
 · have e:=yFk h i1 i2 (Rat.le_of_lt i3) Rat.le_refl
   have:=Rat.mul_lt_mul_of_pos_left (show (0:Rat)<((cuts.getD (i+1) 0:Int):Rat)-u by grind) hd
   have m:=yeG h (x:=((cuts.getD (i+1) 0:Int):Rat)) (y:=w) (Rat.le_of_lt (Rat.not_le.1 hw))
   grind
theorem yFl (h:VC len cuts dens) (hh:Hun dens) {u w:Rat} (h0:0≤u) (h1:u≤(len:Rat)) (k0:0≤w) (k1:w≤(len:Rat)) (e:vX cuts dens u=vX cuts dens w):u=w:=by
 by_cases h3:u<w
 · have:=vX_lt h hh h0 h3 k1;grind
 · by_cases h4:w<u
   · have:=vX_lt h hh k0 h4 h1;grind
   · grind
theorem uC_In {D:Int} (hD:1≤D) {x:Rat} (hx:In D x) (i:Nat):In D (uC cuts i x):=by
 have n1:=ydK (maxR x (cuts.getD i 0:Int)) (cuts.getD (i+1) 0:Int)
 have m1:=yc4 x (cuts.getD i 0:Int)
 unfold uC
 rcases n1.2.2 with e | e
 · rw [e]
   rcases m1.2.2 with e2 | e2
   · rw [e2];exact hx
   · rw [e2];exact In.int hD _
 · rw [e];exact In.int hD _
theorem vu_In {D:Int} (hD:1≤D) {x:Rat} (hx:In D x):∀ (r i:Nat),In D (vu cuts dens x r i)
 | 0,_=>In.int hD 0
 | r+1,i=>by
   unfold vu
   rw [Rat.mul_comm]
   exact ((uC_In hD hx i).mulI _).add (vu_In hD hx r (i+1))
theorem vX_In {D:Int} (hD:1≤D) {x:Rat} (hx:In D x):In D (vX cuts dens x):=vu_In hD hx _ _
theorem yIo (h:VC len cuts dens):∀ (r i:Nat),i+r=dens.length→vu cuts dens (len:Rat) r i-vu cuts dens ((cuts.getD i 0:Int):Rat) r i=((rem cuts dens r i:Int):Rat)
 | 0,_,_=>by unfold vu rem;show (0:Rat)-0=0;grind
 | r+1,i,hi=>by
   have ih:=yIo h r (i+1) (by omega)
   have hst:((cuts.getD i 0:Int):Rat)≤((cuts.getD (i+1) 0:Int):Rat):=ypK h (Nat.le_succ i) (by omega)
   have hl:((cuts.getD (i+1) 0:Int):Rat)≤(len:Rat):=by rw [← h.last];exact ypK h (by omega) (Nat.le_refl _)
   have low:=yuH h r (i+1) (x:=((cuts.getD i 0:Int):Rat)) (y:=((cuts.getD (i+1) 0:Int):Rat)) (by omega) hst Rat.le_refl
   have m1:=yc4 (len:Rat) (cuts.getD i 0:Int)
   have n1:=ydK (maxR (len:Rat) (cuts.getD i 0:Int)) (cuts.getD (i+1) 0:Int)
   have m2:=yc4 ((cuts.getD i 0:Int):Rat) (cuts.getD i 0:Int)
   have n2:=ydK (maxR ((cuts.getD i 0:Int):Rat) (cuts.getD i 0:Int)) (cuts.getD (i+1) 0:Int)
   have e1:uC cuts i (len:Rat)=((cuts.getD (i+1) 0:Int):Rat):=by unfold uC;grind
   have e2:uC cuts i ((cuts.getD i 0:Int):Rat)=((cuts.getD i 0:Int):Rat):=by unfold uC;grind
   unfold vu rem
   rw [e1,e2,low,Rat.intCast_add,Rat.intCast_mul,Rat.intCast_sub,← ih]
   grind
theorem yIp (h:VC len cuts dens):vX cuts dens (len:Rat)-vX cuts dens 0=((totC cuts dens:Int):Rat):=by
 have c0:cuts.getD 0 0=0:=h.2.2.2.2.2.1
 have:=yIo h dens.length 0 (by omega)
 rw [c0] at this
 unfold totC
 rw [yxY,show (0:Int)+rem cuts dens dens.length 0=rem cuts dens dens.length 0 by omega]
 exact this
end
end Go.Pf.Vc
namespace Go.Pf.Vc
open Go Go.Pf
section
variable {len:Int} {cuts dens:List Int}
theorem ynW (h:VC len cuts dens):(1:Rat)≤(len:Rat)∧(len:Rat)≤1000:=by
 have:=h.len0
 exact ⟨Rat.intCast_le_intCast.2 this.1,Rat.intCast_le_intCast.2 this.2⟩
theorem yF6 (h:VC len cuts dens) {i:Nat} (hi:i<dens.length):(0:Rat)≤((dens.getD i 0:Int):Rat)∧((dens.getD i 0:Int):Rat)≤12:=by
 have:=h.den hi
 exact ⟨Rat.intCast_le_intCast.2 this.1,Rat.intCast_le_intCast.2 this.2⟩
theorem yF7 {x d:Rat} (h0:0≤x) (hd:0≤d∧d≤12):0≤x*d∧x*d≤12*x:=by
 have a:=Rat.mul_nonneg h0 hd.1
 have b:=Rat.mul_le_mul_of_nonneg_left hd.2 h0
 exact ⟨a,by grind⟩
theorem yuI (h:VC len cuts dens) {D:Int} (hD:1≤D∧D≤50000000000000) {b:Rat} (hb:In D b) (b1:b≤(len:Rat)) :
   ∀ (r i:Nat) (p sum:Rat),i+r=dens.length→In D p→In D sum→0≤p→p≤(len:Rat)→0≤sum→sum≤12*p→∃ v,valS cuts dens b r i p sum=.ok v
 | 0,i,p,sum,_,_,_,_,_,_,_=>⟨sum,rfl⟩
 | r+1,i,p,sum,hi,hp,hs,p0,p1,s0,s1=>by
   have l1:=h.l1
   have hl:=ynW h
   have hd:=yF6 h (i:=i) (by omega)
   have hc1:((cuts.getD (i+1) 0:Int):Rat)≤(len:Rat):=by rw [← h.last];exact ypK h (by omega) (Nat.le_refl _)
   unfold valS
   have hen:∃ en:Rat,(if b<((cuts.getD (i+1) 0:Int):Rat) then b else ((cuts.getD (i+1) 0:Int):Rat))=en∧In D en∧en≤(len:Rat):=by
     refine ⟨_,rfl,?_,?_⟩
     · split
       · exact hb
       · exact In.int hD.1 _
     · split <;> grind
   obtain ⟨en,e0,e1,e2⟩:=hen
   rw [e0]
   dsimp only
   split
   · refine yuI h hD hb b1 r (i+1) _ sum (by omega) ?_ hs ?_ ?_ s0 ?_
     · split
       · exact e1
       · exact hp
     · split <;> grind
     · split <;> grind
     · split <;> grind
   · rename_i hn
     have hlt:p<en:=by
       refine Classical.byContradiction fun k=>hn (.inr k)
     have m:=yF7 (x:=en-p) (by grind) hd
     have i1:=e1.sub hp
     have i2:=i1.mulI (dens.getD i 0)
     have i3:=hs.add i2
     rw [ygx (i1.small (M:=1000) ⟨by omega,by omega⟩ (by omega) (by show -(1000:Rat)≤_;grind) (by show _≤(1000:Rat);grind)),
       ygx (i2.small (M:=12000) ⟨by omega,by omega⟩ (by omega) (by show -(12000:Rat)≤_;grind) (by show _≤(12000:Rat);grind)),
       ygx (i3.small (M:=12000) ⟨by omega,by omega⟩ (by omega) (by show -(12000:Rat)≤_;grind) (by show _≤(12000:Rat);grind))]
     exact yuI h hD hb b1 r (i+1) en _ (by omega) e1 i3 (by grind) e2 (by grind) (by grind)
theorem yuJ (h:VC len cuts dens) {D:Int} (hD:1≤D∧D≤50000000000000) {a b:Rat} (ha:In D a) (hb:In D b) (a0:0≤a) (hab:a≤b) (b1:b≤(len:Rat)):valC cuts dens a b=.ok (vX cuts dens b-vX cuts dens a):=by
 obtain ⟨v,e⟩:=yuI h hD hb b1 dens.length 0 a 0 (by omega) ha (In.int hD.1 0) a0 (by grind) (by grind) (by grind)
 have e:valC cuts dens a b=.ok v:=e
 rw [e,yF3 h a0 hab e]
theorem ytM (b:Rat):∀ (r i:Nat) (p sum:Rat) {e:Int},valS cuts dens b r i p sum=.error e→e=16
 | 0,_,_,_,_,h=>by cases h
 | r+1,i,p,sum,e,h=>by
   unfold valS at h
   dsimp only at h
   generalize (if b<((cuts.getD (i+1) 0:Int):Rat) then b else ((cuts.getD (i+1) 0:Int):Rat))=en at h
   split at h
   · exact ytM b r _ _ _ h
   · have fe:∀ {q:Rat} {k:Rat→Except Int Rat},fit q k=.error e→e=16∨k q=.error e:=by
       intro q k hf
       unfold fit at hf
       split at hf
       · exact .inr hf
       · cases hf;exact .inl rfl
     rcases fe h with h | h
     · exact h
     rcases fe h with h | h
     · exact h
     rcases fe h with h | h
     · exact h
     exact ytM b r _ _ _ h
theorem yuK (h:VC len cuts dens) (hh:Hun dens):∀ (r i:Nat) (p v:Rat),i+r=dens.length→((cuts.getD i 0:Int):Rat)≤p→p≤(len:Rat)→0<v→v≤vu cuts dens (len:Rat) r i-vu cuts dens p r i →
   (∀ e,mrkS cuts dens r i p v=.error e→e=16) ∧
   ∀ D,1≤D→D≤1000000000000→In D p→In D v→v≤12000→∃ q d,mrkS cuts dens r i p v=.ok q∧(1≤d∧d≤12)∧In (d*D) q
 | 0,i,p,v,hi,_,_,v0,v1=>by
   unfold vu at v1
   grind
 | r+1,i,p,v,hi,hp,p1,v0,v1=>by
   have l1:=h.l1
   have hl:=ynW h
   have hd:=yF6 h (i:=i) (by omega)
   have hd1:=hh i (by omega)
   have hd2:=h.den (i:=i) (by omega)
   have dpos:(0:Rat)<((dens.getD i 0:Int):Rat):=Rat.intCast_pos.2 hd1
   have hc0:(0:Rat)≤((cuts.getD i 0:Int):Rat):=Rat.intCast_nonneg.2 (h.lo (by omega))
   have hst:((cuts.getD i 0:Int):Rat)<((cuts.getD (i+1) 0:Int):Rat):=Rat.intCast_lt_intCast.2 (h.step (i:=i) (by omega))
   have hc1:((cuts.getD (i+1) 0:Int):Rat)≤(len:Rat):=by rw [← h.last];exact ypK h (by omega) (Nat.le_refl _)
   have low:=yuH h r (i+1) (x:=p) (y:=((cuts.getD (i+1) 0:Int):Rat)) (by omega)
   have m1:=yc4 p (cuts.getD i 0:Int)
   have m2:=yc4 (len:Rat) (cuts.getD i 0:Int)
   have n1:=ydK (maxR p (cuts.getD i 0:Int)) (cuts.getD (i+1) 0:Int)
   have n2:=ydK (maxR (len:Rat) (cuts.getD i 0:Int)) (cuts.getD (i+1) 0:Int)
   have el:uC cuts i (len:Rat)=((cuts.getD (i+1) 0:Int):Rat):=by unfold uC;grind
   unfold vu at v1
   rw [el] at v1
   unfold mrkS
   by_cases c1:p<((cuts.getD (i+1) 0:Int):Rat)
   case neg =>
     rw [if_pos c1]
     have ep:uC cuts i p=((cuts.getD (i+1) 0:Int):Rat):=by unfold uC;grind
     rw [ep] at v1
     exact yuK h hh r (i+1) p v (by omega) (Rat.not_lt.1 c1) p1 v0 (by grind)
   rw [if_neg (fun k=>k c1),if_neg (by omega)]
   have ep:uC cuts i p=p:=by unfold uC;grind
   rw [ep,low (Rat.le_of_lt c1) Rat.le_refl] at v1
   have fe:∀ {e:Int} {q:Rat} {k:Rat→Except Int Rat},fit q k=.error e→e=16∨k q=.error e:=by
     intro e q k hf
     unfold fit at hf
     split at hf
     · exact .inr hf
     · cases hf;exact .inl rfl
   have m:=yF7 (x:=((cuts.getD (i+1) 0:Int):Rat)-p) (by grind) hd
   by_cases c3:(((cuts.getD (i+1) 0:Int):Rat)-p)*((dens.getD i 0:Int):Rat)<v
   · have ih:=yuK h hh r (i+1) ((cuts.getD (i+1) 0:Int):Rat) (v-(((cuts.getD (i+1) 0:Int):Rat)-p)*((dens.getD i 0:Int):Rat)) (by omega) Rat.le_refl hc1 (by grind) (by grind)
     refine ⟨fun e he=>?_,fun D D1 D2 hpD hvD hv=>?_⟩
     · rcases fe he with he | he
       · exact he
       rcases fe he with he | he
       · exact he
       rw [if_pos c3] at he
       rcases fe he with he | he
       · exact he
       exact ih.1 e he
     · have i1:=(In.int D1 (cuts.getD (i+1) 0)).sub hpD
       have i2:=i1.mulI (dens.getD i 0)
       have i3:=hvD.sub i2
       rw [ygx (i1.small (M:=1000) ⟨by omega,by omega⟩ (by omega) (by show -(1000:Rat)≤_;grind) (by show _≤(1000:Rat);grind)),
         ygx (i2.small (M:=12000) ⟨by omega,by omega⟩ (by omega) (by show -(12000:Rat)≤_;grind) (by show _≤(12000:Rat);grind)),if_pos c3,
         ygx (i3.small (M:=12000) ⟨by omega,by omega⟩ (by omega) (by show -(12000:Rat)≤_;grind) (by show _≤(12000:Rat);grind))]
       exact ih.2 D D1 D2 (In.int D1 _) i3 (by grind)
   · refine ⟨fun e he=>?_,fun D D1 D2 hpD hvD hv=>?_⟩
     · rcases fe he with he | he
       · exact he
       rcases fe he with he | he
       · exact he
       rw [if_neg c3] at he
       rcases fe he with he | he
       · exact he
       rcases fe he with he | he
       · exact he
       cases he
     · have i1:=(In.int D1 (cuts.getD (i+1) 0)).sub hpD
       have i2:=i1.mulI (dens.getD i 0)
       have i3:=hvD.div D1 (d:=dens.getD i 0) (by omega)
       have i4:=(hpD.up D1 (d:=dens.getD i 0) (by omega)).add i3
       have hDD:dens.getD i 0*D≤12*D:=Int.mul_le_mul_of_nonneg_right hd2.2 (by omega)
       have hDD1:1*1≤dens.getD i 0*D:=Int.mul_le_mul (by omega) D1 (by omega) (by omega)
       generalize hs:v / ((dens.getD i 0:Int):Rat)=s at *
       have es:s*((dens.getD i 0:Int):Rat)=v:=by rw [← hs];exact Rat.div_mul_cancel (by grind)
       have s0:0≤s:=by
         refine Rat.not_lt.1 fun k=>?_
         have:=Rat.mul_lt_mul_of_pos_right k dpos
         grind
       have s1:p+s≤((cuts.getD (i+1) 0:Int):Rat):=by
         refine Rat.not_lt.1 fun k=>?_
         have:(((cuts.getD (i+1) 0:Int):Rat)-p)<s:=by grind
         have:=Rat.mul_lt_mul_of_pos_right this dpos
         grind
       rw [ygx (i1.small (M:=1000) ⟨by omega,by omega⟩ (by omega) (by show -(1000:Rat)≤_;grind) (by show _≤(1000:Rat);grind)),
         ygx (i2.small (M:=12000) ⟨by omega,by omega⟩ (by omega) (by show -(12000:Rat)≤_;grind) (by show _≤(12000:Rat);grind)),if_neg c3,
         ygx (i3.small (M:=1000) ⟨by omega,by omega⟩ (by omega) (by show -(1000:Rat)≤_;grind) (by show _≤(1000:Rat);grind)),
         ygx (i4.small (M:=1000) ⟨by omega,by omega⟩ (by omega) (by show -(1000:Rat)≤_;grind) (by show _≤(1000:Rat);grind))]
       exact ⟨_,dens.getD i 0,rfl,⟨by omega,hd2.2⟩,i4⟩
theorem yuL (h:VC len cuts dens) (hh:Hun dens) {p v:Rat} (p0:0≤p) (p1:p≤(len:Rat)) (v0:0<v) (hv:v≤vX cuts dens (len:Rat)-vX cuts dens p) :
   (∀ e,mrkC cuts dens p v=.error e→e=16) ∧
   ∀ D,1≤D→D≤1000000000000→In D p→In D v→v≤12000→∃ q d,mrkC cuts dens p v=.ok q∧(1≤d∧d≤12)∧In (d*D) q:=by
 have c0:cuts.getD 0 0=0:=h.2.2.2.2.2.1
 unfold mrkC
 rw [if_neg (by grind)]
 exact yuK h hh dens.length 0 p v (by omega) (by rw [c0];exact p0) p1 v0 hv
end
end Go.Pf.Vc
namespace Go.Pf.Vc
open Go Go.Pf
structure Kn (a b:Ck):Prop where
 ha:VC a.len a.cuts a.dens
 hb:VC b.len b.cuts b.dens
 len:b.len=a.len
 fa:Hun a.dens
 fb:Hun b.dens
def Ck.V (c:Ck) (x:Rat):Rat:=vX c.cuts c.dens x
def isY (a:Ck) (x y:Rat):Prop:=0≤x∧0≤y∧y≤(a.len:Rat)∧a.V y=a.V x+hlf a
def gapR (b:Ck) (x y:Rat):Rat:=b.V y-b.V x-hlf b
theorem yBA {c:Ck} (h:VC c.len c.cuts c.dens):c.V (c.len:Rat)=c.V 0+2*hlf c:=by
 have:=yIp h
 rw [yBw]
 unfold Ck.V
 grind
theorem yx3 {c:Ck} (h:VC c.len c.cuts c.dens):0<hlf c:=yF1 h
section
variable {a b:Ck}
theorem yIq (k:Kn a b) {x y x' y':Rat} (h:isY a x y) (h':isY a x' y') (hx:x'≤(a.len:Rat)) (hlt:x<x'):y<y':=by
 obtain ⟨x0,y0,y1,e⟩:=h
 obtain ⟨x0',y0',y1',e'⟩:=h'
 have:=vX_lt k.ha k.fa x0 hlt hx
 refine Rat.not_le.1 fun hle=>?_
 have m:=yeG k.ha hle
 unfold Ck.V at e e'
 grind
theorem yFm (k:Kn a b) {x y x' y':Rat} (h:isY a x y) (h':isY a x' y') (hx:x'≤(a.len:Rat)) (hle:x≤x'):y≤y':=by
 by_cases e:x=x'
 · subst e
   have:=yFl k.ha k.fa h.2.1 h.2.2.1 h'.2.1 h'.2.2.1 (h.2.2.2.trans h'.2.2.2.symm)
   grind
 · exact Rat.le_of_lt (yIq k h h' hx (by grind))
theorem isY_x (k:Kn a b) {x y:Rat} (h:isY a x y) (_:x≤(a.len:Rat)):x<y:=by
 obtain ⟨x0,y0,y1,e⟩:=h
 have h2:=yx3 k.ha
 refine Rat.not_le.1 fun hle=>?_
 have m:=yeG k.ha hle
 unfold Ck.V at e
 grind
def noCut (c:Ck) (u w:Rat):Prop:=∀ j,j<c.cuts.length→¬(u<((c.cuts.getD j 0:Int):Rat)∧((c.cuts.getD j 0:Int):Rat)<w)
theorem yJu (k:Kn a b) {x y t z:Rat} (h:isY a x y) (h':isY a t z) (hxt:x<t) (ht:t≤(a.len:Rat)) (ca:noCut a x t) (cb:noCut b x t) (ca':noCut a y z) (cb':noCut b y z) :
   ∃ s:Rat,∀ p q,x≤p→p≤t→isY a p q→gapR b p q=gapR b x y+s*(p-x):=by
 have hyz:=yIq k h h' ht hxt
 have lb:(b.len:Rat)=(a.len:Rat):=by rw [k.len]
 obtain ⟨d1,p1,f1⟩:=ytL k.ha k.fa h.1 hxt ht ca
 obtain ⟨d2,p2,f2⟩:=ytL k.hb k.fb h.1 hxt (by rw [lb];exact ht) cb
 obtain ⟨d3,p3,f3⟩:=ytL k.ha k.fa h.2.1 hyz h'.2.2.1 ca'
 obtain ⟨d4,p4,f4⟩:=ytL k.hb k.fb h.2.1 hyz (by rw [lb];exact h'.2.2.1) cb'
 refine ⟨d4*(d1 / d3)-d2,fun p q hp hpt hq=>?_⟩
 have hpl:p≤(a.len:Rat):=Rat.le_trans hpt ht
 have q1:=yFm k h hq hpl hp
 have q2:=yFm k hq h' ht hpt
 have g1:=f1 p hp hpt
 have g2:=f2 p hp hpt
 have g3:=f3 q q1 q2
 have g4:=f4 q q1 q2
 have e1:=h.2.2.2
 have e2:=hq.2.2.2
 unfold gapR
 unfold Ck.V at *
 have e3:d3*(q-y)=d1*(p-x):=by grind
 have e4:q-y=d1 / d3*(p-x):=by
   have hd3:d3≠0:=by grind
   have:(q-y)=(d3*(q-y)) / d3:=by
     rw [Rat.mul_comm,Rat.mul_div_cancel hd3]
   rw [this,e3]
   grind
 grind
def sameS (g h:Rat):Prop:=(0<g∧0<h)∨(g<0∧h<0)
theorem yIr {x t g0 g1 s:Rat} (_:x<t) (e:g1=g0+s*(t-x)) (hn:sameS g0 g1∨(g0≠0∧g1=0)) {p:Rat} (hp:x≤p) (hpt:p<t):g0+s*(p-x)≠0∧sameS g0 (g0+s*(p-x)):=by
 have h1:0≤p-x:=by grind
 have h2:p-x<t-x:=by grind
 unfold sameS at *
 by_cases hs:0≤s
 · have a1:=Rat.mul_nonneg hs h1
   by_cases hs0:s=0
   · subst hs0;grind
   · have a2:=Rat.mul_lt_mul_of_pos_left h2 (show 0<s by grind)
     grind
 · have a0:0 < -s:=by grind
   have a1:=Rat.mul_nonneg (Rat.le_of_lt a0) h1
   have a2:=Rat.mul_lt_mul_of_pos_left h2 a0
   grind
theorem yIs {x t g0 g1 s:Rat} (hxt:x<t) (e:g1=g0+s*(t-x)) (hn:(0<g0∧g1<0)∨(g0<0∧0<g1)) :
   let z:=x+(t-x)*(g0 / (g0-g1))
   x<z∧z<t∧g0+s*(z-x)=0∧∀ p,x≤p→p<z→g0+s*(p-x)≠0:=by
 intro z
 have hne:g0-g1≠0:=by grind
 have hk:g0 / (g0-g1)*(g0-g1)=g0:=Rat.div_mul_cancel hne
 generalize hK:g0 / (g0-g1)=K at *
 have hz:z=x+(t-x)*K:=by show x+(t-x)*(g0 / (g0-g1))=_;rw [hK]
 have k0:0<K:=by
   refine Rat.not_le.1 fun c=>?_
   rcases hn with ⟨n1,n2⟩ | ⟨n1,n2⟩
   · have:=Rat.mul_le_mul_of_nonneg_right c (show 0≤g0-g1 by grind)
     grind
   · have:=Rat.mul_le_mul_of_nonneg_right c (show 0≤-(g0-g1) by grind)
     grind
 have k1:K<1:=by
   refine Rat.not_le.1 fun c=>?_
   rcases hn with ⟨n1,n2⟩ | ⟨n1,n2⟩
   · have:=Rat.mul_le_mul_of_nonneg_right c (show 0≤g0-g1 by grind)
     grind
   · have:=Rat.mul_le_mul_of_nonneg_right c (show 0≤-(g0-g1) by grind)
     grind
 have hd:0<t-x:=by grind
 have z1:=Rat.mul_lt_mul_of_pos_left k0 hd
 have z2:=Rat.mul_lt_mul_of_pos_left k1 hd
 have e2:g0+s*(z-x)=0:=by
   rw [hz]
   have:s*(t-x)=g1-g0:=by grind
   have:s*(x+(t-x)*K-x)=(s*(t-x))*K:=by grind
   grind
 refine ⟨by grind,by grind,e2,fun p hp hpz=>?_⟩
 have hsn:s≠0:=by
   intro hs
   subst hs
   grind
 intro h0
 have:s*(z-p)=0:=by grind
 rcases Rat.mul_eq_zero.1 this with h | h
 · exact hsn h
 · grind
end
end Go.Pf.Vc
namespace Go.Pf.Vc
open Go Go.Pf
theorem yrX {cuts dens:List Int} {p v q:Rat} (hp:small p) (h:mrkC cuts dens p v=.ok q):small q:=by
 unfold mrkC at h
 split at h
 · cases h;exact hp
 · exact ykX _ _ _ _ _ h
def nxI (c:Ck) (x:Rat):Nat→Nat→Int
 | 0,_=>c.len
 | r+1,i=>if x<((c.cuts.getD i 0:Int):Rat) then c.cuts.getD i 0 else nxI c x r (i+1)
def nxt (c:Ck) (x:Rat):Int:=nxI c x c.cuts.length 0
theorem yIt {c:Ck} (h:VC c.len c.cuts c.dens) {x:Rat} (hx:x<(c.len:Rat)):∀ (r i:Nat),i+r=c.cuts.length→(∀ j,j<i→((c.cuts.getD j 0:Int):Rat)≤x)→x<((nxI c x r i:Int):Rat)∧nxI c x r i≤c.len∧noCut c x (nxI c x r i:Int)
 | 0,i,hi,hj=>by
   have l1:=h.l1
   have hl:=hj (c.cuts.length-1) (by omega)
   have:=h.2.2.2.2.2.2.1
   rw [this] at hl
   grind
 | r+1,i,hi,hj=>by
   unfold nxI
   by_cases hc:x<((c.cuts.getD i 0:Int):Rat)
   · rw [if_pos hc]
     refine ⟨hc,h.hi (by omega),fun j hjl ⟨h1,h2⟩=>?_⟩
     have h2:=Rat.intCast_lt_intCast.1 h2
     by_cases hji:j<i
     · have:=hj j hji
       grind
     · have:=h.mono (i:=i) (j:=j) (by omega) hjl
       omega
   · rw [if_neg hc]
     exact yIt h hx r (i+1) (by omega) (fun j hji=>by
       by_cases e:j=i
       · rw [e];exact Rat.not_lt.1 hc
       · exact hj j (by omega))
theorem yx4 {c:Ck} (h:VC c.len c.cuts c.dens) {x:Rat} (hx:x<(c.len:Rat)):x<((nxt c x:Int):Rat)∧nxt c x≤c.len∧noCut c x (nxt c x:Int):=yIt h hx c.cuts.length 0 (by omega) (fun j hj=>by omega)
theorem ypL {c:Ck} (h:VC c.len c.cuts c.dens) {x:Rat} (h0:0≤x) (hx:x<(c.len:Rat)):0≤nxt c x∧nxt c x≤1000:=by
 obtain ⟨h1,h2,_⟩:=yx4 h hx
 have hl:=h.len0
 have:(0:Rat)<((nxt c x:Int):Rat):=by grind
 have:=Rat.intCast_pos.1 this
 omega
theorem ymV (n:Int) (K:Int→Int→Prop):yae n K=K (n:Rat).num (n:Rat).den:=rfl
theorem yG5 {c:Ck} (h:VC c.len c.cuts c.dens) {x:Rat} (hx:small x) {x0:Int→List PV→List PV→Int→Int→Int→Int→List PV→Int→Int→Bool→Prop} {x1 K:Int→Int→Prop} {i0 i5 i6:Int} {l1 l2:List PV}
   (h0:∀ a b d e f g,x0 i0 a b d e f g (ints c.cuts) (c.cuts.length:Int) (c.cuts.length:Int) false=K (c.len:Rat).num (c.len:Rat).den) (h1:∀ a b,x1 a b=K a b) :
   ∀ (r i n:Nat),i+r=c.cuts.length→r<n→ybR yae yam x0 x1 n i0 l1 l2 x.num x.den i5 i6 (ints c.cuts) (c.cuts.length:Int) (i:Int)=K ((nxI c x r i:Int):Rat).num ((nxI c x r i:Int):Rat).den:=by
 have l2':=h.l2
 intro r
 induction r with
 | zero =>
   intro i n hi hn
   obtain ⟨n,rfl⟩:∃ m,n=m+1:=⟨n-1,by omega⟩
   obtain rfl:i=c.cuts.length:=by omega
   rw [ybR,cbF (by omega),h0]
   rfl
 | succ r ih =>
   intro i n hi hn
   obtain ⟨n,rfl⟩:∃ m,n=m+1:=⟨n-1,by omega⟩
   have hil:i<c.cuts.length:=by omega
   have hs:small ((c.cuts.getD i 0:Int):Rat):=h.sc hil
   rw [ybR,cbT (by omega)]
   dsimp only [lt]
   rw [yat,asT (by omega),asT (by omega),Int.toNat_natCast,ypE hil,show ∀ P:Prop,asr (conf (.one (.i .i64)) (.int .i64 (c.cuts.getD i 0))) P=P from fun _=>rfl,show intOfV (.int .i64 (c.cuts.getD i 0))=c.cuts.getD i 0 from rfl,ymV,ytH hx hs]
   unfold nxI
   by_cases hc:x<((c.cuts.getD i 0:Int):Rat)
   · rw [cbT hc,if_pos hc,ymV,h1]
   · rw [cbF hc,if_neg hc,cast1,wib (by omega) (by omega)]
     exact ih (i+1) n (by omega) (by omega)
theorem ytN {c:Ck} (h:VC c.len c.cuts c.dens) {x:Rat} (hx:small x) (K:Int→Int→Prop):yaF c.len (ints c.cuts) (ints c.dens) x.num x.den K=K ((nxt c x:Int):Rat).num ((nxt c x:Int):Rat).den:=by
 refine yxl _ _ _ _ _ _ _ (fun K k=>?_) K
 unfold yaF ylZ
 refine ⟨c.cuts.length+1,?_⟩
 rw [yat]
 exact (yG5 h hx (K:=K) (fun _ _ _ _ _ _=>rfl) (fun _ _=>rfl) c.cuts.length 0 (c.cuts.length+1) (by omega) (by omega)).mpr k
theorem yrY {q r:Rat} (hq:small q) (hr:small r) (K:Int→Int→Prop):yax q.num q.den r.num r.den K=K (mnQ q r).num (mnQ q r).den:=by
 unfold yax yiY mnQ
 rw [ytH hq hr]
 by_cases h:q<r
 · rw [cbT h,if_pos h]
 · rw [cbF h,if_neg h]
theorem yJv (e:Except Int Rat) (K:Int→Int→Int→Prop):exK e (fun a b c=>K a b c)=exK e K:=rfl
theorem yF8 {c:Ck} (h:VC c.len c.cuts c.dens) {x v:Rat} (hx:small x) (h0:0≤x) (h1:x≤(c.len:Rat)) (hv:small v) (v0:0≤v):mrkR c.len c.cuts c.dens x.num x.den v.num v.den=mrkC c.cuts c.dens x v:=by
 unfold mrkR
 rw [if_pos h.ck,if_pos ⟨PT_of hx h0 h1,hv.rv,Rat.num_nonneg.2 v0⟩,yly,yly]
theorem ywb {c:Ck} (h:VC c.len c.cuts c.dens) {x y:Rat} (hx:small x) (h0:0≤x) (hy:small y) (hxy:x≤y) (h1:y≤(c.len:Rat)):valR c.len c.cuts c.dens x.num x.den y.num y.den=valC c.cuts c.dens x y:=by
 unfold valR
 rw [if_pos h.ck,if_pos ⟨PT_of hx h0 (Rat.le_trans hxy h1),PT_of hy (Rat.le_trans h0 hxy) h1,by rw [yly,yly];exact Rat.not_lt.2 hxy⟩,yly,yly]
theorem VC.fin {len:Int} {cuts dens:List Int} (h:VC len cuts dens):cuts.length<4611686018427387904∧dens.length<4611686018427387904:=by
 have:=h.l1;have:=h.l2
 omega
theorem yjV {c:Ck} (h:VC c.len c.cuts c.dens) {x:Rat} (hx:small x) (h0:0≤x) (h1:x≤(c.len:Rat)) (K:Int→Int→Int→Prop):yan c.len (ints c.cuts) (ints c.dens) x.num x.den K=exK (mrkC c.cuts c.dens x (hlf c)) K:=by
 obtain ⟨f1,f2⟩:=h.fin
 have hs:=ypJ h
 unfold yan ykH
 rw [yjS f1 f2,cnF h.ck,ytF h ⟨by omega,by omega⟩]
 show ybP _ _ _ _ _ (hlf c).num (hlf c).den _=_
 rw [yxU f1 f2 hx.i1 hx.i2 hs.i1 hs.i2,yJv,yF8 h hx h0 h1 hs (Rat.le_of_lt (yF1 h))]
def gpE (a b:Ck) (x:Rat):Except Int Rat:=match mrkC a.cuts a.dens x (hlf a) with
 | .error e=>.error e
 | .ok y=>match valC b.cuts b.dens x y with
   | .error e=>.error e
   | .ok v=>if small (v-hlf b) then .ok (v-hlf b) else .error 16
section
variable {a b:Ck}
theorem Kn.dk (k:Kn a b):DK [a,b] where
 n6:=by simp
 n0:=by simp
 ok:=fun i hi=>by
   match i,hi with
   | 0,_=>exact k.ha
   | 1,_=>exact k.hb
 len:=fun i hi=>by
   match i,hi with
   | 0,_=>rfl
   | 1,_=>exact k.len
theorem yF9 (a b:Ck):([(.agg [(.int .i64 a.len),(.data (ints a.cuts)),(.data (ints a.dens))]),(.agg [(.int .i64 b.len),(.data (ints b.cuts)),(.data (ints b.dens))])]:List PV)=cks [a,b]:=rfl
theorem Kn.fin2 (k:Kn a b):finC [a,b]:=fun i hi=>by
 match i,hi with
 | 0,_=>exact k.ha.fin
 | 1,_=>exact k.hb.fin
theorem yBB (k:Kn a b) {x:Rat} (h0:0≤x) (h1:x≤(a.len:Rat)) {y:Rat} (e:mrkC a.cuts a.dens x (hlf a)=.ok y):isY a x y∧x≤y:=by
 have hp:=yx3 k.ha
 obtain ⟨m1,m2,m3,_,_⟩:=yF5 k.ha h0 h1 (Rat.le_of_lt hp) e
 exact ⟨⟨h0,Rat.le_trans h0 m2,m3,m1⟩,m2⟩
theorem ynX (k:Kn a b) {x:Rat} (hx:small x) (h0:0≤x) (h1:x≤(a.len:Rat)) (K:Int→Int→Int→Prop):yaB a.len (ints a.cuts) (ints a.dens) b.len (ints b.cuts) (ints b.dens) x.num x.den K=exK (gpE a b x) K:=by
 obtain ⟨f1,f2⟩:=k.hb.fin
 unfold yaB ynk
 rw [yF9,ypI k.fin2 (by simp),show deskE [a,b] (List.length ([]:List PV))=0 from k.dk.err (by simp),cnF rfl,yjV k.ha hx h0 h1]
 unfold gpE
 cases e:mrkC a.cuts a.dens x (hlf a) with
 | error x' =>
   dsimp only
   rw [ypm,ypm,cnT (by
     unfold mrkC at e
     split at e
     · cases e
     · exact ypn _ _ _ _ _ e)]
 | ok y =>
   have hy:=yrX hx e
   obtain ⟨hY,hxy⟩:=yBB k h0 h1 e
   have hyl:y≤(b.len:Rat):=by rw [k.len];exact hY.2.2.1
   dsimp only
   rw [ydp,cnF rfl,yzO f1 f2 hx.i1 hx.i2 hy.i1 hy.i2,ywb k.hb hx h0 hy hxy hyl]
   cases e2:valC b.cuts b.dens x y with
   | error x' =>
     dsimp only
     rw [ypm,ypm,cnT (by have:=ytM _ _ _ _ _ e2;omega)]
   | ok v =>
     have hv:small v:=yx2 b.cuts b.dens _ _ _ _ _ _ (by decide) e2
     dsimp only
     rw [ydp,cnF rfl,ytF k.hb ⟨by omega,by omega⟩]
     show yah v.num v.den (hlf b).num (hlf b).den (fun x y z=>K x y z)=_
     rw [ylx hv (ypJ k.hb),ybV]
     by_cases hs:small (v-hlf b)
     · rw [if_pos hs,if_pos hs];rfl
     · rw [if_neg hs,if_neg hs];rfl
theorem yG6 (k:Kn a b) {m:Int} (m0:0≤m) (m1:m≤a.len) {z:Rat} (hv:0<a.V (m:Rat)-a.V 0-hlf a) (e:mrkC a.cuts a.dens 0 (a.V (m:Rat)-a.V 0-hlf a)=.ok z) (hs:small (a.V (m:Rat)-a.V 0-hlf a)) (K:Int→Int→Prop) :
   yaG a.len (ints a.cuts) (ints a.dens) (m:Rat).num (m:Rat).den K=K z.num z.den:=by
 obtain ⟨f1,f2⟩:=k.ha.fin
 have hl:=k.ha.len0
 have sm:small (m:Rat):=yfX (by omega)
 have s0:small (0:Rat):=by decide
 have r0:(0:Rat)≤(m:Rat):=Rat.intCast_nonneg.2 m0
 have r1:(m:Rat)≤(a.len:Rat):=Rat.intCast_le_intCast.2 m1
 have eV:valC a.cuts a.dens 0 (m:Rat)=.ok (a.V (m:Rat)-a.V 0):=yuJ k.ha (D:=1) ⟨by omega,by omega⟩ (In.int (by omega) 0) (In.int (by omega) m) Rat.le_refl r0 r1
 have sV:small (a.V (m:Rat)-a.V 0):=yx2 a.cuts a.dens _ _ _ _ _ _ (by decide) eV
 unfold yaG ykI
 rw [ymV]
 show yct a.len (ints a.cuts) (ints a.dens) (0:Rat).num (0:Rat).den _ _ _=_
 rw [yzO f1 f2 s0.i1 s0.i2 sm.i1 sm.i2,ywb k.ha s0 Rat.le_refl sm r0 r1,eV,ydp,ytF k.ha ⟨by omega,by omega⟩]
 show yah _ _ (hlf a).num (hlf a).den _=_
 rw [ylx sV (ypJ k.ha),ybV,if_pos hs,ymV]
 show ybP a.len (ints a.cuts) (ints a.dens) (0:Rat).num (0:Rat).den _ _ _=_
 rw [yxU f1 f2 s0.i1 s0.i2 hs.i1 hs.i2,yF8 k.ha s0 Rat.le_refl (by grind) hs (Rat.le_of_lt hv),e,ydp]
end
end Go.Pf.Vc
namespace Go.Pf.Vc
open Go Go.Pf
theorem In.mul {D E:Int} {q r:Rat} (hD:1≤D) (hE:1≤E) (h:In D q) (k:In E r):In (D*E) (q*r):=by
 obtain ⟨n,rfl⟩:=h
 obtain ⟨m,rfl⟩:=k
 have h1:=rne hD
 have h2:=rne hE
 exact ⟨n*m,by rw [Rat.intCast_mul,Rat.intCast_mul];grind⟩
theorem In.lcm {d:Int} {q:Rat} (hd:1≤d∧d≤12) (h:In (2*d) q):In 55440 q:=by
 have key:∀ k:Int,1≤k→55440=k*(2*d)→In 55440 q:=fun k hk e=>by rw [e];exact h.up (by omega) hk
 have:d=1∨d=2∨d=3∨d=4∨d=5∨d=6∨d=7∨d=8∨d=9∨d=10∨d=11∨d=12:=by omega
 rcases this with e | e | e | e | e | e | e | e | e | e | e | e
 · exact key 27720 (by omega) (by omega)
 · exact key 13860 (by omega) (by omega)
 · exact key 9240 (by omega) (by omega)
 · exact key 6930 (by omega) (by omega)
 · exact key 5544 (by omega) (by omega)
 · exact key 4620 (by omega) (by omega)
 · exact key 3960 (by omega) (by omega)
 · exact key 3465 (by omega) (by omega)
 · exact key 3080 (by omega) (by omega)
 · exact key 2772 (by omega) (by omega)
 · exact key 2520 (by omega) (by omega)
 · exact key 2310 (by omega) (by omega)
theorem ykZ {c:Ck} (d:Int) (hd:1≤d):In (2*d) (hlf c):=by
 have:In 2 (hlf c):=⟨totC c.cuts c.dens,by rw [yBw];rfl⟩
 have:=this.up (by omega) hd
 rwa [Int.mul_comm d 2] at this
theorem V_bnd {c:Ck} (h:VC c.len c.cuts c.dens) {x y:Rat} (x0:0≤x) (hxy:x≤y) (y1:y≤(c.len:Rat)):0≤c.V y-c.V x∧c.V y-c.V x≤12000:=by
 have a:=yeG h hxy
 have b:=yeG h x0
 have d:=yeG h y1
 have t:=yIp h
 have tb:=ykW h
 have tb2:((totC c.cuts c.dens:Int):Rat)≤12000:=Rat.intCast_le_intCast.2 tb.2
 unfold Ck.V
 grind
theorem ypM {c:Ck} (h:VC c.len c.cuts c.dens):0<hlf c∧hlf c≤6000:=by
 have tb:=ykW h
 have tb2:((totC c.cuts c.dens:Int):Rat)≤12000:=Rat.intCast_le_intCast.2 tb.2
 have:=yBw c
 exact ⟨yx3 h,by grind⟩
structure Bend (a:Ck) (x y:Rat):Prop where
 yy:isY a x y
 hx:x≤(a.len:Rat)
 fr:∃ d:Int,(1≤d∧d≤12)∧In (2*d) x∧In (2*d) y
structure Look (a b:Ck) (x y:Rat):Prop where
 yy:isY a x y
 hx:x≤(a.len:Rat)
 sx:small x
 sy:small y
 mrk:mrkC a.cuts a.dens x (hlf a)=.ok y
 va:valC a.cuts a.dens x y=.ok (a.V y-a.V x)
 vb:valC b.cuts b.dens x y=.ok (b.V y-b.V x)
 gp:gpE a b x=.ok (gapR b x y)
 sg:small (gapR b x y)
section
variable {a b:Ck}
theorem ywc (k:Kn a b) {D:Int} (hD:1≤D∧D≤1000000000000) {x:Rat} (hx:In D x) (hh:In D (hlf a)) (hhb:In D (hlf b)) (x0:0≤x) (x1:x≤(a.len:Rat)) (hv:a.V x+hlf a≤a.V (a.len:Rat)) :
   ∃ y d,Look a b x y∧(1≤d∧d≤12)∧In (d*D) y:=by
 have hp:=ypM k.ha
 have hpb:=ypM k.hb
 have hl:=ynW k.ha
 obtain ⟨q,d,e,hd,hq⟩:=(yuL k.ha k.fa x0 x1 hp.1 (by unfold Ck.V at hv;grind)).2 D hD.1 hD.2 hx hh (by grind)
 obtain ⟨hY,hxq⟩:=yBB k x0 x1 e
 have hDD:d*D≤12*D:=Int.mul_le_mul_of_nonneg_right hd.2 (by omega)
 have hDD1:1*1≤d*D:=Int.mul_le_mul hd.1 hD.1 (by omega) (by omega)
 have lb:(b.len:Rat)=(a.len:Rat):=by rw [k.len]
 have hx':=hx.up hD.1 hd.1
 have va:=yuJ k.ha (D:=d*D) ⟨by omega,by omega⟩ hx' hq x0 hxq hY.2.2.1
 have vb:=yuJ k.hb (D:=d*D) ⟨by omega,by omega⟩ hx' hq x0 hxq (by rw [lb];exact hY.2.2.1)
 have bb:=V_bnd k.hb x0 hxq (by rw [lb];exact hY.2.2.1)
 have ig:In (d*D) (gapR b x q):=((vX_In (by omega) hq).sub (vX_In (by omega) hx')).sub (hhb.up hD.1 hd.1)
 have sg:small (gapR b x q):=ig.small (M:=12000) ⟨by omega,by omega⟩ (by omega) (by unfold gapR;show -(12000:Rat)≤_;grind) (by unfold gapR;show _≤(12000:Rat);grind)
 have sx:small x:=hx.small (M:=1000) ⟨by omega,by omega⟩ (by omega) (by show -(1000:Rat)≤_;grind) (by show _≤(1000:Rat);grind)
 refine ⟨q,d,⟨hY,x1,sx,yrX sx e,e,va,vb,?_,sg⟩,hd,hq⟩
 unfold gpE
 rw [e]
 dsimp only
 rw [vb]
 dsimp only
 exact if_pos sg
theorem yzW (k:Kn a b) {x y:Rat} (h:Bend a x y):Look a b x y:=by
 obtain ⟨d,hd,i1,i2⟩:=h.fr
 have hv:a.V x+hlf a≤a.V (a.len:Rat):=by
   rw [← h.yy.2.2.2]
   exact yeG k.ha h.yy.2.2.1
 obtain ⟨q,e,L,_,_⟩:=ywc k (D:=2*d) ⟨by omega,by omega⟩ i1 (ykZ d hd.1) (ykZ d hd.1) h.yy.1 h.hx hv
 have:q=y:=yFl k.ha k.fa L.yy.2.1 L.yy.2.2.1 h.yy.2.1 h.yy.2.2.1 (L.yy.2.2.2.trans h.yy.2.2.2.symm)
 rw [← this]
 exact L
theorem yG7 (k:Kn a b):∃ y,Bend a 0 y:=by
 have hl:=ynW k.ha
 have ht:=yBA k.ha
 have hp:=ypM k.ha
 obtain ⟨q,e,L,he,hq⟩:=ywc k (D:=2*1) ⟨by omega,by omega⟩ (In.int (by omega) 0) (ykZ 1 (by omega)) (ykZ 1 (by omega)) Rat.le_refl (by grind) (by show a.V 0+_≤_;grind)
 refine ⟨q,L.yy,L.hx,e,he,In.int (by omega) 0,?_⟩
 rw [show (2:Int)*e=e*(2*1) by omega]
 exact hq
theorem yG8 (k:Kn a b) {x y:Rat} (h:Bend a x y) (hy:y<(a.len:Rat)) :
   ∃ (m:Int) (z t w:Rat),(0≤m∧m≤a.len)∧(m:Rat)=mnQ (nxt a y:Int) (nxt b y:Int)∧0<a.V (m:Rat)-a.V 0-hlf a∧small (a.V (m:Rat)-a.V 0-hlf a)∧mrkC a.cuts a.dens 0 (a.V (m:Rat)-a.V 0-hlf a)=.ok z∧small z ∧
     t=mnQ (mnQ (nxt a x:Int) (nxt b x:Int)) z∧Bend a t w∧x<t∧noCut a x t∧noCut b x t∧noCut a y w∧noCut b y w:=by
 have lb:(b.len:Rat)=(a.len:Rat):=by rw [k.len]
 have hl:=ynW k.ha
 have hp:=ypM k.ha
 have hxy:=isY_x k h.yy h.hx
 have hxl:x<(a.len:Rat):=by grind
 obtain ⟨n1,n2,n3⟩:=yx4 k.ha hxl
 obtain ⟨n4,n5,n6⟩:=yx4 k.hb (x:=x) (by rw [lb];exact hxl)
 obtain ⟨m1,m2,m3⟩:=yx4 k.ha hy
 obtain ⟨m4,m5,m6⟩:=yx4 k.hb (x:=y) (by rw [lb];exact hy)
 rw [k.len] at n5 m5
 have hm:∃ m:Int,(m:Rat)=mnQ (nxt a y:Int) (nxt b y:Int)∧y<(m:Rat)∧m≤a.len∧(m:Rat)≤(nxt a y:Int)∧(m:Rat)≤(nxt b y:Int):=by
   unfold mnQ
   by_cases hc:((nxt a y:Int):Rat)<((nxt b y:Int):Rat)
   · exact ⟨nxt a y,(if_pos hc).symm,m1,m2,Rat.le_refl,Rat.le_of_lt hc⟩
   · exact ⟨nxt b y,(if_neg hc).symm,m4,m5,Rat.not_lt.1 hc,Rat.le_refl⟩
 obtain ⟨m,em,my,ml,ma,mb⟩:=hm
 have ht1:∃ t1:Int,(t1:Rat)=mnQ (nxt a x:Int) (nxt b x:Int)∧x<(t1:Rat)∧t1≤a.len∧(t1:Rat)≤(nxt a x:Int)∧(t1:Rat)≤(nxt b x:Int):=by
   unfold mnQ
   by_cases hc:((nxt a x:Int):Rat)<((nxt b x:Int):Rat)
   · exact ⟨nxt a x,(if_pos hc).symm,n1,n2,Rat.le_refl,Rat.le_of_lt hc⟩
   · exact ⟨nxt b x,(if_neg hc).symm,n4,n5,Rat.not_lt.1 hc,Rat.le_refl⟩
 obtain ⟨t1,et,tx,tl,ta,tb⟩:=ht1
 have mr:(m:Rat)≤(a.len:Rat):=Rat.intCast_le_intCast.2 ml
 have m0:(0:Rat)<(m:Rat):=by have:=h.yy.2.1;grind
 have m0':0≤m:=by have:=Rat.intCast_pos.1 m0;omega
 have v1:=vX_lt k.ha k.fa h.yy.2.1 my mr
 have v2:=yeG k.ha h.yy.1
 have v3:=h.yy.2.2.2
 have v4:=yeG k.ha mr
 have hv0:0<a.V (m:Rat)-a.V 0-hlf a:=by unfold Ck.V at *;grind
 have bm:=V_bnd k.ha Rat.le_refl (Rat.le_of_lt m0) mr
 have im:In 2 (a.V (m:Rat)-a.V 0-hlf a):=((vX_In (by omega) (In.int (by omega) m)).sub (vX_In (by omega) (In.int (by omega) 0))).sub (ykZ (c:=a) 1 (by omega))
 have sv:small (a.V (m:Rat)-a.V 0-hlf a):=im.small (M:=12000) ⟨by omega,by omega⟩ (by omega) (by show -(12000:Rat)≤_;grind) (by show _≤(12000:Rat);grind)
 obtain ⟨z,e,ez,he,iz⟩:=(yuL k.ha k.fa (p:=0) Rat.le_refl (by grind) hv0 (by unfold Ck.V at *;grind)).2 2 (by omega) (by omega) (In.int (by omega) 0) im (by grind)
 obtain ⟨z1,z2,z3,_,_⟩:=yF5 k.ha (a:=0) Rat.le_refl (by grind) (Rat.le_of_lt hv0) ez
 have hzY:isY a z (m:Rat):=⟨z2,Rat.le_of_lt m0,mr,by unfold Ck.V at *;grind⟩
 have hxz:x<z:=by
   refine Rat.not_le.1 fun c=>?_
   have:=yeG k.ha c
   unfold Ck.V at *
   grind
 have sz:small z:=yrX (by decide) ez
 have hends:∀ t w:Rat,Bend a t w→t≤(t1:Rat)→t≤z→noCut a x t∧noCut b x t∧noCut a y w∧noCut b y w:=by
   intro t w hB h1 h2
   have hw:w≤(m:Rat):=yFm k hB.yy hzY (by grind) h2
   exact ⟨fun j hj ⟨c1,c2⟩=>n3 j hj ⟨c1,by grind⟩,fun j hj ⟨c1,c2⟩=>n6 j hj ⟨c1,by grind⟩,fun j hj ⟨c1,c2⟩=>m3 j hj ⟨c1,by grind⟩,fun j hj ⟨c1,c2⟩=>m6 j hj ⟨c1,by grind⟩⟩
 by_cases hc:(t1:Rat)<z
 · have hv:a.V (t1:Rat)+hlf a≤a.V (a.len:Rat):=by
     have c1:=yeG k.ha (Rat.le_of_lt hc)
     have c2:=hzY.2.2.2
     unfold Ck.V at *
     grind
   obtain ⟨q,f,L,hf,hq⟩:=ywc k (D:=2*1) ⟨by omega,by omega⟩ (In.int (by omega) t1) (ykZ 1 (by omega)) (ykZ 1 (by omega)) (by have:=h.yy.1;grind) (Rat.intCast_le_intCast.2 tl) hv
   have hB:Bend a (t1:Rat) q:=⟨L.yy,L.hx,f,hf,In.int (by omega) t1,by rw [show (2:Int)*f=f*(2*1) by omega];exact hq⟩
   obtain ⟨g1,g2,g3,g4⟩:=hends _ _ hB Rat.le_refl (Rat.le_of_lt hc)
   refine ⟨m,z,(t1:Rat),q,⟨m0',ml⟩,em,hv0,sv,ez,sz,?_,hB,tx,g1,g2,g3,g4⟩
   rw [← et]
   unfold mnQ
   rw [if_pos hc]
 · have hB:Bend a z (m:Rat):=⟨hzY,z3,e,he,by rw [show (2:Int)*e=e*2 by omega];exact iz,In.int (by omega) m⟩
   obtain ⟨g1,g2,g3,g4⟩:=hends _ _ hB (Rat.not_lt.1 hc) Rat.le_refl
   refine ⟨m,z,z,(m:Rat),⟨m0',ml⟩,em,hv0,sv,ez,sz,?_,hB,hxz,g1,g2,g3,g4⟩
   rw [← et]
   unfold mnQ
   rw [if_neg hc]
theorem yG9 (k:Kn a b) {x y t w:Rat} (h:Bend a x y) (h':Bend a t w) (hxt:x<t) (hn:(0<gapR b x y∧gapR b t w<0)∨(gapR b x y<0∧0<gapR b t w)) (hz1:x<x+(t-x)*(gapR b x y / (gapR b x y-gapR b t w))) (hz2:x+(t-x)*(gapR b x y / (gapR b x y-gapR b t w))<t) :
   small (gapR b x y-gapR b t w)∧small (gapR b x y / (gapR b x y-gapR b t w))∧small (t-x)∧small ((t-x)*(gapR b x y / (gapR b x y-gapR b t w)))∧∃ v,Look a b (x+(t-x)*(gapR b x y / (gapR b x y-gapR b t w))) v:=by
 obtain ⟨d1,hd1,i1,j1⟩:=h.fr
 obtain ⟨d2,hd2,i2,j2⟩:=h'.fr
 have lb:(b.len:Rat)=(a.len:Rat):=by rw [k.len]
 have hl:=ynW k.ha
 have hpb:=ypM k.hb
 have hxy:=isY_x k h.yy h.hx
 have htw:=isY_x k h'.yy h'.hx
 have b1:=V_bnd k.hb h.yy.1 (Rat.le_of_lt hxy) (by rw [lb];exact h.yy.2.2.1)
 have b2:=V_bnd k.hb h'.yy.1 (Rat.le_of_lt htw) (by rw [lb];exact h'.yy.2.2.1)
 have G1:-(12000:Rat)≤gapR b x y∧gapR b x y≤12000:=by unfold gapR;grind
 have G2:-(12000:Rat)≤gapR b t w∧gapR b t w≤12000:=by unfold gapR;grind
 have g1:In (2*d1) (gapR b x y):=((vX_In (by omega) j1).sub (vX_In (by omega) i1)).sub (ykZ d1 hd1.1)
 have g2:In (2*d2) (gapR b t w):=((vX_In (by omega) j2).sub (vX_In (by omega) i2)).sub (ykZ d2 hd2.1)
 have hx0:=h.yy.1
 have hxl:=h.hx
 have ht0:=h'.yy.1
 have htl:=h'.hx
 have hvt:a.V t+hlf a≤a.V (a.len:Rat):=by rw [← h'.yy.2.2.2];exact yeG k.ha h'.yy.2.2.1
 generalize hX:x+(t-x)*(gapR b x y / (gapR b x y-gapR b t w))=X at *
 generalize gapR b x y=g at *
 generalize gapR b t w=g' at *
 have c1:(1:Int)≤d1*d2:=by have:=Int.mul_le_mul hd1.1 hd2.1 (by omega) (by omega);omega
 have c2:d1*d2≤144:=by have:=Int.mul_le_mul hd1.2 hd2.2 (by omega) (by omega);omega
 have u1:In (2*(d1*d2)) g:=by have:=g1.up (by omega) hd2.1;rwa [show d2*(2*d1)=2*(d1*d2) by rw [Int.mul_left_comm,Int.mul_comm d2 d1]] at this
 have u2:In (2*(d1*d2)) g':=by have:=g2.up (by omega) hd1.1;rwa [show d1*(2*d2)=2*(d1*d2) by rw [Int.mul_left_comm]] at this
 have u3:In (2*(d1*d2)) x:=by have:=i1.up (by omega) hd2.1;rwa [show d2*(2*d1)=2*(d1*d2) by rw [Int.mul_left_comm,Int.mul_comm d2 d1]] at this
 have u4:In (2*(d1*d2)) t:=by have:=i2.up (by omega) hd1.1;rwa [show d1*(2*d2)=2*(d1*d2) by rw [Int.mul_left_comm]] at this
 have hh:In (2*(d1*d2)) (hlf a):=ykZ _ c1
 have hhb:In (2*(d1*d2)) (hlf b):=ykZ _ c1
 generalize hE:2*(d1*d2)=E at *
 have E1:1≤E:=by omega
 have E2:E≤288:=by omega
 have ir:=u1.sub u2
 have s1:small (g-g'):=ir.small (M:=24000) ⟨by omega,by omega⟩ (by omega) (by show -(24000:Rat)≤_;grind) (by show _≤(24000:Rat);grind)
 have s3:small (t-x):=(u4.sub u3).small (M:=1000) ⟨by omega,by omega⟩ (by omega) (by show -(1000:Rat)≤_;grind) (by show _≤(1000:Rat);grind)
 have hK:∃ R:Int,(1≤R∧R≤6912000)∧In R (g / (g-g')):=by
   obtain ⟨n,en⟩:=u1
   obtain ⟨n',en'⟩:=u2
   have hEp:(0:Rat)<(E:Rat):=Rat.intCast_pos.2 (by omega)
   have eE:=rne E1
   have e1:g*(E:Rat)=(n:Rat):=by rw [en];exact Rat.div_mul_cancel eE
   have e2:g'*(E:Rat)=(n':Rat):=by rw [en'];exact Rat.div_mul_cancel eE
   have hEr:(E:Rat)≤288:=Rat.intCast_le_intCast.2 E2
   have hne:g-g'≠0:=by grind
   have ek:g / (g-g')=(n:Rat) / ((n-n':Int):Rat):=by
     rw [Rat.intCast_sub,← e1,← e2]
     have:g*(E:Rat)-g'*(E:Rat)=(g-g')*(E:Rat):=by grind
     rw [this]
     grind
   have bg:(n:Rat)-(n':Rat)=(g-g')*(E:Rat):=by grind
   rcases hn with ⟨p1,p2⟩ | ⟨p1,p2⟩
   · refine ⟨n-n',⟨?_,?_⟩,n,ek⟩
     · have:(0:Rat)<((n-n':Int):Rat):=by rw [Rat.intCast_sub,bg];exact Rat.mul_pos (by grind) hEp
       have:=Rat.intCast_pos.1 this
       omega
     · have h1:=Rat.mul_le_mul_of_nonneg_right (show g-g'≤24000 by grind) (Rat.le_of_lt hEp)
       have h2:((n-n':Int):Rat)≤((6912000:Int):Rat):=by rw [Rat.intCast_sub,bg];show _≤(6912000:Rat);grind
       exact Rat.intCast_le_intCast.1 h2
   · refine ⟨n'-n,⟨?_,?_⟩,-n,?_⟩
     · have:(0:Rat)<((n'-n:Int):Rat):=by
         rw [Rat.intCast_sub]
         have:=Rat.mul_pos (show 0<g'-g by grind) hEp
         grind
       have:=Rat.intCast_pos.1 this
       omega
     · have h1:=Rat.mul_le_mul_of_nonneg_right (show g'-g≤24000 by grind) (Rat.le_of_lt hEp)
       have h2:((n'-n:Int):Rat)≤((6912000:Int):Rat):=by rw [Rat.intCast_sub];show _≤(6912000:Rat);grind
       exact Rat.intCast_le_intCast.1 h2
     · rw [ek,Rat.intCast_sub,Rat.intCast_neg,Rat.intCast_sub]
       grind
 obtain ⟨R,hR,iK⟩:=hK
 have hd0:0<t-x:=by grind
 have kb:0≤g / (g-g')∧g / (g-g')≤1:=by
   constructor
   · refine Rat.not_lt.1 fun c=>?_
     have:=Rat.mul_lt_mul_of_pos_left c hd0
     grind
   · refine Rat.not_lt.1 fun c=>?_
     have:=Rat.mul_lt_mul_of_pos_left c hd0
     grind
 have s2:small (g / (g-g')):=iK.small (M:=1) ⟨by omega,by omega⟩ (by omega) (by show -(1:Rat)≤_;grind) (by show _≤(1:Rat);grind)
 have is:=(u4.sub u3).mul E1 hR.1 iK
 have ER1:1*1≤E*R:=Int.mul_le_mul E1 hR.1 (by omega) (by omega)
 have ER2:E*R≤288*6912000:=Int.mul_le_mul E2 hR.2 (by omega) (by omega)
 have s4:small ((t-x)*(g / (g-g'))):=is.small (M:=1000) ⟨by omega,by omega⟩ (by omega) (by show -(1000:Rat)≤_;grind) (by show _≤(1000:Rat);grind)
 have iX:In (E*R) X:=by
   rw [← hX]
   have:=u3.up E1 hR.1
   rw [Int.mul_comm R E] at this
   exact this.add is
 have upR:∀ {q:Rat},In E q→In (E*R) q:=fun hq=>by
   have:=hq.up E1 hR.1
   rwa [Int.mul_comm R E] at this
 obtain ⟨v,_,L,_,_⟩:=ywc k (D:=E*R) ⟨by omega,by omega⟩ iX (upR hh) (upR hhb) (by grind) (by grind) (by
   have:=yeG k.ha (Rat.le_of_lt hz2)
   unfold Ck.V at *
   grind)
 exact ⟨s1,s2,s3,s4,v,L⟩
end
end Go.Pf.Vc
namespace Go.Pf.Vc
open Go Go.Pf
theorem yvv (q:Rat):q.num>0↔0<q:=by
 have h1:=Rat.num_nonneg (q:=q)
 have h2:=Rat.num_eq_zero (q:=q)
 constructor
 · intro h
   have:0≤q:=h1.1 (by omega)
   have:q≠0:=fun e=>by have:=h2.2 e;omega
   grind
 · intro h
   have a:0≤q.num:=h1.2 (Rat.le_of_lt h)
   have b:q.num≠0:=fun e=>by have:=h2.1 e;grind
   omega
theorem yvw (q:Rat):q.num<0↔q<0:=by
 have h1:=Rat.num_nonneg (q:=q)
 constructor
 · intro h
   refine Rat.not_le.1 fun c=>?_
   have:=h1.2 c
   omega
 · intro h
   refine Int.not_le.1 fun c=>?_
   have:=h1.1 c
   grind
def NoZ (a b:Ck) (x:Rat):Prop:=∀ p q,0≤p→p<x→isY a p q→gapR b p q≠0
structure HalfAt (a b:Ck) (x y:Rat):Prop where
 look:Look a b x y
 gap:gapR b x y=0
 noz:NoZ a b x
section
variable {a b:Ck}
theorem yIu (k:Kn a b) {y0 x y:Rat} (h0:Bend a 0 y0) (h:Bend a x y) (hs:sameS (gapR b 0 y0) (gapR b x y)):y<(a.len:Rat):=by
 refine Rat.not_le.1 fun c=>?_
 have ey:y=(a.len:Rat):=by have:=h.yy.2.2.1;grind
 have lb:(b.len:Rat)=(a.len:Rat):=by rw [k.len]
 have ta:=yBA k.ha
 have tb:=yBA k.hb
 have e1:=h.yy.2.2.2
 have e2:=h0.yy.2.2.2
 rw [ey] at e1
 have hx:x=y0:=yFl k.ha k.fa h.yy.1 h.hx h0.yy.2.1 h0.yy.2.2.1 (by unfold Ck.V at *;grind)
 subst ey
 subst hx
 rw [lb] at tb
 unfold sameS gapR at hs
 unfold Ck.V at *
 grind
theorem yHa (k:Kn a b) {y0:Rat} (h0:Bend a 0 y0):∀ (N:Nat) (i:Int) (x y:Rat),x=(i:Rat) / ((55440:Int):Rat)→55440000-i<N→Bend a x y→(gapR b x y=0∨sameS (gapR b 0 y0) (gapR b x y))→NoZ a b x →
   ∃ xs ys,HalfAt a b xs ys∧∀ (x0:List PV→Int→Int→Int→Int→Int→Prop) (l0:List PV) (i7 i8 i9 i10:Int) (n:Nat),N+2≤n →
     yaM yav yae yan yaB yaF yax yaG yah yar yak yaj x0 n l0 a.len (ints a.cuts) (ints a.dens) b.len (ints b.cuts) (ints b.dens) i7 i8 i9 i10 x.num x.den=x0 l0 xs.num xs.den ys.num ys.den 0:=by
 intro N
 induction N with
 | zero =>
   intro i x y hx hi hB _ _
   have hl:=ynW k.ha
   have hxy:=isY_x k hB.yy hB.hx
   have:=hB.yy.2.2.1
   have e:x*((55440:Int):Rat)=(i:Rat):=by rw [hx];exact Rat.div_mul_cancel (rne (by omega))
   have h1:=Rat.mul_lt_mul_of_pos_right (show x<1000 by grind) (show (0:Rat)<((55440:Int):Rat) by decide)
   have h2:(i:Rat)<((55440000:Int):Rat):=by
     rw [← e]
     have h3:(1000:Rat)*((55440:Int):Rat)=((55440000:Int):Rat):=by decide +kernel
     rw [← h3]
     exact h1
   have:=Rat.intCast_lt_intCast.1 h2
   omega
 | succ N ih =>
   intro i x y hx hi hB hs hz
   have L:=yzW k hB
   by_cases hg:gapR b x y=0
   · refine ⟨x,y,⟨L,hg,hz⟩,fun x0 l0 i7 i8 i9 i10 n hn=>?_⟩
     obtain ⟨n,rfl⟩:∃ m,n=m+1:=⟨n-1,by omega⟩
     rw [yaM,yjV k.ha L.sx L.yy.1 L.hx,L.mrk,ydp,ynX k L.sx L.yy.1 L.hx,L.gp,ydp,ceT (Rat.num_eq_zero.2 hg)]
   have hs':sameS (gapR b 0 y0) (gapR b x y):=hs.resolve_left hg
   have hy:=yIu k h0 hB hs'
   obtain ⟨m,z,t,w,⟨m0,m1⟩,em,hv0,sv,ez,sz,et,hT,hxt,c1,c2,c3,c4⟩:=yG8 k hB hy
   have LT:=yzW k hT
   obtain ⟨s,hlin⟩:=yJu k hB.yy hT.yy hxt hT.hx c1 c2 c3 c4
   have eg:=hlin t w (Rat.le_of_lt hxt) Rat.le_refl hT.yy
   have hxl:x<(a.len:Rat):=by have:=hT.hx;grind
   have lb:(b.len:Rat)=(a.len:Rat):=by rw [k.len]
   obtain ⟨q1,q2⟩:=ypL k.ha hB.yy.1 hxl
   obtain ⟨q3,q4⟩:=ypL k.hb hB.yy.1 (by rw [lb];exact hxl)
   obtain ⟨q5,q6⟩:=ypL k.ha hB.yy.2.1 hy
   obtain ⟨q7,q8⟩:=ypL k.hb hB.yy.2.1 (by rw [lb];exact hy)
   have s1:small ((nxt a x:Int):Rat):=yfX (by omega)
   have s2:small ((nxt b x:Int):Rat):=yfX (by omega)
   have s3:small ((nxt a y:Int):Rat):=yfX (by omega)
   have s4:small ((nxt b y:Int):Rat):=yfX (by omega)
   have round:∀ (x0:List PV→Int→Int→Int→Int→Int→Prop) (l0:List PV) (i7 i8 i9 i10:Int) (n:Nat),
       yaM yav yae yan yaB yaF yax yaG yah yar yak yaj x0 (n+1) l0 a.len (ints a.cuts) (ints a.dens) b.len (ints b.cuts) (ints b.dens) i7 i8 i9 i10 x.num x.den =
       cbr (decide ((0<gapR b x y∧gapR b t w<0)∨(gapR b x y<0∧0<gapR b t w)))
         (yah (gapR b x y).num (gapR b x y).den (gapR b t w).num (gapR b t w).den fun r1 r2 _ =>
           yar (gapR b x y).num (gapR b x y).den r1 r2 fun k1 k2 _ =>
             yah t.num t.den x.num x.den fun l1 l2 _ =>
               yak l1 l2 k1 k2 fun p1 p2 _ =>
                 yaj x.num x.den p1 p2 fun z1 z2 _ =>
                   yaM yav yae yan yaB yaF yax yaG yah yar yak yaj x0 n l0 a.len (ints a.cuts) (ints a.dens) b.len (ints b.cuts) (ints b.dens) i7 i8 i9 i10 z1 z2)
         (yaM yav yae yan yaB yaF yax yaG yah yar yak yaj x0 n l0 a.len (ints a.cuts) (ints a.dens) b.len (ints b.cuts) (ints b.dens) i7 i8 i9 i10 t.num t.den):=by
     intro x0 l0 i7 i8 i9 i10 n
     have hgn:¬(gapR b x y).num=0:=fun e=>hg (Rat.num_eq_zero.1 e)
     rw [yaM,yjV k.ha L.sx L.yy.1 L.hx,L.mrk,ydp,ynX k L.sx L.yy.1 L.hx,L.gp,ydp,ceF hgn,ytN k.ha L.sx,ytN k.hb L.sx,yrY s1 s2,ytN k.ha L.sy,ytN k.hb L.sy,yrY s3 s4,← em,yG6 k m0 m1 hv0 ez sv,yrY (yDm s1 s2) sz,← et,ynX k LT.sx LT.yy.1 LT.hx,LT.gp,ydp]
     dsimp only [Go.Pf.jn]
     have p1:=yvv (gapR b x y)
     have p2:=yvw (gapR b x y)
     have p3:=yvv (gapR b t w)
     have p4:=yvw (gapR b t w)
     by_cases u1:0<gapR b x y
     · rw [cbT (p1.2 u1)]
       by_cases u2:gapR b t w<0
       · rw [cbT (p4.2 u2),yac,decide_eq_true (.inl ⟨u1,u2⟩),yac]
       · rw [cbF (fun c=>u2 (p4.1 c)),cbF (fun c=>by have:=p2.1 c;grind),yaa,decide_eq_false (by grind),yaa]
     · have u3:gapR b x y<0:=by grind
       rw [cbF (fun c=>u1 (p1.1 c)),cbT (p2.2 u3)]
       by_cases u4:0<gapR b t w
       · rw [decide_eq_true (p3.2 u4),yac,decide_eq_true (.inr ⟨u3,u4⟩),yac]
       · rw [decide_eq_false (fun c=>u4 (p3.1 c)),yaa,decide_eq_false (by grind),yaa]
   by_cases hn:(0<gapR b x y∧gapR b t w<0)∨(gapR b x y<0∧0<gapR b t w)
   · obtain ⟨t1,t2,t3,t4⟩:=yIs hxt eg hn
     obtain ⟨w1,w2,w3,w4,v,LX⟩:=yG9 k hB hT hxt hn t1 t2
     have hne:gapR b x y-gapR b t w≠0:=by grind
     have g0:=hlin _ v (Rat.le_of_lt t1) (Rat.le_of_lt t2) LX.yy
     rw [t3] at g0
     refine ⟨_,v,⟨LX,g0,fun p q p0 p1 hY=>?_⟩,fun x0 l0 i7 i8 i9 i10 n hn'=>?_⟩
     · by_cases hpx:p<x
       · exact hz p q p0 hpx hY
       · have:=hlin p q (Rat.not_lt.1 hpx) (by grind) hY
         rw [this]
         exact t4 p (Rat.not_lt.1 hpx) p1
     · obtain ⟨n,rfl⟩:∃ m,n=m+2:=⟨n-2,by omega⟩
       rw [round,decide_eq_true hn,yac,ylx L.sg LT.sg,ybV,if_pos w1,yFX L.sg w1 hne,ybV,if_pos w2,ylx LT.sx L.sx,ybV,if_pos w3,yv6 w3 w2,ybV,if_pos w4,yv7 L.sx w4,ybV,if_pos LX.sx]
       rw [yaM,yjV k.ha LX.sx LX.yy.1 LX.hx,LX.mrk,ydp,ynX k LX.sx LX.yy.1 LX.hx,LX.gp,ydp,ceT (Rat.num_eq_zero.2 g0)]
   · have hkeep:sameS (gapR b x y) (gapR b t w)∨(gapR b x y≠0∧gapR b t w=0):=by
       unfold sameS
       by_cases u:gapR b t w=0
       · exact .inr ⟨hg,u⟩
       · left;grind
     have hz':NoZ a b t:=fun p q p0 p1 hY=>by
       by_cases hpx:p<x
       · exact hz p q p0 hpx hY
       · have:=hlin p q (Rat.not_lt.1 hpx) (Rat.le_of_lt p1) hY
         rw [this]
         exact (yIr hxt eg hkeep (Rat.not_lt.1 hpx) p1).1
     have hs2:gapR b t w=0∨sameS (gapR b 0 y0) (gapR b t w):=by
       unfold sameS at *
       grind
     obtain ⟨d,hd,i1,_⟩:=hT.fr
     obtain ⟨j,ej⟩:=i1.lcm hd
     have hij:i<j:=by
       have hc:(0:Rat)<((55440:Int):Rat):=by decide
       have e1:x*((55440:Int):Rat)=(i:Rat):=by rw [hx];exact Rat.div_mul_cancel (rne (by omega))
       have e2:t*((55440:Int):Rat)=(j:Rat):=by rw [ej];exact Rat.div_mul_cancel (rne (by omega))
       have:=Rat.mul_lt_mul_of_pos_right hxt hc
       rw [e1,e2] at this
       exact Rat.intCast_lt_intCast.1 this
     obtain ⟨xs,ys,hH,hL⟩:=ih j t w ej (by omega) hT hs2 hz'
     refine ⟨xs,ys,hH,fun x0 l0 i7 i8 i9 i10 n hn'=>?_⟩
     obtain ⟨n,rfl⟩:∃ m,n=m+1:=⟨n-1,by omega⟩
     rw [round,decide_eq_false hn,yaa,hL x0 l0 i7 i8 i9 i10 n (by omega)]
theorem yDv {c:Ck} (h:VC c.len c.cuts c.dens) (hh:Hun c.dens) {w0:yaQ} {w1:yal} {w2:yaC} {w3:ya6} {w4:ycd} {w5:ybn} {w6:ybA} {w7:yas} {w8:ya5} {w9:yaA} {w10:yaz}
   {x0:List PV→Int→List PV→List PV→Int→List PV→List PV→Int→Int→Int→Int→Int→Int→List PV→Int→Int→Bool→Prop} {x1:List PV→Int→Int→Int→Int→Int→Prop} {l0 l2 l3 l5 l6:List PV} {i1 i4 i7 i8 i9 i10 i14 i15:Int} :
   ∀ (r i n:Nat),i+r=c.dens.length→r<n→ybS w0 w1 w2 w3 w4 w5 w6 w7 w8 w9 w10 x0 x1 n l0 i1 l2 l3 i4 l5 l6 i7 i8 i9 i10 i14 i15 (ints c.dens) (c.dens.length:Int) (i:Int)=x0 l0 i1 l2 l3 i4 l5 l6 i7 i8 i9 i10 i14 i15 (ints c.dens) (c.dens.length:Int) (c.dens.length:Int) false:=by
 have l1:=h.l1
 have l2':=h.l2
 intro r
 induction r with
 | zero =>
   intro i n hi hn
   obtain ⟨n,rfl⟩:∃ m,n=m+1:=⟨n-1,by omega⟩
   obtain rfl:i=c.dens.length:=by omega
   rw [ybS,cbF (by omega)]
 | succ r ih =>
   intro i n hi hn
   obtain ⟨n,rfl⟩:∃ m,n=m+1:=⟨n-1,by omega⟩
   have hil:i<c.dens.length:=by omega
   have:=hh i hil
   rw [ybS,cbT (by omega)]
   dsimp only [lt]
   rw [yat,asT (by omega),asT (by omega),Int.toNat_natCast,ypE hil,show ∀ P:Prop,asr (conf (.one (.i .i64)) (.int .i64 (c.dens.getD i 0))) P=P from fun _=>rfl,show intOfV (.int .i64 (c.dens.getD i 0))=c.dens.getD i 0 from rfl,ceF (by omega),cast1,wib (by omega) (by omega),asTT (by simp)]
   exact ih (i+1) n (by omega) (by omega)
end
end Go.Pf.Vc
namespace Go.Pf.Vc
open Go Go.Pf
section
variable {a b:Ck}
theorem yFn (k:Kn a b) {x0:List PV→Int→List PV→List PV→Int→List PV→List PV→Int→Int→Int→Int→Int→Int→Bool→Prop} {x1:List PV→Int→Int→Int→Int→Int→Prop}
   {i1 i4 i7 i8 i9 i10:Int} {l2 l3 l5 l6:List PV} (h:x0 (cks [a,b]) i1 l2 l3 i4 l5 l6 i7 i8 i9 i10 2 2 false) :
   ybr yav yae yan yaB yaF yax yaG yah yar yak yaj x0 x1 3 (cks [a,b]) i1 l2 l3 i4 l5 l6 i7 i8 i9 i10 2 0:=by
 have e0:(cks [a,b]).length=2:=rfl
 have g0:List.getD (cks [a,b]) (0+(0:Int).toNat) .nils=encC a:=rfl
 have g1:List.getD (cks [a,b]) (0+(1:Int).toNat) .nils=encC b:=rfl
 have w1:IntKind.i64.wrap ((0:Int)+1)=1:=by decide
 have w2:IntKind.i64.wrap ((1:Int)+1)=2:=by decide
 rw [ybr,cbT (by decide),e0]
 refine yad.2 ⟨by decide,yad.2 ⟨by decide,yad.2 ⟨by decide,yad.2 ⟨by decide,?_⟩⟩⟩⟩
 dsimp only [lt]
 rw [g0,asCk]
 refine yad.2 ⟨by decide,a.dens.length+1,?_⟩
 rw [ck2,yat]
 refine (yDv k.ha k.fa a.dens.length 0 (a.dens.length+1) (by omega) (by omega)).mpr ?_
 rw [e0,w1]
 refine yad.2 ⟨by decide,?_⟩
 rw [ybr,cbT (by decide),e0]
 refine yad.2 ⟨by decide,yad.2 ⟨by decide,yad.2 ⟨by decide,yad.2 ⟨by decide,?_⟩⟩⟩⟩
 dsimp only [lt]
 rw [g1,asCk]
 refine yad.2 ⟨by decide,b.dens.length+1,?_⟩
 rw [ck2,yat]
 refine (yDv k.hb k.fb b.dens.length 0 (b.dens.length+1) (by omega) (by omega)).mpr ?_
 rw [e0,w2]
 refine yad.2 ⟨by decide,?_⟩
 rw [ybr,cbF (by decide)]
 exact h
theorem yDw (k:Kn a b):∃ xs ys,HalfAt a b xs ys∧∀ K:Int→Int→Int→Int→Int→Prop,yc2 a.len (ints a.cuts) (ints a.dens) b.len (ints b.cuts) (ints b.dens) K=K xs.num xs.den ys.num ys.den 0:=by
 obtain ⟨y0,h0⟩:=yG7 k
 have hs:gapR b 0 y0=0∨sameS (gapR b 0 y0) (gapR b 0 y0):=by unfold sameS;grind
 obtain ⟨xs,ys,hH,hL⟩:=yHa k h0 55440001 0 0 y0 (by show (0:Rat)=(0:Rat) / _;grind) (by omega) h0 hs (fun p q p0 p1=>by grind)
 refine ⟨xs,ys,hH,fun K=>?_⟩
 refine yxm _ _ _ _ _ _ _ _ _ _ _ (fun K k'=>?_) K
 unfold yc2 ymc
 rw [yF9,ypI k.fin2 (by simp),show deskE [a,b] (List.length ([]:List PV))=0 from k.dk.err (by simp),cnF rfl]
 refine yad.2 ⟨rfl,3,?_⟩
 refine yFn k ?_
 rw [ymV]
 exact ⟨55440003,(hL _ _ _ _ _ _ 55440003 (by omega)).mpr k'⟩
end
end Go.Pf.Vc
namespace Go.Pf.Vc
open Go Go.Pf
theorem yDx {c:Ck} (hl:c.dens.length<1000000) {x0:Int→List PV→List PV→Int→Bool→Prop} {x1:Bool→Prop} {i0:Int} {l1:List PV} :
   ∀ (r i n:Nat),i+r=c.dens.length→r<n→ybU x0 x1 n i0 l1 (ints c.dens) (i:Int)=if ∀ j,j<c.dens.length→i≤j→c.dens.getD j 0≠0 then x0 i0 l1 (ints c.dens) (c.dens.length:Int) false else x1 false:=by
 intro r
 induction r with
 | zero =>
   intro i n hi hn
   obtain ⟨n,rfl⟩:∃ m,n=m+1:=⟨n-1,by omega⟩
   rw [ybU,yat,cbF (by omega),if_pos (fun j a b=>by omega),show i=c.dens.length by omega]
 | succ r ih =>
   intro i n hi hn
   obtain ⟨n,rfl⟩:∃ m,n=m+1:=⟨n-1,by omega⟩
   have hil:i<c.dens.length:=by omega
   rw [ybU,yat,cbT (by omega)]
   dsimp only [lt]
   rw [asT (by omega),asT (by omega),Int.toNat_natCast,ypE hil,show ∀ P:Prop,asr (conf (.one (.i .i64)) (.int .i64 (c.dens.getD i 0))) P=P from fun _=>rfl,show intOfV (.int .i64 (c.dens.getD i 0))=c.dens.getD i 0 from rfl]
   by_cases h:c.dens.getD i 0=0
   · rw [ceT h,if_neg (fun k=>k i hil (Nat.le_refl _) h)]
   · rw [ceF h,cast1,wib (by omega) (by omega),ih (i+1) n (by omega) (by omega)]
     by_cases k:∀ j,j<c.dens.length→i+1≤j→c.dens.getD j 0≠0
     · rw [if_pos k,if_pos (fun j a b=>by
         by_cases e:j=i
         · rw [e];exact h
         · exact k j a (by omega))]
     · rw [if_neg k,if_neg (fun q=>k fun j a b=>q j a (by omega))]
def hunB (c:Ck):Bool:=decide (∀ j,j<c.dens.length→c.dens.getD j 0≠0)
theorem yzX {c:Ck} (hl:c.dens.length<1000000) (K:Bool→Prop):yc3 c.len (ints c.cuts) (ints c.dens) K=K (hunB c):=by
 refine yxB _ _ _ _ (fun K k=>?_) K
 unfold yc3 ymf
 refine ⟨c.dens.length+1,?_⟩
 refine (yDx hl c.dens.length 0 (c.dens.length+1) (by omega) (by omega)).mpr ?_
 unfold hunB at k
 by_cases h:∀ j,j<c.dens.length→c.dens.getD j 0≠0
 · rw [if_pos (fun j a _=>h j a)]
   rw [decide_eq_true h] at k
   exact k
 · rw [if_neg (fun q=>h fun j a=>q j a (Nat.zero_le _))]
   rw [decide_eq_false h] at k
   exact k
theorem yDy {l:List Ck} (hl:l.length≤9223372036854775807) (K:Bool→Prop):yjR (cks l) K=K (!greatC l&&decide (deskE l 0=0)):=by
 unfold yjR yrR
 dsimp only [Go.Pf.jn]
 rw [yzh hl]
 cases hg:greatC l with
 | true=>rfl
 | false =>
   obtain ⟨g1,g2,g3⟩:=yFc hg
   rw [show (!false)=true from rfl,yac,yGZ g3 (by omega)]
   rfl
theorem yHb (a b:Ck):(∀ K:Bool→Prop,yeF a.len (ints a.cuts) (ints a.dens) b.len (ints b.cuts) (ints b.dens) K=K false)∨(Kn a b∧∀ K:Bool→Prop,yeF a.len (ints a.cuts) (ints a.dens) b.len (ints b.cuts) (ints b.dens) K=K true):=by
 have hw:∀ K:Bool→Prop,yeF a.len (ints a.cuts) (ints a.dens) b.len (ints b.cuts) (ints b.dens) K=yjR (cks [a,b]) (fun yb5=>cbr yb5 (yc3 a.len (ints a.cuts) (ints a.dens) (fun yb6=>cbr yb6 (yc3 b.len (ints b.cuts) (ints b.dens) (fun yb7=>K yb7)) (K false))) (K false)):=fun K=>rfl
 cases hf:(!greatC [a,b]&&decide (deskE [a,b] 0=0)) with
 | false =>
   left
   intro K
   rw [hw,yDy (by simp),hf,yaa]
 | true =>
   simp only [Bool.and_eq_true,Bool.not_eq_true',decide_eq_true_eq] at hf
   obtain ⟨hg,hd⟩:=hf
   have dk:=(ynU hd).1
   have va:VC a.len a.cuts a.dens:=dk.ok 0 (by simp)
   have vb:VC b.len b.cuts b.dens:=dk.ok 1 (by simp)
   have hlen:b.len=a.len:=dk.len 1 (by simp)
   have a1:=va.l1;have a2:=va.l2;have b1:=vb.l1;have b2:=vb.l2
   have hw2:∀ K:Bool→Prop,yeF a.len (ints a.cuts) (ints a.dens) b.len (ints b.cuts) (ints b.dens) K=cbr (hunB a) (K (hunB b)) (K false):=by
     intro K
     rw [hw,yDy (by simp),hg,hd,show (!false&&decide ((0:Int)=0))=true from rfl,yac,yzX (by omega),yzX (by omega)]
   cases ha:hunB a with
   | false=>left;intro K;rw [hw2,ha,yaa]
   | true =>
     cases hb:hunB b with
     | false=>left;intro K;rw [hw2,ha,yac,hb]
     | true =>
       right
       unfold hunB at ha hb
       rw [decide_eq_true_eq] at ha hb
       refine ⟨⟨va,vb,hlen,fun i hi=>?_,fun i hi=>?_⟩,fun K=>?_⟩
       · have:=va.den hi;have:=ha i hi;omega
       · have:=vb.den hi;have:=hb i hi;omega
       · rw [hw2,show hunB a=true from decide_eq_true ha,yac,show hunB b=true from decide_eq_true hb]
def thrC:List Ck:=[⟨6,[0,6],[1]⟩,⟨6,[0,4,6],[1,4]⟩,⟨6,[0,2,6],[2,0]⟩]
def twA:Ck:=⟨4,[0,4],[1]⟩
def twB:Ck:=⟨4,[0,1,4],[3,1]⟩
theorem tw_kn:Kn twA twB where
 ha:=by decide
 hb:=by decide
 len:=rfl
 fa:=fun i hi=>by
   have h:i<1:=hi
   obtain rfl:i=0:=by omega
   decide
 fb:=fun i hi=>by
   have h:i<2:=hi
   have:i=0∨i=1:=by omega
   rcases this with rfl | rfl <;> decide
def thrOk (e:KR):Bool:=match e with
 | .ok (p,o,lg)=>decide (p=[[⟨2,3,8,3⟩],[⟨8,3,6,1⟩],[⟨0,1,2,3⟩]])&&(decide (o=[2,0,1])&&decide (lg.length=5))
 | .error _=>false
def okIs (e:Except Int Rat) (q:Rat):Bool:=match e with
 | .ok p=>decide (p=q)
 | .error _=>false
theorem yBC {e:Except Int Rat} {q:Rat} (h:okIs e q=true):e=.ok q:=by
 unfold okIs at h
 split at h
 · rw [of_decide_eq_true h]
 · cases h
theorem yKB:thrOk (kE thrC)=true:=by decide +kernel
theorem yIv:mrkC twA.cuts twA.dens 0 (hlf twA)=.ok 2:=yBC (by decide +kernel)
theorem yJw:gpE twA twB 0=.ok 1:=yBC (by decide +kernel)
theorem yJx:gpE twA twB 1=.ok (-1):=yBC (by decide +kernel)
theorem twA_V (x:Rat) (h0:0≤x) (h1:x≤4):twA.V x=x:=by
 have c0:((List.getD ([0,4]:List Int) 0 0:Int):Rat)=0:=rfl
 have c1:((List.getD ([0,4]:List Int) (0+1) 0:Int):Rat)=4:=rfl
 have d0:((List.getD ([1]:List Int) 0 0:Int):Rat)=1:=rfl
 have m:=yc4 x 0
 have n:=ydK (maxR x 0) 4
 show (((List.getD ([1]:List Int) 0 0:Int):Rat))*uC [0,4] 0 x+0=x
 unfold uC
 rw [c0,c1,d0]
 grind
theorem twB_V (x:Rat) (h0:0≤x) (h1:x≤4):twB.V x=if x≤1 then 3*x+1 else x+3:=by
 have c0:((List.getD ([0,1,4]:List Int) 0 0:Int):Rat)=0:=rfl
 have c1:((List.getD ([0,1,4]:List Int) (0+1) 0:Int):Rat)=1:=rfl
 have c2:((List.getD ([0,1,4]:List Int) (0+1+1) 0:Int):Rat)=4:=rfl
 have d0:((List.getD ([3,1]:List Int) 0 0:Int):Rat)=3:=rfl
 have d1:((List.getD ([3,1]:List Int) (0+1) 0:Int):Rat)=1:=rfl
 have m:=yc4 x 0
 have n:=ydK (maxR x 0) 1
 have m2:=yc4 x 1
 have n2:=ydK (maxR x 1) 4
 show (((List.getD ([3,1]:List Int) 0 0:Int):Rat))*uC [0,1,4] 0 x+((((List.getD ([3,1]:List Int) (0+1) 0:Int):Rat))*uC [0,1,4] (0+1) x+0)=_
 unfold uC
 rw [c0,c1,c2,d0,d1]
 split <;> grind
theorem yJy {x y:Rat} (h:HalfAt twA twB x y):x=1 / 2∧y=5 / 2:=by
 obtain ⟨L,hg,hz⟩:=h
 have hA:hlf twA=2:=by decide +kernel
 have hB:hlf twB=3:=by decide +kernel
 have hl:((twA.len:Int):Rat)=4:=rfl
 have hx:=L.hx
 obtain ⟨x0,y0,y1,e⟩:=L.yy
 rw [hl] at hx y1
 rw [twA_V x x0 hx,twA_V y y0 y1,hA] at e
 have hh:isY twA (1 / 2) (5 / 2):=⟨by grind,by grind,by rw [hl];grind,by rw [twA_V _ (by grind) (by grind),twA_V _ (by grind) (by grind),hA];grind⟩
 have g0:gapR twB (1 / 2) (5 / 2)=0:=by
   unfold gapR
   rw [twB_V _ (by grind) (by grind),twB_V _ (by grind) (by grind),hB,if_neg (by grind),if_pos (by grind)]
   grind
 have h1:¬(1 / 2:Rat)<x:=fun c=>hz _ _ (by grind) c hh g0
 unfold gapR at hg
 rw [twB_V x x0 hx,twB_V y y0 y1,hB,if_neg (show ¬y≤1 by grind),if_pos (show x≤1 by grind)] at hg
 grind
theorem three11 (K:List PV→Prop):yls K=K (cks thrC):=rfl
theorem two11 (K:Int→List PV→List PV→Int→List PV→List PV→Prop):ypC K=K twA.len (ints twA.cuts) (ints twA.dens) twB.len (ints twB.cuts) (ints twB.dens):=rfl
theorem of11 (n:Int) (K:Int→Int→Prop):yts n K=K n 1:=rfl
theorem yJz:finC thrC:=by
 intro i hi
 have h:i<3:=hi
 rcases i with _ | _ | _ | i
 · exact ⟨by decide,by decide⟩
 · exact ⟨by decide,by decide⟩
 · exact ⟨by decide,by decide⟩
 · omega
theorem lit11o:([(.int .i64 (2:Int)),(.int .i64 (0:Int)),(.int .i64 (1:Int))]:List PV)=ints [2,0,1]:=rfl
theorem lit11p:([(.data ([(.agg [(.int .i64 (2:Int)),(.int .i64 (3:Int)),(.int .i64 (8:Int)),(.int .i64 (3:Int))])]:List PV)),(.data ([(.agg [(.int .i64 (8:Int)),(.int .i64 (3:Int)),(.int .i64 (6:Int)),(.int .i64 (1:Int))])]:List PV)),(.data ([(.agg [(.int .i64 (0:Int)),(.int .i64 (1:Int)),(.int .i64 (2:Int)),(.int .i64 (3:Int))])]:List PV))]:List PV)=pieces [[⟨2,3,8,3⟩],[⟨8,3,6,1⟩],[⟨0,1,2,3⟩]]:=rfl
theorem yk0 (K:Bool→Prop):yiM K=K true:=by
 obtain ⟨xs,ys,hH,hK⟩:=yDw tw_kn
 obtain ⟨ex,ey⟩:=yJy hH
 subst ex
 subst ey
 have h3:=yKB
 cases e:kE thrC with
 | error x=>rw [e] at h3;cases h3
 | ok t =>
   obtain ⟨p,o,lg⟩:=t
   rw [e] at h3
   simp only [thrOk,Bool.and_eq_true,decide_eq_true_eq] at h3
   obtain ⟨rfl,rfl,hlg⟩:=h3
   unfold yiM ynS
   dsimp only [Go.Pf.jn]
   simp only [three11,two11,of11]
   rw [yG4 yJz (by decide),e]
   show yan _ _ _ (0:Rat).num (0:Rat).den _=_
   have l4:((twA.len:Int):Rat)=4:=rfl
   rw [yjV tw_kn.ha (x:=0) (by decide) Rat.le_refl (by rw [l4];decide),yIv,ydp]
   show yaB _ _ _ _ _ _ (0:Rat).num (0:Rat).den _=_
   rw [ynX tw_kn (x:=0) (by decide) Rat.le_refl (by rw [l4];decide),yJw,ydp]
   show yaB _ _ _ _ _ _ (1:Rat).num (1:Rat).den _=_
   rw [ynX tw_kn (x:=1) (by decide) (by decide) (by rw [l4];decide),yJx,ydp,hK]
   rw [ceT rfl,lit11o,show nts [2,0,1]=ints [2,0,1] from rfl,yFg (by decide),yac,yDo,hlg,ceT rfl,lit11p,yFe (fun i hi=>by
     have h:i<3:=hi
     rcases i with _ | _ | _ | i
     · decide
     · decide
     · decide
     · omega) (by decide),yac,ceT rfl]
   rw [show ((2:Rat).num == 2&&(((2:Rat).den:Int) == 1&&true))=true from rfl,yac,ceT rfl,show ((1:Rat).num == 1&&(((1:Rat).den:Int) == 1&&true))=true from rfl,yac,ceT rfl,show ((-1:Rat).num == -1&&(((-1:Rat).den:Int) == 1&&true))=true by decide +kernel,yac,show (((5:Nat):Int) == 5)=true from rfl,yac,show ((1 / 2:Rat).num == 1&&(((1 / 2:Rat).den:Int) == 2&&((5 / 2:Rat).num == 5&&(((5 / 2:Rat).den:Int) == 2&&true))))=true by decide +kernel]
end Go.Pf.Vc
namespace Go.Pf.Vc
open Go Go.Pf
section
variable {a b:Ck}
theorem yJA (k:Kn a b) {x:Rat} (x0:0≤x) (x1:x≤(a.len:Rat)) (hv:a.V x+hlf a≤a.V (a.len:Rat)) {e:Int} (h:gpE a b x=.error e):e=16:=by
 have hp:=ypM k.ha
 unfold gpE at h
 cases em:mrkC a.cuts a.dens x (hlf a) with
 | error c =>
   rw [em] at h
   cases h
   exact (yuL k.ha k.fa x0 x1 hp.1 (by unfold Ck.V at hv;grind)).1 _ em
 | ok y =>
   rw [em] at h
   dsimp only at h
   cases ev:valC b.cuts b.dens x y with
   | error c =>
     rw [ev] at h
     cases h
     exact ytM _ _ _ _ _ ev
   | ok v =>
     rw [ev] at h
     dsimp only at h
     split at h
     · cases h
     · cases h;rfl
theorem yKC (k:Kn a b) {x:Rat} (x0:0≤x) (x1:x≤(a.len:Rat)) {g:Rat} (h:gpE a b x=.ok g):∃ y,isY a x y∧g=gapR b x y:=by
 unfold gpE at h
 cases em:mrkC a.cuts a.dens x (hlf a) with
 | error c=>rw [em] at h;cases h
 | ok y =>
   rw [em] at h
   dsimp only at h
   obtain ⟨hY,hxy⟩:=yBB k x0 x1 em
   cases ev:valC b.cuts b.dens x y with
   | error c=>rw [ev] at h;cases h
   | ok v =>
     rw [ev] at h
     dsimp only at h
     have hv:=yF3 k.hb x0 hxy ev
     split at h
     · cases h
       exact ⟨y,hY,by unfold gapR Ck.V;rw [hv]⟩
     · cases h
end
theorem yx5 (q:Rat):(!((q.num == q.num)&&(((q.den:Int) ==(q.den:Int))&&true)))=false:=by simp
theorem yzi {a b:Ck} {pn pd:Int} (h1:I64 pn) (h2:I64 pd):yfV a.len (ints a.cuts) (ints a.dens) b.len (ints b.cuts) (ints b.dens) pn pd (fun r=>r=true):=by
 unfold yfV yhj
 dsimp only [Go.Pf.jn]
 rcases yHb a b with h | ⟨k,h⟩
 · rw [h,Bool.not_false,yac,yk0]
 · obtain ⟨x,y,hH,hK⟩:=yDw k
   obtain ⟨L,hg,hz⟩:=hH
   have hl:=k.ha.len0
   have lb:(b.len:Rat)=(a.len:Rat):=by rw [k.len]
   obtain ⟨f1,f2⟩:=k.ha.fin
   obtain ⟨f3,f4⟩:=k.hb.fin
   obtain ⟨x0,y0,y1,eY⟩:=L.yy
   have hxy:x≤y:=Rat.le_of_lt (isY_x k L.yy L.hx)
   have va:a.V y-a.V x=hlf a:=by grind
   have vb:b.V y-b.V x=hlf b:=by unfold gapR at hg;grind
   have px:PT a.len x.num x.den:=PT_of L.sx x0 L.hx
   have py:PT a.len y.num y.den:=PT_of L.sy y0 y1
   rw [h,Bool.not_true,yaa,hK,cnF rfl,ymS ⟨by omega,by omega⟩ L.sx.i1 L.sx.i2,decide_eq_true px,Bool.not_true,yaa,ymS ⟨by omega,by omega⟩ L.sy.i1 L.sy.i2,decide_eq_true py,Bool.not_true,yaa,yjV k.ha L.sx x0 L.hx,L.mrk,ydp,yzQ f1 f2 L.sx.i1 L.sx.i2 L.sy.i1 L.sy.i2,ywb k.ha L.sx x0 L.sy hxy y1,L.va,ydp,yzQ f3 f4 L.sx.i1 L.sx.i2 L.sy.i1 L.sy.i2,ywb k.hb L.sx x0 L.sy hxy (by rw [lb];exact y1),L.vb,ydp,cnF rfl,yx5,yaa,cnF rfl,yDp k.ha,va,yx5,yaa,cnF rfl,yDp k.hb,vb,yx5,yaa,ymS ⟨by omega,by omega⟩ h1 h2]
   by_cases hp:PT a.len pn pd
   case neg=>rw [decide_eq_false hp,Bool.not_false,yac,yac,yk0]
   obtain ⟨q,sq,rfl,rfl,q0,q1⟩:=yH7 hp
   rw [decide_eq_true hp,Bool.not_true,yaa,ymR sq L.sx]
   by_cases hlt:q<x
   case neg=>rw [decide_eq_false hlt,Bool.not_false,yac,yk0]
   rw [decide_eq_true hlt,Bool.not_true,yaa,ynX k sq q0 q1]
   have hv:a.V q+hlf a≤a.V (a.len:Rat):=by
     have m1:=yeG k.ha (Rat.le_of_lt hlt)
     have m2:=yeG k.ha y1
     unfold Ck.V at *
     grind
   cases e:gpE a b q with
   | error c =>
     have:=yJA k q0 q1 hv e
     subst this
     rw [ypm,ceF (by decide),ceT rfl,yk0]
   | ok g =>
     obtain ⟨w,hw,rfl⟩:=yKC k q0 q1 e
     have hne:=hz q w q0 hlt hw
     rw [ydp,ceT rfl,cnT (fun c=>hne (Rat.num_eq_zero.1 c)),yk0]
theorem yKD {as:List PV} (h:HasAs [dsC,dsC,dsR] as):∃ (a b:Ck) (pn pd:Int),as=[.agg [.int .i64 a.len,.data (ints a.cuts),.data (ints a.dens)],.agg [.int .i64 b.len,.data (ints b.cuts),.data (ints b.dens)],.agg [.int .i64 pn,.int .i64 pd]]∧I64 pn∧I64 pd:=by
 simp only [HasAs] at h
 obtain ⟨x,_,rfl,x1,x2,y,_,rfl,y1,y2,z,_,rfl,z1,z2,rfl⟩:=h
 obtain ⟨a,e1,_,_,_⟩:=F_c x2
 obtain ⟨b,e2,_,_,_⟩:=F_c y2
 obtain ⟨n,d,e3,hn,hd⟩:=F_r z2
 exact ⟨a,b,n,d,by rw [yFf (l:=[.i .i64,.s (.i .i64),.s (.i .i64)]) x1,e1,yFf (l:=[.i .i64,.s (.i .i64),.s (.i .i64)]) y1,e2,yFf (l:=[.i .i64,.i .i64]) z1,e3],hn,hd⟩
end Go.Pf.Vc
