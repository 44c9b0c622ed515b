/- Part 5. -/
import Derived.Test.YtdimanmcijcjoaaGreatPoW4
open Go.IntKind (i64 u8 u64)
open List (length getD take drop replicate set map isEmpty)
noncomputable section
namespace Go.Pf.Vc
open Go Go.Pf
section
variable {cs:List Ck} {A:List (List RS)}
theorem F4 (h:DV cs A) (hw:∀ c∈cs,∀ a∈A,small (wV c a)) (x2:List PV→List PV→List PV→List PV→Int→Int→Bool→Prop) (x3:List PV→List PV→List PV→List PV→Int→Prop) {YY:Prop} (hY:∀ L,x3 L (aD cs) (aC A) (aE cs A) 16=YY) :
  ∀ (r i n:Nat),i+r=cs.length→r<n→DR ybi yak bU dX fJ yam x2 x3 n (bF (aO cs A i)) (aD cs) (aC A) (aE cs A) (cs.length:Int) (i:Int)=eB cs A (x2 (bF (aO cs A cs.length)) (aD cs) (aC A) (aE cs A) (cs.length:Int) (cs.length:Int) false) YY r i
 | 0,i,n+1,hi,hn=>by
  obtain rfl:i=cs.length:=by omega
  rw [DR,bE (by omega)];rfl
 | r+1,i,n+1,hi,hn=>by
  have h6:=h.d.n6;have hl:=h.l;have hi':i<cs.length:=by omega
  have e1:=cI (n:=(i:Int)+1) (by omega) (by omega);have ih:=F4 h hw x2 x3 hY r (i+1) n (by omega) (by omega);rw [DR];dsimp only [lt,Go.Pf.jn];rw [bI (by omega),aJ (by omega),dT,aJ (by omega),cE,lM hi',eG,mF,tG,tH,h.total hi',aJ (by omega),lP,aJ (by omega),pW hi',gG,aJ (by omega),dU,kK,cP,aJ (by omega),mH (by rw [cP];omega),lO,nC,nD,tJ (by omega),rT,h.div hw hi'];unfold eB fitK
  by_cases hs:small (prt cs A i)
  ·rw [Sj hs,Sj hs];show aB false _ _=_;rw [aV,aJ rfl,kK,zM];simp only [iA,bW,decide_true,cH];rw [show (!decide (i+1≤i))=true by rw [Po (by omega)];rfl,cH,aJ (by unfold room;omega),show (true&&true)=true from rfl,cH,e1,cZ,Rv,Rw,← RH];exact ih
  ·rw [Sk hs,Sk hs];show aB true _ _=_;rw [aY,hY]
theorem F5 (h:DV cs A) (hw:∀ c∈cs,∀ a∈A,small (wV c a)) (x2:List PV→List PV→List PV→List PV→Int→Int→Bool→Prop) (x3:List PV→List PV→List PV→List PV→Int→Prop) {YY:Prop} (hY:∀ L,x3 L (aD cs) (aC A) (aE cs A) 16=YY) :
  ∀ (r i n:Nat),i+r=cs.length→r<n→DU yak lJ bU dX fJ yam x2 x3 n (bF (aO cs A i)) (aD cs) (aC A) (aE cs A) (cs.length:Int) (i:Int)=eB cs A (x2 (bF (aO cs A cs.length)) (aD cs) (aC A) (aE cs A) (cs.length:Int) (cs.length:Int) false) YY r i
 | 0,i,n+1,hi,hn=>by
  obtain rfl:i=cs.length:=by omega
  rw [DU,bE (by omega)];rfl
 | r+1,i,n+1,hi,hn=>by
  have h6:=h.d.n6;have hl:=h.l;have hi':i<cs.length:=by omega
  have e1:=cI (n:=(i:Int)+1) (by omega) (by omega);have ih:=F5 h hw x2 x3 hY r (i+1) n (by omega) (by omega);rw [DU];dsimp only [lt,Go.Pf.jn];rw [bI (by omega),aJ (by omega),dT,aJ (by omega),cE,lM hi',eG,mF,tG,tH,h.total hi',aJ (by omega),lP,aJ (by omega),pW hi',gG,aJ (by omega),dU,kK,cP,aJ (by omega),mH (by rw [cP];omega),lO,nC,nD,tJ (by omega),rT,h.div hw hi'];unfold eB fitK
  by_cases hs:small (prt cs A i)
  ·rw [Sj hs,Sj hs];show aB false _ _=_;rw [aV,aJ rfl,kK,zM];simp only [iA,bW,decide_true,cH];rw [show (!decide (i+1≤i))=true by rw [Po (by omega)];rfl,cH,aJ (by unfold room;omega),show (true&&true)=true from rfl,cH,e1,cZ,Rv,Rw,← RH];exact ih
  ·rw [Sk hs,Sk hs];show aB true _ _=_;rw [aY,hY]
theorem RI (h:DV cs A) (hw:∀ c∈cs,∀ a∈A,small (wV c a)) (x0:List PV→List PV→List PV→Int→Int→Bool→Prop) (x1:List PV→List PV→List PV→Int→Prop) (x2:List PV→List PV→List PV→List PV→Int→Int→Bool→Prop) (x3:List PV→List PV→List PV→List PV→Int→Prop) {YY:Prop} (hY1:x1 (aD cs) (aC A) (aE cs A) 16=YY) (hY:∀ L,x3 L (aD cs) (aC A) (aE cs A) 16=YY) :
 JL yak bU dX fJ yam x0 x1 x2 x3 (cs.length+1) (aD cs) (aC A) (aE cs A) (cs.length:Int) 0=eB cs A (x2 (bF (aO cs A cs.length)) (aD cs) (aC A) (aE cs A) (cs.length:Int) (cs.length:Int) false) YY cs.length 0:=by
 have h6:=h.d.n6;have h1:=h.d.n0;have hl:=h.l;have hi':0<cs.length:=by omega
 have e1:=cI (n:=(0:Int)+1) (by omega) (by omega);obtain ⟨r,hr⟩:∃ r,cs.length=r+1:=⟨cs.length-1,by omega⟩;have ih:=F3 h hw x2 x3 hY r 1 cs.length (by omega) (by omega);rw [JL];dsimp only [lt,Go.Pf.jn];rw [bI (by omega),aJ (by omega),dT,aJ (by omega),show (0:Int).toNat=0 from rfl,lM hi',eG,mF,tG,tH,h.total hi',aJ (by omega),lP,aJ (by omega),pW hi',gG,aJ (by omega),dU,kK,cP,aJ (by omega),mH (by rw [cP];omega),lO,nC,nD,tJ (by omega),rT,h.div hw hi'];have eK:∀ X:Prop,eB cs A X YY cs.length 0=if small (prt cs A 0) then eB cs A X YY r 1 else YY:=fun X=>by rw [hr];rfl
 rw [eK];unfold fitK
 by_cases hs:small (prt cs A 0)
 ·rw [Sj hs,Sj hs];show aB false _ _=_;rw [aV,e1];exact ih
 ·rw [Sk hs,Sk hs];show aB true _ _=_;rw [aY,hY1]
theorem ytX (h:DV cs A) (hw:∀ c∈cs,∀ a∈A,small (wV c a)) (x0:List PV→List PV→List PV→Int→Int→Bool→Prop) (x1:List PV→List PV→List PV→Int→Prop) (x2:List PV→List PV→List PV→List PV→Int→Int→Bool→Prop) (x3:List PV→List PV→List PV→List PV→Int→Prop) {YY:Prop} (hY1:x1 (aD cs) (aC A) (aE cs A) 16=YY) (hY:∀ L,x3 L (aD cs) (aC A) (aE cs A) 16=YY) :
 JO ybi yak bU dX fJ yam x0 x1 x2 x3 (cs.length+1) (aD cs) (aC A) (aE cs A) (cs.length:Int) 0=eB cs A (x2 (bF (aO cs A cs.length)) (aD cs) (aC A) (aE cs A) (cs.length:Int) (cs.length:Int) false) YY cs.length 0:=by
 have h6:=h.d.n6;have h1:=h.d.n0;have hl:=h.l;have hi':0<cs.length:=by omega
 have e1:=cI (n:=(0:Int)+1) (by omega) (by omega);obtain ⟨r,hr⟩:∃ r,cs.length=r+1:=⟨cs.length-1,by omega⟩;have ih:=F4 h hw x2 x3 hY r 1 cs.length (by omega) (by omega);rw [JO];dsimp only [lt,Go.Pf.jn];rw [bI (by omega),aJ (by omega),dT,aJ (by omega),show (0:Int).toNat=0 from rfl,lM hi',eG,mF,tG,tH,h.total hi',aJ (by omega),lP,aJ (by omega),pW hi',gG,aJ (by omega),dU,kK,cP,aJ (by omega),mH (by rw [cP];omega),lO,nC,nD,tJ (by omega),rT,h.div hw hi'];have eK:∀ X:Prop,eB cs A X YY cs.length 0=if small (prt cs A 0) then eB cs A X YY r 1 else YY:=fun X=>by rw [hr];rfl
 rw [eK];unfold fitK
 by_cases hs:small (prt cs A 0)
 ·rw [Sj hs,Sj hs];show aB false _ _=_;rw [aV,e1];exact ih
 ·rw [Sk hs,Sk hs];show aB true _ _=_;rw [aY,hY1]
theorem ysh (h:DV cs A) (hw:∀ c∈cs,∀ a∈A,small (wV c a)) (x0:List PV→List PV→List PV→Int→Int→Bool→Prop) (x1:List PV→List PV→List PV→Int→Prop) (x2:List PV→List PV→List PV→List PV→Int→Int→Bool→Prop) (x3:List PV→List PV→List PV→List PV→Int→Prop) {YY:Prop} (hY1:x1 (aD cs) (aC A) (aE cs A) 16=YY) (hY:∀ L,x3 L (aD cs) (aC A) (aE cs A) 16=YY) :
 JT yak lJ bU dX fJ yam x0 x1 x2 x3 (cs.length+1) (aD cs) (aC A) (aE cs A) (cs.length:Int) 0=eB cs A (x2 (bF (aO cs A cs.length)) (aD cs) (aC A) (aE cs A) (cs.length:Int) (cs.length:Int) false) YY cs.length 0:=by
 have h6:=h.d.n6;have h1:=h.d.n0;have hl:=h.l;have hi':0<cs.length:=by omega
 have e1:=cI (n:=(0:Int)+1) (by omega) (by omega);obtain ⟨r,hr⟩:∃ r,cs.length=r+1:=⟨cs.length-1,by omega⟩;have ih:=F5 h hw x2 x3 hY r 1 cs.length (by omega) (by omega);rw [JT];dsimp only [lt,Go.Pf.jn];rw [bI (by omega),aJ (by omega),dT,aJ (by omega),show (0:Int).toNat=0 from rfl,lM hi',eG,mF,tG,tH,h.total hi',aJ (by omega),lP,aJ (by omega),pW hi',gG,aJ (by omega),dU,kK,cP,aJ (by omega),mH (by rw [cP];omega),lO,nC,nD,tJ (by omega),rT,h.div hw hi'];have eK:∀ X:Prop,eB cs A X YY cs.length 0=if small (prt cs A 0) then eB cs A X YY r 1 else YY:=fun X=>by rw [hr];rfl
 rw [eK];unfold fitK
 by_cases hs:small (prt cs A 0)
 ·rw [Sj hs,Sj hs];show aB false _ _=_;rw [aV,e1];exact ih
 ·rw [Sk hs,Sk hs];show aB true _ _=_;rw [aY,hY1]
end
def oR (a b:Int):Int:=u8.wrap (BitVec.ofInt u8.bits a|||BitVec.ofInt u8.bits b).toNat
def bN:Nat→Int
 | 0=>1
 | 1=>2
 | 2=>4
 | 3=>8
 | _=>16
def kO (cs:List Ck) (A:List (List RS)) (P:List Rat) (g:Bool) (acc:Int) (i:Nat):Int:=if (brk cs A P g (bN i)).2.2 then acc else oR acc (bN i)
theorem Kw {i:Nat} (h:i<5):u8.wrap ((1:Int)*2 ^ (min ((i:Int)).toNat u8.bits))=bN i:=by
 obtain rfl|rfl|rfl|rfl|rfl:i=0∨i=1∨i=2∨i=3∨i=4:=by omega
 all_goals decide
theorem GQ (i:Nat):bN i=1∨bN i=2∨bN i=4∨bN i=8∨bN i=16:=by unfold bN;split<;>simp
section
variable {cs:List Ck} {A:List (List RS)}
theorem F6 (h:DV cs A) (hw:∀ c∈cs,∀ a∈A,small (wV c a)) {P:List Rat} (hP:P.length=cs.length) {g:Bool} (hg:∀ K,yac (aD cs) (aC A) (aE cs A) (bF P) K=K g) (x1:List PV→List PV→List PV→List PV→Int→Int→List PV→Int→Bool→Prop) {n i:Nat} (hi:i<5) (e acc:Int) (l8:List PV) :
  yX yak bU dX fJ yam x1 (n+1) (bF P) (aD cs) (aC A) (aE cs A) e acc l8 (i:Int)=yX yak bU dX fJ yam x1 n (bF P) (aD cs) (aC A) (aE cs A) e (kO cs A P g acc i) l8 ((i+1:Nat):Int):=by
 have e1:=cI (n:=(i:Int)+1) (by omega) (by omega);have hn:(!decide ((i:Int)<0))=true:=by rw [Po (by omega)];rfl
 rw [yX];dsimp only [lt,Go.Pf.jn];rw [bI (by omega),hn,cH,Kw hi,aJ rfl,aJ (by omega),Ad,Eo h hw (fun _=>hP) (GQ i) hg,e1,cZ];unfold kO
 cases (brk cs A P g (bN i)).2.2 with
 | true =>show aB false _ _=_;rw [aV,show (decide ((bF P).length=(bF P).length)&&decide ((bF P).length=(bF P).length))=true by simp,cH];rfl
 | false =>show aB true _ _=_;rw [aY,cH,show (decide ((bF P).length=(bF P).length)&&decide ((bF P).length=(bF P).length))=true by simp,cH];rfl
def nG (cs:List Ck) (A:List (List RS)) (P:List Rat) (g:Bool):Int:=kO cs A P g (kO cs A P g (kO cs A P g (kO cs A P g (kO cs A P g 0 0) 1) 2) 3) 4
theorem ygy {X Y:Prop}:∀ (r i:Nat),((∀ j,i≤j→j<i+r→small (prt cs A j))∧eB cs A X Y r i=X)∨(¬(∀ j,i≤j→j<i+r→small (prt cs A j))∧eB cs A X Y r i=Y)
 | 0,i=>.inl ⟨fun j h1 h2=>by omega,rfl⟩
 | r+1,i=>by
  rw [eB]
  by_cases hs:small (prt cs A i)
  ·rw [Sj hs];rcases ygy (X:=X) (Y:=Y) r (i+1) with ⟨h1,h2⟩ | ⟨h1,h2⟩
   ·refine .inl ⟨fun j k1 k2=>?_,h2⟩
    by_cases hj:j=i
    ·subst hj;exact hs
    ·exact h1 j (by omega) (by omega)
   ·exact .inr ⟨fun hh=>h1 fun j k1 k2=>hh j (by omega) (by omega),h2⟩
  ·rw [Sk hs];exact .inr ⟨fun hh=>hs (hh i (by omega) (by omega)),rfl⟩
def RJ (cs:List Ck) (A:List (List RS)):Prop:=∃ p:Rat,0≤p∧p<((cs.getD 0 default).len:Rat)∧¬∃ a∈A,memP a p
open Classical in
noncomputable def bA (cs:List Ck) (A:List (List RS)):Bool:=decide (RJ cs A)
theorem F7:bA cs A=true↔RJ cs A:=by unfold bA;exact @decide_eq_true_iff _ (Classical.propDecidable _)
theorem DV.gapD_eq (h:DV cs A) (W PT:List PV) (K:Bool→Prop):yac (aD cs) (aC A) W PT K=K (bA cs A):=by
 obtain ⟨l,hp,hb,e⟩:=h.gap W PT;rw [e];congr 1;rw [Ae,F7,D4 l 0 hb (fun s hs=>h.flatV s (hp.mem_iff.1 hs)) (fun s hs=>by
  obtain ⟨a,ha,hs⟩:=List.mem_flatten.1 (hp.mem_iff.1 hs);exact (h.wi a ha s hs).2)]
 have hm:∀ p,memP l p↔∃ a∈A,memP a p:=fun p=>by
  constructor
  ·rintro ⟨s,hs,k⟩;obtain ⟨a,ha,hs⟩:=List.mem_flatten.1 (hp.mem_iff.1 hs);exact ⟨a,ha,s,hs,k⟩
  ·rintro ⟨a,ha,s,hs,k⟩;exact ⟨s,hp.mem_iff.2 (List.mem_flatten.2 ⟨a,ha,hs⟩),k⟩
 unfold RJ;constructor
 ·rintro ⟨p,h1,h2,h3⟩;exact ⟨p,h1,h2,fun k=>h3 ((hm p).2 k)⟩
 ·rintro ⟨p,h1,h2,h3⟩;exact ⟨p,h1,h2,fun k=>h3 ((hm p).1 k)⟩
theorem DV.Make (h:DV cs A):(∀ K,ybj (aD cs) (aC A) K=K 0 [] 16)∨((∀ c∈cs,∀ a∈A,Go.Pf.Vc.small (wV c a))∧(∀ j,j<cs.length→Go.Pf.Vc.small (prt cs A j)) ∧
  ∀ K,ybj (aD cs) (aC A) K=K (nG cs A (aO cs A cs.length) (bA cs A)) (aE cs A) 0):=by
 rcases h.Worth with he|⟨hw,he⟩
 ·refine .inl fun K=>?_
  refine Gz _ _ _ _ _ (fun K k=>?_) K;unfold ybj Bj;rw [he];exact k
 ·rcases ygy (cs:=cs) (A:=A) (X:=True) (Y:=False) cs.length 0 with ⟨hs,_⟩ | ⟨hs,_⟩
  ·refine .inr ⟨hw,fun j hj=>hs j (by omega) (by omega),fun K=>?_⟩;refine Gz _ _ _ _ _ (fun K k=>?_) K;unfold ybj Bj;rw [he];show aB false _ _;rw [aV];dsimp only [Go.Pf.jn];rw [dT];refine ⟨cs.length+1,(RI h hw _ _ _ _ (YY:=K 0 [] 16) rfl (fun _=>rfl)).mpr ?_⟩;rcases ygy (cs:=cs) (A:=A) cs.length 0 with ⟨_,e⟩ | ⟨hn,_⟩
   ·refine e.mpr ?_;show aB false _ _;rw [aV,show (decide ((bF (aO cs A cs.length)).length=(bF (aO cs A cs.length)).length)&&decide ((bF (aO cs A cs.length)).length=(bF (aO cs A cs.length)).length))=true by simp,cH];refine ⟨6,?_⟩;have hP:=zM cs A cs.length;have hg:=h.gapD_eq (aE cs A) (bF (aO cs A cs.length));have s:=fun (n i:Nat) (hi:i<5) (acc:Int)=>F6 h hw hP hg (fun f g l m o b d p q=>K b d (0:Int)) (n:=n) hi 0 acc (aE cs A)
    refine (s 5 0 (by omega) 0).mpr ((s 4 1 (by omega) _).mpr ((s 3 2 (by omega) _).mpr ((s 2 3 (by omega) _).mpr ((s 1 4 (by omega) _).mpr ?_))));rw [yX,bE (by omega)];exact k
   ·exact absurd hs hn
  ·refine .inl fun K=>?_
   refine Gz _ _ _ _ _ (fun K k=>?_) K;unfold ybj Bj;rw [he];show aB false _ _;rw [aV];dsimp only [Go.Pf.jn];rw [dT];refine ⟨cs.length+1,(RI h hw _ _ _ _ (YY:=K 0 [] 16) rfl (fun _=>rfl)).mpr ?_⟩;rcases ygy (cs:=cs) (A:=A) cs.length 0 with ⟨hn,_⟩ | ⟨_,e⟩
   ·exact absurd hn hs
   ·exact e.mpr k
end
def BB (b0 b1 b2 b3 b4:Bool):Int:=
 let a0:Int:=if b0 then 0 else oR 0 1
 let a1:Int:=if b1 then a0 else oR a0 2
 let a2:Int:=if b2 then a1 else oR a1 4
 let a3:Int:=if b3 then a2 else oR a2 8
 if b4 then a3 else oR a3 16
theorem F8 (cs:List Ck) (A:List (List RS)) (P:List Rat) (g:Bool):nG cs A P g=BB (brk cs A P g 1).2.2 (brk cs A P g 2).2.2 (brk cs A P g 4).2.2 (brk cs A P g 8).2.2 (brk cs A P g 16).2.2:=rfl
def jZ (a b:Int):Int:=u8.wrap (BitVec.ofInt u8.bits a&&&BitVec.ofInt u8.bits b).toNat
theorem RK (b0 b1 b2 b3 b4:Bool):(jZ (BB b0 b1 b2 b3 b4) 1 !=0)=!b0:=by cases b0<;>cases b1<;>cases b2<;>cases b3<;>cases b4<;>decide
theorem RL (b0 b1 b2 b3 b4:Bool):(jZ (BB b0 b1 b2 b3 b4) 2 !=0)=!b1:=by cases b0<;>cases b1<;>cases b2<;>cases b3<;>cases b4<;>decide
theorem RM (b0 b1 b2 b3 b4:Bool):(jZ (BB b0 b1 b2 b3 b4) 4 !=0)=!b2:=by cases b0<;>cases b1<;>cases b2<;>cases b3<;>cases b4<;>decide
theorem RN (b0 b1 b2 b3 b4:Bool):(jZ (BB b0 b1 b2 b3 b4) 8 !=0)=!b3:=by cases b0<;>cases b1<;>cases b2<;>cases b3<;>cases b4<;>decide
theorem yM8 (b0 b1 b2 b3 b4:Bool):(jZ (BB b0 b1 b2 b3 b4) 16 !=0)=!b4:=by cases b0<;>cases b1<;>cases b2<;>cases b3<;>cases b4<;>decide
section
variable {cs:List Ck} {A:List (List RS)}
theorem F9 {P Q:List Rat} {g:Bool} {c:Int} (h:c≠8):brk cs A P g c=brk cs A Q g c:=by
 unfold brk;split
 ·rfl
 split
 ·rfl
 split
 ·rfl
 first | rfl | (rw [Sk h,Sk h])
theorem DV.asked (h:DV cs A) (hw:∀ c∈cs,∀ a∈A,Go.Pf.Vc.small (wV c a)) (hW:∀ K,yak (aD cs) (aC A) K=K (aE cs A) 0) {c:Int} (hc:c=1∨c=2∨c=4∨c=16) (K:Int→Int→Bool→Int→Prop) :
  ybq (aD cs) (aC A) c K=K (brk cs A (aO cs A cs.length) (bA cs A) c).1 (brk cs A (aO cs A cs.length) (bA cs A) c).2.1 (brk cs A (aO cs A cs.length) (bA cs A) c).2.2 0:=by
 have h8:c≠8:=by omega
 have hb:=fun K=>Eo h hw (P:=[]) (c:=c) (fun e=>absurd e h8) (by omega) (g:=bA cs A) (fun K=>h.gapD_eq (aE cs A) (bF []) K) K
 have hb:∀ K,yam (aD cs) (aC A) (aE cs A) [] c K=K (brk cs A [] (bA cs A) c).1 (brk cs A [] (bA cs A) c).2.1 (brk cs A [] (bA cs A) c).2.2:=hb;unfold ybq JP;dsimp only [Go.Pf.jn];rw [Ej h];rw [F9 (Q:=[]) h8];rcases hc with rfl | rfl | rfl | rfl
 all_goals
  show yak _ _ _=_;rw [hW];show aB false _ (aB false _ (aB false _ (yam _ _ _ _ _ _)))=_;rw [aV,aV,aV,hb]
theorem RO {c:Int} {a b:Int} {no:Bool} (h:∀ K,ybq (aD cs) (aC A) c K=K a b no 0) (K:Bool→Int→Prop):tA (aD cs) (aC A) c K=K (!no) 0:=by
 unfold tA Qy;dsimp only [Go.Pf.jn];rw [h]
 cases no<;>rfl
theorem RP {c:Int} {a b:Int} {no:Bool} (h:∀ K,ybq (aD cs) (aC A) c K=K a b no 0) (K:Int→Int→Int→Prop):sZ (aD cs) (aC A) c K=if no then K a b 0 else K 0 0 6:=by
 unfold sZ Qv;dsimp only [Go.Pf.jn];rw [h]
 cases no<;>rfl
end
def GR (D:Int) (A:List (List RS)):Prop:=∀ a∈A,∀ s∈a,In D s.1∧In D s.2
section
variable {len:Int} {cuts dens:List Int}
theorem G3 (h:VC len cuts dens) {s:RS} (hv:s.1<s.2) (hw:0≤s.1∧s.2≤(len:Rat)):0≤dV (vX cuts dens) s∧dV (vX cuts dens) s≤12000:=by have a:=Rz h hw.1;have b:=Rz h hw.2;have c:=Rz h (Rat.le_of_lt hv);have t:=yMr h;have tb:=nS.2 (GI h).2;have tb:((totC cuts dens:Int):Rat)≤12000:=tb;show 0≤vX cuts dens s.2-vX cuts dens s.1∧vX cuts dens s.2-vX cuts dens s.1≤12000;grind
theorem G4 {D:Int} (hD:1≤D) {s:RS} (hi:In D s.1∧In D s.2):In D (dV (vX cuts dens) s):=(D0 hD hi.2).sub (D0 hD hi.1)
theorem yEm (h:VC len cuts dens) {D:Int} (hD:1≤D∧D≤1000000000000) {s:RS} (hs:iS s) (hv:s.1<s.2) (hw:0≤s.1∧s.2≤(len:Rat)) (hi:In D s.1∧In D s.2) (K:Int→Int→Int→Prop) :
  yaY len (aI cuts) (aI dens) s.1.num s.1.den s.2.num s.2.den K=K (dV (vX cuts dens) s).num (dV (vX cuts dens) s).den 0:=by
 have l1:=h.l1;have l2:=h.l2;rw [ZV (by omega) (by omega) hs.1.i1 hs.1.i2 hs.2.i1 hs.2.i2];unfold vS;rw [Sj h.ck,Sj ⟨Kh hs.1 hw.1 (by grind),Kh hs.2 (by grind) hw.2,by rw [mY,mY];grind⟩,mY,mY,yHw h ⟨hD.1,by omega⟩ hi.1 hi.2 hw.1 (Rat.le_of_lt hv) hw.2];rfl
theorem G5 (h:VC len cuts dens) {D:Int} (hD:1≤D∧D≤1000000000000) {l:List RS} (hs:∀ s∈l,iS s) (hv:∀ s∈l,s.1<s.2) (hw:Wi len l) (hi:∀ s∈l,In D s.1∧In D s.2) (hl:l.length≤60) (z z':Int) (K:Int→Int→Int→Prop) :
  ∀ (r i n:Nat) (q:Rat),i+r=l.length→r<n→In D q→0≤q→q≤12000*((i:Int):Rat) →
   small (q+dD (dV (vX cuts dens)) (l.drop i))∧yaK yaE yaN yaS yaY ya1 (fun _ _ _ _ _ a b _ _ _ _=>K a b 0) (fun _ _ _ a b e=>K a b e) n len (aI cuts) (aI dens) z z' q.num q.den (aS l) (l.length:Int) (i:Int)=K (q+dD (dV (vX cuts dens)) (l.drop i)).num (q+dD (dV (vX cuts dens)) (l.drop i)).den 0
 | 0,i,n+1,q,hir,hn,hq,q0,q1=>by
  obtain rfl:i=l.length:=by omega
  rw [wZ];have e:q+dD (dV (vX cuts dens)) []=q:=Rat.add_zero q;have hb:((l.length:Int):Rat)≤60:=nS.2 (show (l.length:Int)≤60 by omega);rw [e];refine ⟨hq.small (M:=720000) ⟨by omega,by omega⟩ (by omega) (by show -(720000:Rat)≤_;grind) (by show _≤(720000:Rat);grind),?_⟩;rw [yaK,bE (by omega)]
 | r+1,i,n+1,q,hir,hn,hq,q0,q1=>by
  have hil:i<l.length:=by omega
  have e1:=cI (n:=(i:Int)+1) (by omega) (by omega);have hd:l.drop i=l.getD i default::l.drop (i+1):=kI default hil;have hm:l.getD i default∈l:=kM default hil;have hx:=hs _ hm;have hx2:=hv _ hm;have hx3:=hw _ hm;have hx4:=hi _ hm;rw [hd];have b1:=G3 h hx2 hx3;have b2:=G4 (cuts:=cuts) (dens:=dens) hD.1 hx4;have hc:((i+1:Nat):Int)=(i:Int)+1:=by omega
  have hc2:(((i+1:Nat):Int):Rat)=((i:Int):Rat)+1:=by rw [hc,Rat.intCast_add];rfl
  have hb:((i:Int):Rat)≤60:=nS.2 (show (i:Int)≤60 by omega);have hv1:=yEm h hD hx hx2 hx3 hx4;have es:q+dD (dV (vX cuts dens)) (l.getD i default::l.drop (i+1))=(q+dV (vX cuts dens) (l.getD i default))+dD (dV (vX cuts dens)) (l.drop (i+1)):=by show q+(dV (vX cuts dens) (l.getD i default)+dD (dV (vX cuts dens)) (l.drop (i+1)))=_;grind
  have step:yaK yaE yaN yaS yaY ya1 (fun _ _ _ _ _ a b _ _ _ _=>K a b 0) (fun _ _ _ a b e=>K a b e) (n+1) len (aI cuts) (aI dens) z z' q.num q.den (aS l) (l.length:Int) (i:Int) =
    yaY len (aI cuts) (aI dens) (l.getD i default).1.num (l.getD i default).1.den (l.getD i default).2.num (l.getD i default).2.den (fun a b e=>aB (e !=0) (K 0 0 e) (ya1 q.num q.den a b (fun a b e=>aB (e !=0) (K 0 0 e) (yaK yaE yaN yaS yaY ya1 (fun _ _ _ _ _ a b _ _ _ _=>K a b 0) (fun _ _ _ a b e=>K a b e) n len (aI cuts) (aI dens) z z' a b (aS l) (l.length:Int) ((i+1:Nat):Int))))):=by
   rw [yaK,bI (by omega)];dsimp only [lt];rw [gO,aJ (by omega),aJ (by omega),cE,pT hil,pU,vY,Eg,vZ,wA,e1,cZ]
  rw [es,step,hv1,nz];generalize dV (vX cuts dens) (l.getD i default)=v at b1 b2;have sq:small q:=hq.small (M:=720000) ⟨by omega,by omega⟩ (by omega) (by show -(720000:Rat)≤_;grind) (by show _≤(720000:Rat);grind);have sv:small v:=b2.small (M:=720000) ⟨by omega,by omega⟩ (by omega) (by show -(720000:Rat)≤_;grind) (by show _≤(720000:Rat);grind);have hb2:((i:Int):Rat)≤59:=nS.2 (show (i:Int)≤59 by omega);have ss:small (q+v):=(hq.add b2).small (M:=720000) ⟨by omega,by omega⟩ (by omega) (by show -(720000:Rat)≤_;grind) (by show _≤(720000:Rat);grind);have ih:=G5 h hD hs hv hw hi hl z z' K r (i+1) n (q+v) (by omega) (by omega) (hq.add b2) (by grind) (by rw [hc2];grind);refine ⟨ih.1,?_⟩;rw [Eb sq sv];unfold fitK;rw [Sj ss];dsimp only;rw [nz];exact ih.2
theorem Pc.Worth_good {l:List RS} (p:Pc l) (h:VC len cuts dens) (hw:Wi len l) {D:Int} (hD:1≤D∧D≤1000000000000) (hi:∀ s∈l,In D s.1∧In D s.2) :
  small (dD (dV (vX cuts dens)) l)∧∀ K,yaW len (aI cuts) (aI dens) (aS l) K=K (dD (dV (vX cuts dens)) l).num (dD (dV (vX cuts dens)) l).den 0:=by
 have l1:=h.l1;have l2:=h.l2;have l0:=h.len0;have hn:=p.n;have g:=fun K=>G5 h hD p.s (GM p.c) hw hi (by omega) 0 0 K l.length 0 (l.length+1) 0 (by omega) (by omega) (In.int hD.1 0) Rat.le_refl (by show (0:Rat)≤12000*0;grind)
 have g0:=(g fun _ _ _=>True).1;rw [hZ,Rat.zero_add] at g0;refine ⟨g0,fun K=>Xs _ _ _ _ _ _ _ (fun K k=>?_) K⟩;have hl:=(g K).2;rw [hZ,Rat.zero_add] at hl;unfold yaW Jz;rw [Ec (by omega) (by omega),h.ck,nz,p.check,nz];dsimp only [Go.Pf.jn,lt];rw [gO];have fin:∃ n,yaK yaE yaN yaS yaY ya1 (fun _ _ _ _ _ a b _ _ _ _=>K a b 0) (fun _ _ _ a b e=>K a b e) n len (aI cuts) (aI dens) 0 0 0 1 (aS l) (l.length:Int) 0:=⟨l.length+1,hl.mpr k⟩
 by_cases hl0:l.length=0
 ·rw [bE (by omega),aV];exact fin
 ·have h0:0<l.length:=by omega
  have m0:=kM (default:RS) h0;have m1:=kM (default:RS) (show l.length-1<l.length by omega);have w0:=hw _ m0;have w1:=hw _ m1;have s1:=p.s _ m1;have n0:0≤(l.getD 0 default).1.num:=Rat.num_nonneg.2 w0.1;have e1:=cI (n:=(l.length:Int)-1) (by omega) (by omega);have et:((l.length:Int)-1).toNat=l.length-1:=by omega
  rw [bI (by omega),aJ (by omega),pT h0,pU,vY,bE (by omega),e1,aJ (by omega),aJ (by omega),et,pT (by omega),pU,vZ,wA];have sl:small (len:Rat):=vQ (by omega);show yaS (l.getD (l.length-1) default).2.num (l.getD (l.length-1) default).2.den (len:Rat).num ((len:Rat).den:Int) _;rw [Ro s1.2 sl,C7,bE (by grind)];exact fin
end
theorem DV.Worth_good {cs:List Ck} {A:List (List RS)} (h:DV cs A) {D:Int} (hD:1≤D∧D≤1000000000000) (hi:GR D A) :
  (∀ c∈cs,∀ a∈A,Go.Pf.Vc.small (wV c a))∧∀ K,yak (aD cs) (aC A) K=K (aE cs A) 0:=by
 have h6:=h.d.n6;have h1:=h.d.n0;have hl:=h.l;have e:aM (A.map aS)=aC A:=by unfold aM aC;rw [iI];rfl
 have hall:∀ c∈cs,∀ a∈A,Go.Pf.Vc.small (wV c a)∧∀ K,yaW c.len (aI c.cuts) (aI c.dens) (aS a) K=K (wV c a).num (wV c a).den 0:=fun c hc a ha=>by
  obtain ⟨k1,k2⟩:=h.d.mem hc;refine (h.p a ha).Worth_good k1 ?_ hD (hi a ha);rw [k2];exact h.wi a ha
 refine ⟨fun c hc a ha=>(hall c hc a ha).1,fun K=>?_⟩;have hck:∀ K,ybi (aD cs) (aM (A.map aS)) K=K 0:=fun K=>by rw [e];exact Ej h K
 have hf:∀ c∈cs,∀ a∈A,fW c (aS a)=((wV c a).num,((wV c a).den:Int),0):=fun c hc a ha=>Ek (t:=((wV c a).num,((wV c a).den:Int),0)) (hall c hc a ha).2
 rw [← e];refine Ks (F:=fW) (by rw [cP];exact hl) h1 h6 hck (fun c hc p hp K=>?_) (fun _=>⟨?_,rfl⟩) (fun c hc p hp hn=>?_) K
 ·obtain ⟨a,ha,rfl⟩:=fT.1 hp;rw [hf c hc a ha];exact (hall c hc a ha).2 K
 ·unfold aE;refine nH fun c hc=>?_
  unfold bF;rw [iI,iI];congr 1;refine nH fun a ha=>?_
  show kJ (wV c a)=.agg [.int .i64 (fW c (aS a)).1,.int .i64 (fW c (aS a)).2.1];rw [hf c hc a ha];rfl
 ·obtain ⟨a,ha,rfl⟩:=fT.1 hp;rw [hf c hc a ha] at hn;exact absurd rfl hn
section
variable {cs:List Ck} {A:List (List RS)}
theorem G6 {cuts dens:List Int} {D:Int} (hD:1≤D):∀ {l:List RS},(∀ s∈l,In D s.1∧In D s.2)→In D (dD (dV (vX cuts dens)) l)
 | [],_=>In.int hD 0
 | s::_,h=>(G4 hD (h s eH)).add (G6 hD fun t ht=>h t (eE _ ht))
theorem G7 {len:Int} {cuts dens:List Int} (hv:VC len cuts dens):∀ {l:List RS},(∀ s∈l,s.1<s.2)→Wi len l→0≤dD (dV (vX cuts dens)) l∧dD (dV (vX cuts dens)) l≤12000*((l.length:Int):Rat)
 | [],_,_=>⟨Rat.le_refl,by show (0:Rat)≤12000*0;grind⟩
 | s::r,h,hw=>by
  have a:=G3 hv (h s eH) (hw s eH);have b:=G7 hv (l:=r) (fun t ht=>h t (eE _ ht)) (fun t ht=>hw t (eE _ ht));have hc:(((s::r).length:Int):Rat)=((r.length:Int):Rat)+1:=by rw [show ((s::r).length:Int)=(r.length:Int)+1 by rw [kR];omega,Rat.intCast_add];rfl
  rw [hc];show 0≤dV (vX cuts dens) s+dD (dV (vX cuts dens)) r∧dV (vX cuts dens) s+dD (dV (vX cuts dens)) r≤_;grind
theorem DV.wV_bound (h:DV cs A) {i j:Nat} (hi:i<cs.length) (hj:j<cs.length):0≤wV (cs.getD i default) (A.getD j [])∧wV (cs.getD i default) (A.getD j [])≤720000:=by have hl:=h.l;have hm:=kM [] (show j<A.length by omega);have hok:=h.d.ok i hi;have hw:=h.wi _ hm;rw [← h.d.len i hi] at hw;have p:=h.p _ hm;have b:=G7 hok (GM p.c) hw;have hn:(((A.getD j []).length:Int):Rat)≤60:=nS.2 (show ((A.getD j []).length:Int)≤60 by have:=p.n;omega);unfold wV;grind
theorem yHA (h:DV cs A) {D:Int} (hD:1≤D∧D≤100000000) (hi:GR D A) {j:Nat} (hj:j<cs.length):small (prt cs A j):=by
 have hl:=h.l;have hok:=h.d.ok j hj;have tb:=GI hok;have tp:=A9 hok;have b:=h.wV_bound hj hj;have hI:In D (wV (cs.getD j default) (A.getD j [])):=G6 hD.1 (hi _ (kM [] (by omega)));unfold prt;generalize totC (cs.getD j default).cuts (cs.getD j default).dens=t at tb tp;generalize wV (cs.getD j default) (A.getD j [])=w at b hI;have h1:(1:Rat)≤(t:Rat):=nS.2 (show (1:Int)≤t by omega);have t0:(t:Rat)≠0:=by grind
 have e:w/(t:Rat)*(t:Rat)=w:=Rat.div_mul_cancel t0;have tD:t*D≤12000*D:=zV tb.2 (by omega);have tD1:1*1≤t*D:=sB (by omega) hD.1 (by omega) (by omega);have p0:0≤w/(t:Rat):=Rat.not_lt.1 fun k=>by
  have:=Rat.mul_lt_mul_of_pos_right k (show (0:Rat)<(t:Rat) by grind);grind
 have p1:w/(t:Rat)≤720000:=by have:=Rat.mul_le_mul_of_nonneg_left h1 p0;grind
 exact (hI.div hD.1 (d:=t) (by omega)).small (M:=720000) ⟨by omega,by omega⟩ (by omega) (by show -(720000:Rat)≤_;grind) (by show _≤(720000:Rat);grind)
theorem DV.Make_of (h:DV cs A) (hw:∀ c∈cs,∀ a∈A,Go.Pf.Vc.small (wV c a)) (he:∀ K,yak (aD cs) (aC A) K=K (aE cs A) 0) (hs:∀ j,j<cs.length→Go.Pf.Vc.small (prt cs A j)) (K:Int→List PV→Int→Prop) :
  ybj (aD cs) (aC A) K=K (nG cs A (aO cs A cs.length) (bA cs A)) (aE cs A) 0:=by
 refine Gz _ _ _ _ _ (fun K k=>?_) K;unfold ybj Bj;rw [he];show aB false _ _;rw [aV];dsimp only [Go.Pf.jn];rw [dT];refine ⟨cs.length+1,(RI h hw _ _ _ _ (YY:=K 0 [] 16) rfl (fun _=>rfl)).mpr ?_⟩;rcases ygy (cs:=cs) (A:=A) cs.length 0 with ⟨_,e⟩ | ⟨hn,_⟩
 ·refine e.mpr ?_;show aB false _ _;rw [aV,show (decide ((bF (aO cs A cs.length)).length=(bF (aO cs A cs.length)).length)&&decide ((bF (aO cs A cs.length)).length=(bF (aO cs A cs.length)).length))=true by simp,cH];refine ⟨6,?_⟩;have hP:=zM cs A cs.length;have hg:=h.gapD_eq (aE cs A) (bF (aO cs A cs.length));have s:=fun (n i:Nat) (hi:i<5) (acc:Int)=>F6 h hw hP hg (fun f g l m o b d p q=>K b d (0:Int)) (n:=n) hi 0 acc (aE cs A)
  refine (s 5 0 (by omega) 0).mpr ((s 4 1 (by omega) _).mpr ((s 3 2 (by omega) _).mpr ((s 2 3 (by omega) _).mpr ((s 1 4 (by omega) _).mpr ?_))));rw [yX,bE (by omega)];exact k
 ·exact absurd (fun j h1 h2=>hs j (by omega)) hn
theorem DV.asked8 (h:DV cs A) (hw:∀ c∈cs,∀ a∈A,Go.Pf.Vc.small (wV c a)) (hW:∀ K,yak (aD cs) (aC A) K=K (aE cs A) 0) (hs:∀ j,j<cs.length→Go.Pf.Vc.small (prt cs A j)) (K:Int→Int→Bool→Int→Prop) :
  ybq (aD cs) (aC A) 8 K=K (brk cs A (aO cs A cs.length) (bA cs A) 8).1 (brk cs A (aO cs A cs.length) (bA cs A) 8).2.1 (brk cs A (aO cs A cs.length) (bA cs A) 8).2.2 0:=by
 refine xw _ _ _ _ _ _ _ (fun K k=>?_) K;have hb:=fun K=>Eo h hw (P:=aO cs A cs.length) (c:=8) (fun e=>zM cs A cs.length) (by omega) (g:=bA cs A) (fun K=>h.gapD_eq (aE cs A) (bF (aO cs A cs.length)) K) K
 unfold ybq JP;dsimp only [Go.Pf.jn];rw [Ej h];show yak _ _ _;rw [hW];show ∃ n,_;rw [dT];refine ⟨cs.length+1,(ytX h hw _ _ _ _ (YY:=K 0 0 false 16) rfl (fun _=>rfl)).mpr ?_⟩;rcases ygy (cs:=cs) (A:=A) cs.length 0 with ⟨_,e⟩ | ⟨hn,_⟩
 ·refine e.mpr ?_;show aB false _ _;rw [aV,aJ rfl,aJ (by omega),Ad,hb];exact k
 ·exact absurd (fun j h1 h2=>hs j (by omega)) hn
theorem DV.good (h:DV cs A) {D:Int} (hD:1≤D∧D≤100000000) (hi:GR D A) :
  (∀ c∈cs,∀ a∈A,Go.Pf.Vc.small (wV c a))∧(∀ K,yak (aD cs) (aC A) K=K (aE cs A) 0)∧(∀ j,j<cs.length→Go.Pf.Vc.small (prt cs A j)) ∧
  ∀ K,ybj (aD cs) (aC A) K=K (nG cs A (aO cs A cs.length) (bA cs A)) (aE cs A) 0:=by
 obtain ⟨h1,h2⟩:=h.Worth_good (D:=D) ⟨hD.1,by omega⟩ hi;have h3:=fun j (hj:j<cs.length)=>yHA h hD hi hj
 exact ⟨h1,h2,h3,h.Make_of h1 h2 h3⟩
end
theorem yM9 {α:Type} (f:α→Prop) (k:α):Go.Pf.jn f k=f k:=rfl
def cL:List Ck:=[⟨2,[0,2],[1]⟩,⟨2,[0,1,2],[3,1]⟩]
def G8:List (List Sp):=[[⟨0,1,1,1⟩],[⟨1,1,2,1⟩]]
def G9:List (List Sp):=[[⟨1,1,2,1⟩],[⟨0,1,1,1⟩]]
def kA:List (List RS):=[[(0,1)],[(1,2)]]
def zN:List (List RS):=[[(1,2)],[(0,1)]]
theorem yI1:G8.map eI=kA:=by decide +kernel
theorem yI2:G9.map eI=zN:=by decide +kernel
theorem Kx:DV cL kA:=by have:=(Kt (cs:=cL) (ps:=G8) (by decide +kernel)).1;rw [yI1] at this;exact this
theorem yNF:DV cL zN:=by have:=(Kt (cs:=cL) (ps:=G9) (by decide +kernel)).1;rw [yI2] at this;exact this
theorem H8 {A:List (List RS)} (h1:[((0:Rat),(1:Rat))]∈A) (h2:[((1:Rat),(2:Rat))]∈A):bA cL A=false:=by
 cases h:bA cL A with
 | false=>rfl
 | true=>
  obtain ⟨p,k0,k2,hn⟩:=F7.1 h;have k2:p<2:=k2;refine absurd ?_ hn
  by_cases hp:p<1
  ·exact ⟨_,h1,_,eH,k0,hp⟩
  ·exact ⟨_,h2,_,eH,Rat.not_lt.1 hp,k2⟩
theorem Ky:bA cL kA=false:=H8 (by decide) (by decide)
theorem yI3:bA cL zN=false:=H8 (by decide) (by decide)
theorem Kz {D:Int} (h:1≤D) (a b:Int):In D (a:Rat)∧In D (b:Rat):=⟨In.int h a,In.int h b⟩
theorem yI4:GR 1 kA:=by
 intro a ha s hs;unfold kA at ha;simp only [qAq,List.not_mem_nil,or_false] at ha;rcases ha with rfl | rfl<;>(simp only [qAq,List.not_mem_nil,or_false] at hs;subst hs)
 ·exact Kz (by omega) 0 1
 ·exact Kz (by omega) 1 2
theorem yI5:GR 1 zN:=by
 intro a ha s hs;unfold zN at ha;simp only [qAq,List.not_mem_nil,or_false] at ha;rcases ha with rfl | rfl<;>(simp only [qAq,List.not_mem_nil,or_false] at hs;subst hs)
 ·exact Kz (by omega) 1 2
 ·exact Kz (by omega) 0 1
def rU:List PV:=[.data [.agg [.int .i64 1,.int .i64 1],.agg [.int .i64 1,.int .i64 1]],.data [.agg [.int .i64 3,.int .i64 1],.agg [.int .i64 1,.int .i64 1]]]
theorem yI6:aE cL kA=rU:=by kernel_rfl
theorem yEo:nG cL kA (aO cL kA 2) false=17:=by decide +kernel
theorem yEp:nG cL zN (aO cL zN 2) false=23:=by decide +kernel
theorem RQ:brk cL kA (aO cL kA 2) false 2=(1,1,true)∧brk cL kA (aO cL kA 2) false 4=(1,0,true)∧brk cL kA (aO cL kA 2) false 8=(1,0,true):=by decide +kernel
theorem yHB (K:Bool→Prop):Be rU rU K=K true:=by refine so _ _ _ (fun K k=>?_) K;unfold Be PU;show ∃ n,_;refine ⟨3,?_⟩;show ∃ n,_;refine ⟨3,?_⟩;show ∃ n,_;exact ⟨3,k⟩
theorem yEq (s t:Sp) (x0:List PV→Int→Bool→Prop) (x1:List PV→List PV→Int→Bool→Prop):QI x0 x1 4 [cC s,cC t] 0=x1 [.data [cC s],.data [cC t]] [cC s,cC t] 2 false:=by kernel_rfl
theorem H9 (s t:Sp) (K:List PV→Prop):zB [cC s,cC t] K=K [.data [cC s],.data [cC t]]:=by refine yz _ _ (fun K k=>?_) K;unfold zB QJ;refine ⟨4,?_⟩;rw [yEq];rw [aJ rfl,aJ (by simp)];exact k
theorem of6 (a b:Int) (K:Int→Int→Int→Int→Prop):QE a b K=K a 1 b 1:=rfl
theorem Of6 (a:Int) (K:Int→Int→Prop):Ds a K=K a 1:=rfl
theorem yJZ (K:List PV→Prop):QO K=K (aD cL):=rfl
theorem yI8:[PV.data [cC ⟨0,1,1,1⟩],PV.data [cC ⟨1,1,2,1⟩]]=aC kA:=by kernel_rfl
theorem yI9:[PV.data [cC ⟨1,1,2,1⟩],PV.data [cC ⟨0,1,1,1⟩]]=aC zN:=by kernel_rfl
theorem RR {c:Int} {a b:Int} (h:∀ K,ybq (aD cL) (aC kA) c K=K a b true 0) (K:Bool→Prop):JX (aD cL) (aC kA) c a b K=K true:=by unfold JX QR;rw [RP h,Sj rfl,RO h];dsimp only [Go.Pf.jn];rw [kH rfl,kH rfl,kH rfl,kH rfl];rfl
theorem KA (K:Bool→Prop):vL K=K true:=by
 have gf:=Kx.good (D:=1) ⟨by omega,by omega⟩ yI4;have gb:=yNF.good (D:=1) ⟨by omega,by omega⟩ yI5;have e2:∀ K,ybq (aD cL) (aC kA) 2 K=K 1 1 true 0:=fun K=>by
  rw [Kx.asked gf.1 gf.2.1 (.inr (.inl rfl)),Ky,show cL.length=2 from rfl,RQ.1]
 have e4:∀ K,ybq (aD cL) (aC kA) 4 K=K 1 0 true 0:=fun K=>by
  rw [Kx.asked gf.1 gf.2.1 (.inr (.inr (.inl rfl))),Ky,show cL.length=2 from rfl,RQ.2.1]
 have e8:∀ K,ybq (aD cL) (aC kA) 8 K=K 1 0 true 0:=fun K=>by
  rw [Kx.asked8 gf.1 gf.2.1 gf.2.2.1,Ky,show cL.length=2 from rfl,RQ.2.2]
 unfold vL QT;simp only [of6,Of6,yJZ];show zB [cC ⟨0,1,1,1⟩,cC ⟨1,1,2,1⟩] _=_;rw [H9];show zB [cC ⟨1,1,2,1⟩,cC ⟨0,1,1,1⟩] _=_;rw [H9,yI8,yI9,gf.2.1,gf.2.2.2,gb.2.2.2,Ky,yI3,show cL.length=2 from rfl,yEo,yEp,yI6,yM9,kH rfl];show Be rU rU _=_;rw [yHB,aY,kH rfl,kH rfl,kH rfl,kH rfl,RR e2,aY,RR e4,aY,RR e8]
def oS:DS:=.a [.s (.s rR)]
theorem I0:∀ (rows:List PV),(∀ x∈rows,x.isAgg=(DS.s rR).isA∧HasF (.s rR) x.cells)→∃ l:List (List Sp),rows=jM l∧∀ p∈l,∀ s∈p,s.i64
 | [],_=>⟨[],rfl,by simp⟩
 | x::r,h=>by
  obtain ⟨l,e,hl⟩:=I0 r (fun y hy=>h y (eE _ hy));obtain ⟨h1,h2⟩:=h x (eH ..);obtain ⟨p,ex,hp⟩:=yJS h1 h2;refine ⟨p::l,by rw [ex,e];rfl,fun q hq=>?_⟩;rcases qAq.1 hq with rfl | hq
  ·exact hp
  ·exact hl q hq
theorem yNc {az:List PV} (h:yix [.s tI,oS] az):∃ (l:List Ck) (ps:List (List Sp)),az=[.data (aD l),.agg [.data (jM ps)]]∧l.length≤9223372036854775807∧ps.length≤9223372036854775807∧∀ p∈ps,∀ s∈p,s.i64:=by
 simp only [yix] at h;obtain ⟨x,r,rfl,x1,x2,y,r2,rfl,y1,y2,rfl⟩:=h;obtain ⟨l,e1,hl,_⟩:=yMO x2;rw [GJ x1 e1,Kj (l:=[.s (.s rR)]) y1];generalize y.cells=c at y2;simp only [oS,HasF,HasL] at y2;obtain ⟨c1,c2,rfl,⟨rows,rfl,hr,hx⟩,rfl⟩:=y2;obtain ⟨ps,rfl,hp⟩:=I0 rows (fun x hx'=>by
  obtain ⟨k1,k2⟩:=hx x hx';exact ⟨k1,by simp only [HasF];exact k2⟩)
 rw [vT] at hr;exact ⟨l,ps,rfl,hl,hr,hp⟩
theorem I1 {l:List Rat} (hl:l.length<1000) {K:Bool→Prop} :
  ∀ (r i n:Nat),i+r=l.length→r<n→uM (fun _ _ _ _ _=>K true) (fun b=>K b) n (bF l) (bF l) (l.length:Int) (i:Int)=K true
 | 0,i,n+1,hi,hn=>by rw [uM,bE (by omega)]
 | r+1,i,n+1,hi,hn=>by
  have e1:=cI (n:=(i:Int)+1) (by omega) (by omega);have ih:=I1 hl (K:=K) r (i+1) n (by omega) (by omega);rw [uM];dsimp only [lt];rw [bI (by omega),kK,aJ (by omega),aJ (by omega),cE,mH (by omega),lO,aJ (by omega),aJ (by omega),lO,nC,nD,e1,cZ,ih];have eb:∀ a b:Int,(!((a==a)&&((b==b)&&true)))=false:=fun a b=>by simp
  rw [eb,aV]
theorem I2 {l:List Rat} (hl:l.length<1000) (K:Bool→Prop):lJ (bF l) (bF l) K=K true:=by refine Xf _ _ _ (fun K k=>?_) K;unfold lJ Jx;rw [kK,fA rfl];exact ⟨l.length+1,(I1 hl (K:=K) l.length 0 (l.length+1) (by omega) (by omega)).mpr k⟩
section
variable {cs:List Ck} {A:List (List RS)}
theorem I3 (h:DV cs A) {a0 a2 a3 a4 a5} (x0:List PV→List PV→List PV→List PV→List PV→Int→Int→Bool→Prop) (x1:List PV→List PV→List PV→Bool→Prop) :
  ∀ (r i n:Nat),i+r=cs.length→r<n→vK a0 lJ a2 a3 a4 a5 x0 x1 n (aD cs) (aC A) (aE cs A) (aE cs A) (aE cs A) (cs.length:Int) (i:Int)=x0 (aD cs) (aC A) (aE cs A) (aE cs A) (aE cs A) (cs.length:Int) (cs.length:Int) false
 | 0,i,n+1,hi,hn=>by
  obtain rfl:i=cs.length:=by omega
  rw [vK,bE (by omega)]
 | r+1,i,n+1,hi,hn=>by have h6:=h.d.n6;have hl:=h.l;have e1:=cI (n:=(i:Int)+1) (by omega) (by omega);have ih:=I3 h (a0:=a0) (a2:=a2) (a3:=a3) (a4:=a4) (a5:=a5) x0 x1 r (i+1) n (by omega) (by omega);rw [vK];dsimp only [lt];rw [bI (by omega),lP,aJ (by omega),aJ (by omega),cE,pW (by omega),gG,aJ (by omega),aJ (by omega),gG,dU,I2 (by rw [cP];omega),e1,cZ,sD,aV,ih]
def gP (c:Int) (i:Nat):Bool:=jZ (Int.fdiv c (2 ^ (min ((i:Int)).toNat u8.bits))) 1==0
end
theorem yJa {n g:Nat} (e:Es) (he:EG e) {x y:PV} (hx:(nM n g).s.gd x=true) (hy:(nM n g).s.gd y=true):Ans (E e) CL [x,y] (.int .i64 (pN x y)):=by
 obtain ⟨a,b,c,d,rfl,h1⟩:=C5 hx;obtain ⟨a',b',c',d',rfl,h2⟩:=C5 hy;obtain ⟨r,hr,ha⟩:=ug e he [.agg [.int .i64 a,.int .i64 b,.int .i64 c,.int .i64 d],.agg [.int .i64 a',.int .i64 b',.int .i64 c',.int .i64 d']] (fun r=>r=.int .i64 (kF a b a' b')) (by
  show Qj a b c d a' b' c' d' (fun r=>PV.int .i64 r=.int .i64 (kF a b a' b'));unfold Qj Qi;obtain ⟨k1,k2,k3⟩:=mE h1;obtain ⟨k4,k5,k6⟩:=mE h2;have:=Ke k1 k4 (fun x _=>PV.int .i64 x=.int .i64 (kF a b a' b'));rw [k2,k3,k5,k6] at this;rw [this,yMp h1 h2])
 rw [hr] at ha;exact ha
set_option maxRecDepth 100000
def I4:List An→List An
 | []=>[]
 | a::r=>⟨a.at_,.raw,a.md⟩::I4 r
def iG:TC→TC
 | .ops l an ps fg=>.ops l (I4 an) ps fg
 | .seq a b=>.seq (iG a) (iG b)
 | .cond c a b=>.cond c (iG a) (iG b)
 | .block i b=>.block i (iG b)
 | .loop i b=>.loop i (iG b)
 | c=>c
def iU (t:TFn):TFn:=⟨t.nparams,t.results,iG t.body⟩
def BC:List Nat:=[mR,iO,jG,jH,jV,qX,sO,mS,jW]
def pX (t:Int):PV:=.agg [.int .i64 t,.int .i64 1]
def Ep:List Nat:=[iE,sP]
structure S2 where
 fa:PV→PV→Int
 fb:PV→PV→Int
 ft:PV→Int
 da:PV→PV→Int
 db:PV→PV→Int
 b0:List PV→Int
 b1:List PV→Int
 b2:List PV→Bool
 ac:List PV→Bool
 ho:List PV→Bool
 w0:List PV→Int
 w1:List PV→Int
 w2:List PV→Int
section
variable (e:Es) (S:S2)
def Er (az:List PV):PV:=.tup [.int .i64 (S.b0 az),.int .i64 (S.b1 az),.bool (S.b2 az)]
def RT (n:Nat) (az:List PV):PV:=bif Nat.beq n iE then Er S az else .tup [.bool (S.ac az),.int .i64 0]
noncomputable def E2:Env:=(E e).two BC Ep (RT S)
def GS (az:List PV) (K:PV→Prop):Prop:=Ans (E e) mR az (.int .i64 0)∧K (.int .i64 0)
def BD (az:List PV) (K:PV→Prop):Prop:=
 match az with
 | [c,p]=>Ans (E e) iO [c,p] (.tup [.agg [.int .i64 (S.fa c p),.int .i64 (S.fb c p)],.int .i64 0])∧K (.tup [.agg [.int .i64 (S.fa c p),.int .i64 (S.fb c p)],.int .i64 0])
 | _=>False
def BE (az:List PV) (K:PV→Prop):Prop:=
 match az with
 | [c]=>Ans (E e) jG [c] (.tup [.int .i64 (S.ft c),.int .i64 0])∧K (.tup [.int .i64 (S.ft c),.int .i64 0])
 | _=>False
def BF (az:List PV) (K:PV→Prop):Prop:=
 match az with
 | [x,y]=>Ans (E e) jH [x,y] (.tup [.agg [.int .i64 (S.da x y),.int .i64 (S.db x y)],.int .i64 0])∧K (.tup [.agg [.int .i64 (S.da x y),.int .i64 (S.db x y)],.int .i64 0])
 | _=>False
def BG (az:List PV) (K:PV→Prop):Prop:=
 match az with
 | [.int .i64 t]=>Ans (E e) jV [.int .i64 t] (pX t)∧K (pX t)
 | _=>False
noncomputable def I5:Nat→Option (List PV→(PV→Prop)→Prop):=yeY [(mR,GS e),(iO,BD e S),(jG,BE e S),(jH,BF e S),(jV,BG e)]
noncomputable def Et:SE:=⟨E2 e S,I5 e S,yez [],fun _ _ _ _ _=>False,fun _=>none⟩
noncomputable def GT:LP:=fun id _ F H Q=>bif Nat.beq id 14283600 then UL (E2 e S) (jD (Et e S) 2) (fun _ _ _ _ _=>False) (iG sQ) 8 F H Q else False
noncomputable def GU:LP:=fun id _ F H Q=>
 bif Nat.beq id 14283600 then UL (E2 e S) (jD (Et e S) 2) (fun _ _ _ _ _=>False) (iG sQ) 8 F H Q else
 bif Nat.beq id 14283601 then UL (E2 e S) (jD (Et e S) 2) (GT e S) (iG CR) 8 F H Q else
 bif Nat.beq id 20643600 then UL (E2 e S) (jD (Et e S) 2) (fun _ _ _ _ _=>False) (iG pP) 8 F H Q else
 bif Nat.beq id 65264200 then UL (E2 e S) (jD (Et e S) 2) (fun _ _ _ _ _=>False) (iG CU) 8 F H Q else False
noncomputable def KB:SE:=⟨E2 e S,I5 e S,yez [(xZ,iU yC),(jF,iU uG),(FJ,iU AM)],GU e S,fun _=>none⟩
def fB (cs:List Ck) (ps:List (List PV)):List (List PV):=cs.map fun c=>ps.map fun p=>.agg [.int .i64 (S.fa (cA c) (.data p)),.int .i64 (S.fb (cA c) (.data p))]
def I6 (n:Nat):Nat→Nat→List PV
 | 0,_=>[]
 | r+1,j=>.own (j+1) 0 n n none::I6 n r (j+1)
def X2 (tb:List (List PV)):Hp:=⟨false,false,1,I6 tb.length tb.length 0⟩::tb.map fun r=>⟨false,true,2,r⟩
def RU:List (PV×PV)→Prop→Prop
 | [],f=>f
 | q::r,f=>Ans (E e) iO [q.1,q.2] (.tup [.agg [.int .i64 (S.fa q.1 q.2),.int .i64 (S.fb q.1 q.2)],.int .i64 0])∧RU r f
end
def I7 (a b:Int):Int:=u8.wrap (BitVec.ofInt u8.bits a|||BitVec.ofInt u8.bits b).toNat
def wK:Nat→Int
 | 0=>1
 | 1=>2
 | 2=>4
 | 3=>8
 | _=>16
section
variable (e:Es) (S:S2)
def Eu (c x:PV):PV:=.agg [.int .i64 (S.da x (pX (S.ft c))),.int .i64 (S.db x (pX (S.ft c)))]
def GV:List (PV×PV)→List (PV×PV):=fun l=>l.map fun q=>(q.1,.agg [.int .i64 (S.fa q.1 q.2),.int .i64 (S.fb q.1 q.2)])
def BH:List (PV×PV)→Prop→Prop
 | [],f=>f
 | q::r,f=>Ans (E e) jG [q.1] (.tup [.int .i64 (S.ft q.1),.int .i64 0])∧Ans (E e) jV [.int .i64 (S.ft q.1)] (pX (S.ft q.1))∧Ans (E e) jH [q.2,pX (S.ft q.1)] (.tup [Eu S q.1 q.2,.int .i64 0])∧BH r f
def oT (cs:List Ck) (ps:List (List PV)) (prt:List PV) (i:Nat):List PV:=
 [.eptr [.agg [.data (aD cs),.data (aM ps),.data (wC S.fa S.fb cs ps),.data prt]] 0 0,.int .u8 (wK i)]
def rV (cs:List Ck) (ps:List (List PV)) (prt:List PV) (K:Int→Prop):Nat→Nat→Int→Prop
 | 0,_,c=>K c
 | r+1,i,c=>aA (mQ (E e) iE (oT S cs ps prt i) (Er S (oT S cs ps prt i))&&true)
  (aB (!(S.b2 (oT S cs ps prt i))) (rV cs ps prt K r (i+1) (I7 c (wK i))) (rV cs ps prt K r (i+1) c))
def gQ (cs:List Ck) (ps:List (List PV)):List PV:=(GV S ((cs.zip ps).map fun q=>(cA q.1,.data q.2))).map fun q=>Eu S q.1 q.2
def M2 (cs:List Ck) (ps:List (List PV)):Hp:=
 X2 (fB S cs ps)++[⟨false,false,4,[.agg [.data (aD cs),.data (aM ps),.own 0 0 cs.length cs.length (some cs.length),.own (cs.length+2) 0 cs.length cs.length none]]⟩,⟨false,true,2,gQ S cs ps⟩]
def mr2 (cs:List Ck) (ps:List (List PV)) (K:PV→Hp→Prop):Prop:=
 Cu (E2 e S) (jD (KB e S) 4) (GU e S) (iU CT) [.data (aD cs),.agg [.data (aM ps)]] [] K
def BI (cs:List Ck) (ps:List (List PV)) (K:PV→Hp→Prop):Prop:=
 Ans (E e) mR [.data (aD cs),.agg [.data (aM ps)]] (.int .i64 0)∧RU e S (Bx cs ps) (BH e S (GV S ((cs.zip ps).map fun q=>(cA q.1,.data q.2)))
  (rV e S cs ps (gQ S cs ps) (fun c=>K (.tup [.agg [.int .u8 c,.own 0 0 cs.length cs.length (some cs.length)],.int .i64 0]) (M2 S cs ps)) 5 0 0))
theorem yNd (c0:Ck) (p0:List PV) (K:PV→Hp→Prop):mr2 e S [c0] [p0] K=BI e S [c0] [p0] K:=by kernel_rfl
theorem yNe (c0 c1:Ck) (p0 p1:List PV) (K:PV→Hp→Prop):mr2 e S [c0,c1] [p0,p1] K=BI e S [c0,c1] [p0,p1] K:=by kernel_rfl
theorem yNf (c0 c1 c2:Ck) (p0 p1 p2:List PV) (K:PV→Hp→Prop):mr2 e S [c0,c1,c2] [p0,p1,p2] K=BI e S [c0,c1,c2] [p0,p1,p2] K:=by kernel_rfl
theorem yNg (c0 c1 c2 c3:Ck) (p0 p1 p2 p3:List PV) (K:PV→Hp→Prop):mr2 e S [c0,c1,c2,c3] [p0,p1,p2,p3] K=BI e S [c0,c1,c2,c3] [p0,p1,p2,p3] K:=by kernel_rfl
theorem yNh (c0 c1 c2 c3 c4:Ck) (p0 p1 p2 p3 p4:List PV) (K:PV→Hp→Prop):mr2 e S [c0,c1,c2,c3,c4] [p0,p1,p2,p3,p4] K=BI e S [c0,c1,c2,c3,c4] [p0,p1,p2,p3,p4] K:=by kernel_rfl
theorem yNi (c0 c1 c2 c3 c4 c5:Ck) (p0 p1 p2 p3 p4 p5:List PV) (K:PV→Hp→Prop):mr2 e S [c0,c1,c2,c3,c4,c5] [p0,p1,p2,p3,p4,p5] K=BI e S [c0,c1,c2,c3,c4,c5] [p0,p1,p2,p3,p4,p5] K:=by kernel_rfl
end
def eR:Nat→TC→TC
 | 0,c=>c
 | n+1,.seq _ b=>eR n b
 | _+1,c=>c
def hd2:Nat→TC→TC
 | n+1,.seq a b=>.seq a (hd2 n b)
 | _,_=>.skip
def kP:TC:=(iU CV).body
section
variable (e:Es) (S:S2)
def GW (n:Nat) (az:List PV) (K:PV→Prop):Prop:=Ans (E e) n az (.bool true)∧K (.bool true)
def RW (az:List PV) (K:PV→Prop):Prop:=Ans (E e) mS az (.tup [.bool (S.ho az),.int .i64 0])∧K (.tup [.bool (S.ho az),.int .i64 0])
def BJ (az:List PV):PV:=.tup [.int .i64 (S.w0 az),.int .i64 (S.w1 az),.int .i64 (S.w2 az)]
def RX (az:List PV) (K:PV→Prop):Prop:=Ans (E e) jW az (BJ S az)∧K (BJ S az)
noncomputable def I8:SE:=⟨E2 e S,yeY [(qX,GW e qX),(sO,GW e sO),(mS,RW e S),(jW,RX e S)],yez [],fun _ _ _ _ _=>False,fun _=>none⟩
noncomputable def KC (MP:List PV→Hp→Prop) (r:PV) (HM:Hp):CK:=fun f args H K=>
 match f with
 | .fn (.func m) [] []=>bif Nat.beq m kV then MP args H∧K r HM else jD (I8 e S) 2 f args H K
 | _=>False
noncomputable def BK (MP:List PV→Hp→Prop) (r:PV) (HM:Hp):LP:=fun id _ F H Q=>
 bif Nat.beq id 89800100 then UL (E2 e S) (KC e S MP r HM) (fun _ _ _ _ _=>False) (iG CW) 8 F H Q else False
def jQ (a b:Int):Int:=u8.wrap (BitVec.ofInt u8.bits a&&&BitVec.ofInt u8.bits b).toNat
def wL (b:Bool) (cl c:Int) (x y:Prop):Prop:=
 aB (decide (cl≤31)) (aB (b !=(jQ cl c==cl)) x y) (aB (b !=false) x y)
noncomputable def wL2 (MP:List PV→Hp→Prop) (r:PV) (HM:Hp) (c:TC) (F:aG) (H:Hp) (Q:Ex→aG→Hp→Prop):Prop:=WC (E2 e S) (KC e S MP r HM) (BK e S MP r HM) [] oH c F H Q
def pY (n:Nat) (c:Int):PV:=.tup [.agg [.int .u8 c,.own 0 0 n n (some n)],.int .i64 0]
def hK (r0 r1:Int):PV:=.agg [.int .i64 r0,.int .i64 r1]
def RY (L Pc:List PV) (cl i k r0 r1:Int):aG:=[(0,.v (.data L)),(1,.v (.agg [.data Pc])),(2,.v (.int .u8 cl)),(3,.v (.int .i64 i)),(4,.v (.int .i64 k)),(5,.v (hK r0 r1))]
def lQ (L Pc:List PV) (cl i k r0 r1:Int):aG:=[(0,.v (.data L)),(2,.v (.int .u8 cl)),(3,.v (.int .i64 i)),(4,.v (.int .i64 k)),(7,.box (.agg [.data Pc])),(11,.box (hK r0 r1)),(30,.v (.bool false))]
def gC (L Pc:List PV) (n:Nat) (i k r0 r1 c:Int):aG:=[(0,.v (.data L)),(3,.v (.int .i64 i)),(4,.v (.int .i64 k)),(7,.box (.agg [.data Pc])),(11,.box (hK r0 r1)),(13,.box (.agg [.int .u8 c,.own 0 0 n n (some n)])),(77,.v (.bool false))]
def lR (L Pc:List PV) (n:Nat) (i k r0 r1 c:Int):aG:=[(0,.v (.data L)),(3,.v (.int .i64 i)),(4,.v (.int .i64 k)),(7,.box (.agg [.data Pc])),(11,.box (hK r0 r1)),(13,.box (.agg [.int .u8 c,.own 0 0 n n (some n)])),(18,.v (.int .i64 5)),(79,.v (.bool false))]
def GX (cs:List Ck) (ps:List (List PV)) (cl:Int) (tab:List (List PV)):List PV:=[.data (aD cs),.agg [.data (aM ps)],.agg [.int .u8 cl,.data (tab.map .data)]]
noncomputable def nP (cs:List Ck) (ps:List (List PV)) (cl:Int) (tab:List (List PV)):Bool:=mQ (E e) sP (GX cs ps cl tab) (.tup [.bool (S.ac (GX cs ps cl tab)),.int .i64 0])&&true
def nQ (cs:List Ck) (ps:List (List PV)) (cl:Int) (tab:List (List PV)):Bool:=S.ac (GX cs ps cl tab)
def fF (L Pc:List PV) (t:Nat):List PV:=[.data L,.agg [.data Pc],.int .u8 (wK t)]
def tK (L Pc:List PV) (c:Int) (X Y:Prop):Nat→Nat→Prop
 | 0,_=>Y
 | r+1,t=>Ans (E e) mS (fF L Pc t) (.tup [.bool (S.ho (fF L Pc t)),.int .i64 0])∧Ans (E e) jW (fF L Pc t) (BJ S (fF L Pc t)) ∧
  aB (S.ho (fF L Pc t) !=(jQ c (wK t) !=0)) X (aB (S.ho (fF L Pc t) !=(S.w2 (fF L Pc t)==6)) X (aB (!(S.ho (fF L Pc t))) (aB (S.w2 (fF L Pc t) !=0) X (tK L Pc c X Y r (t+1))) (tK L Pc c X Y r (t+1))))
def I9 (X:Prop):Prop:=Ans (E e) sO [] (.bool true)∧X
def lS (b:Bool):aG:=[(12,.v (.bool b))]
def J0 (cs:List Ck) (ps:List (List PV)) (tab:List (List PV)):Hp:=
 X2 tab++[⟨false,false,4,[.agg [.data (aD cs),.data (aM ps),.own 0 0 cs.length cs.length (some cs.length),.own (cs.length+2) 0 cs.length cs.length none]]⟩,⟨false,true,2,gQ S cs ps⟩]
def wM (tab:List (List PV)) (i k:Nat) (x:PV):List (List PV):=tab.set i ((tab.getD i []).set k x)
variable (MP:List PV→Hp→Prop) (r:PV) (HM:Hp) (L Pc:List PV) (cl i k r0 r1 c:Int) (Q:Ex→aG→Hp→Prop)
theorem lwA:wL2 e S MP r HM (hd2 2 kP) (RY L Pc cl i k r0 r1) [] Q=(Ans (E e) qX [.data L,.agg [.data Pc]] (.bool true)∧Q .norm (lQ L Pc cl i k r0 r1) []):=by kernel_rfl
theorem yNj (c0:Ck) (p0:List PV):wL2 e S MP (pY 1 c) (M2 S [c0] [p0]) (hd2 6 (eR 2 kP)) (lQ (aD [c0]) (aM [p0]) cl i k r0 r1) [] Q=(MP [.data (aD [c0]),.agg [.data (aM [p0])]] []∧aA (nP e S [c0] [p0] cl (fB S [c0] [p0])) (wL (nQ S [c0] [p0] cl (fB S [c0] [p0])) cl c (Q .ret (lS false) (M2 S [c0] [p0])) (Q .norm (gC (aD [c0]) (aM [p0]) 1 i k r0 r1 c) (M2 S [c0] [p0])))):=by kernel_rfl
theorem yNk (c0:Ck) (p0:List PV):wL2 e S MP r HM (hd2 1 (eR 8 kP)) (gC (aD [c0]) (aM [p0]) 1 i k r0 r1 c) (M2 S [c0] [p0]) Q=tK e S (aD [c0]) (aM [p0]) c (Q .ret (lS false) (M2 S [c0] [p0])) (Q .norm (lR (aD [c0]) (aM [p0]) 1 i k r0 r1 c) (M2 S [c0] [p0])) 5 0:=by kernel_rfl
theorem yNl (c0 c1:Ck) (p0 p1:List PV):wL2 e S MP (pY 2 c) (M2 S [c0,c1] [p0,p1]) (hd2 6 (eR 2 kP)) (lQ (aD [c0,c1]) (aM [p0,p1]) cl i k r0 r1) [] Q=(MP [.data (aD [c0,c1]),.agg [.data (aM [p0,p1])]] []∧aA (nP e S [c0,c1] [p0,p1] cl (fB S [c0,c1] [p0,p1])) (wL (nQ S [c0,c1] [p0,p1] cl (fB S [c0,c1] [p0,p1])) cl c (Q .ret (lS false) (M2 S [c0,c1] [p0,p1])) (Q .norm (gC (aD [c0,c1]) (aM [p0,p1]) 2 i k r0 r1 c) (M2 S [c0,c1] [p0,p1])))):=by kernel_rfl
theorem yNm (c0 c1:Ck) (p0 p1:List PV):wL2 e S MP r HM (hd2 1 (eR 8 kP)) (gC (aD [c0,c1]) (aM [p0,p1]) 2 i k r0 r1 c) (M2 S [c0,c1] [p0,p1]) Q=tK e S (aD [c0,c1]) (aM [p0,p1]) c (Q .ret (lS false) (M2 S [c0,c1] [p0,p1])) (Q .norm (lR (aD [c0,c1]) (aM [p0,p1]) 2 i k r0 r1 c) (M2 S [c0,c1] [p0,p1])) 5 0:=by kernel_rfl
theorem yNn (c0 c1 c2:Ck) (p0 p1 p2:List PV):wL2 e S MP (pY 3 c) (M2 S [c0,c1,c2] [p0,p1,p2]) (hd2 6 (eR 2 kP)) (lQ (aD [c0,c1,c2]) (aM [p0,p1,p2]) cl i k r0 r1) [] Q=(MP [.data (aD [c0,c1,c2]),.agg [.data (aM [p0,p1,p2])]] []∧aA (nP e S [c0,c1,c2] [p0,p1,p2] cl (fB S [c0,c1,c2] [p0,p1,p2])) (wL (nQ S [c0,c1,c2] [p0,p1,p2] cl (fB S [c0,c1,c2] [p0,p1,p2])) cl c (Q .ret (lS false) (M2 S [c0,c1,c2] [p0,p1,p2])) (Q .norm (gC (aD [c0,c1,c2]) (aM [p0,p1,p2]) 3 i k r0 r1 c) (M2 S [c0,c1,c2] [p0,p1,p2])))):=by kernel_rfl
theorem yNo (c0 c1 c2:Ck) (p0 p1 p2:List PV):wL2 e S MP r HM (hd2 1 (eR 8 kP)) (gC (aD [c0,c1,c2]) (aM [p0,p1,p2]) 3 i k r0 r1 c) (M2 S [c0,c1,c2] [p0,p1,p2]) Q=tK e S (aD [c0,c1,c2]) (aM [p0,p1,p2]) c (Q .ret (lS false) (M2 S [c0,c1,c2] [p0,p1,p2])) (Q .norm (lR (aD [c0,c1,c2]) (aM [p0,p1,p2]) 3 i k r0 r1 c) (M2 S [c0,c1,c2] [p0,p1,p2])) 5 0:=by kernel_rfl
theorem yNp (c0 c1 c2 c3:Ck) (p0 p1 p2 p3:List PV):wL2 e S MP (pY 4 c) (M2 S [c0,c1,c2,c3] [p0,p1,p2,p3]) (hd2 6 (eR 2 kP)) (lQ (aD [c0,c1,c2,c3]) (aM [p0,p1,p2,p3]) cl i k r0 r1) [] Q=(MP [.data (aD [c0,c1,c2,c3]),.agg [.data (aM [p0,p1,p2,p3])]] []∧aA (nP e S [c0,c1,c2,c3] [p0,p1,p2,p3] cl (fB S [c0,c1,c2,c3] [p0,p1,p2,p3])) (wL (nQ S [c0,c1,c2,c3] [p0,p1,p2,p3] cl (fB S [c0,c1,c2,c3] [p0,p1,p2,p3])) cl c (Q .ret (lS false) (M2 S [c0,c1,c2,c3] [p0,p1,p2,p3])) (Q .norm (gC (aD [c0,c1,c2,c3]) (aM [p0,p1,p2,p3]) 4 i k r0 r1 c) (M2 S [c0,c1,c2,c3] [p0,p1,p2,p3])))):=by kernel_rfl
theorem yNq (c0 c1 c2 c3:Ck) (p0 p1 p2 p3:List PV):wL2 e S MP r HM (hd2 1 (eR 8 kP)) (gC (aD [c0,c1,c2,c3]) (aM [p0,p1,p2,p3]) 4 i k r0 r1 c) (M2 S [c0,c1,c2,c3] [p0,p1,p2,p3]) Q=tK e S (aD [c0,c1,c2,c3]) (aM [p0,p1,p2,p3]) c (Q .ret (lS false) (M2 S [c0,c1,c2,c3] [p0,p1,p2,p3])) (Q .norm (lR (aD [c0,c1,c2,c3]) (aM [p0,p1,p2,p3]) 4 i k r0 r1 c) (M2 S [c0,c1,c2,c3] [p0,p1,p2,p3])) 5 0:=by kernel_rfl
theorem yNr (c0 c1 c2 c3 c4:Ck) (p0 p1 p2 p3 p4:List PV):wL2 e S MP (pY 5 c) (M2 S [c0,c1,c2,c3,c4] [p0,p1,p2,p3,p4]) (hd2 6 (eR 2 kP)) (lQ (aD [c0,c1,c2,c3,c4]) (aM [p0,p1,p2,p3,p4]) cl i k r0 r1) [] Q=(MP [.data (aD [c0,c1,c2,c3,c4]),.agg [.data (aM [p0,p1,p2,p3,p4])]] []∧aA (nP e S [c0,c1,c2,c3,c4] [p0,p1,p2,p3,p4] cl (fB S [c0,c1,c2,c3,c4] [p0,p1,p2,p3,p4])) (wL (nQ S [c0,c1,c2,c3,c4] [p0,p1,p2,p3,p4] cl (fB S [c0,c1,c2,c3,c4] [p0,p1,p2,p3,p4])) cl c (Q .ret (lS false) (M2 S [c0,c1,c2,c3,c4] [p0,p1,p2,p3,p4])) (Q .norm (gC (aD [c0,c1,c2,c3,c4]) (aM [p0,p1,p2,p3,p4]) 5 i k r0 r1 c) (M2 S [c0,c1,c2,c3,c4] [p0,p1,p2,p3,p4])))):=by kernel_rfl
theorem yNs (c0 c1 c2 c3 c4:Ck) (p0 p1 p2 p3 p4:List PV):wL2 e S MP r HM (hd2 1 (eR 8 kP)) (gC (aD [c0,c1,c2,c3,c4]) (aM [p0,p1,p2,p3,p4]) 5 i k r0 r1 c) (M2 S [c0,c1,c2,c3,c4] [p0,p1,p2,p3,p4]) Q=tK e S (aD [c0,c1,c2,c3,c4]) (aM [p0,p1,p2,p3,p4]) c (Q .ret (lS false) (M2 S [c0,c1,c2,c3,c4] [p0,p1,p2,p3,p4])) (Q .norm (lR (aD [c0,c1,c2,c3,c4]) (aM [p0,p1,p2,p3,p4]) 5 i k r0 r1 c) (M2 S [c0,c1,c2,c3,c4] [p0,p1,p2,p3,p4])) 5 0:=by kernel_rfl
theorem yNt (c0 c1 c2 c3 c4 c5:Ck) (p0 p1 p2 p3 p4 p5:List PV):wL2 e S MP (pY 6 c) (M2 S [c0,c1,c2,c3,c4,c5] [p0,p1,p2,p3,p4,p5]) (hd2 6 (eR 2 kP)) (lQ (aD [c0,c1,c2,c3,c4,c5]) (aM [p0,p1,p2,p3,p4,p5]) cl i k r0 r1) [] Q=(MP [.data (aD [c0,c1,c2,c3,c4,c5]),.agg [.data (aM [p0,p1,p2,p3,p4,p5])]] []∧aA (nP e S [c0,c1,c2,c3,c4,c5] [p0,p1,p2,p3,p4,p5] cl (fB S [c0,c1,c2,c3,c4,c5] [p0,p1,p2,p3,p4,p5])) (wL (nQ S [c0,c1,c2,c3,c4,c5] [p0,p1,p2,p3,p4,p5] cl (fB S [c0,c1,c2,c3,c4,c5] [p0,p1,p2,p3,p4,p5])) cl c (Q .ret (lS false) (M2 S [c0,c1,c2,c3,c4,c5] [p0,p1,p2,p3,p4,p5])) (Q .norm (gC (aD [c0,c1,c2,c3,c4,c5]) (aM [p0,p1,p2,p3,p4,p5]) 6 i k r0 r1 c) (M2 S [c0,c1,c2,c3,c4,c5] [p0,p1,p2,p3,p4,p5])))):=by kernel_rfl
theorem yNu (c0 c1 c2 c3 c4 c5:Ck) (p0 p1 p2 p3 p4 p5:List PV):wL2 e S MP r HM (hd2 1 (eR 8 kP)) (gC (aD [c0,c1,c2,c3,c4,c5]) (aM [p0,p1,p2,p3,p4,p5]) 6 i k r0 r1 c) (M2 S [c0,c1,c2,c3,c4,c5] [p0,p1,p2,p3,p4,p5]) Q=tK e S (aD [c0,c1,c2,c3,c4,c5]) (aM [p0,p1,p2,p3,p4,p5]) c (Q .ret (lS false) (M2 S [c0,c1,c2,c3,c4,c5] [p0,p1,p2,p3,p4,p5])) (Q .norm (lR (aD [c0,c1,c2,c3,c4,c5]) (aM [p0,p1,p2,p3,p4,p5]) 6 i k r0 r1 c) (M2 S [c0,c1,c2,c3,c4,c5] [p0,p1,p2,p3,p4,p5])) 5 0:=by kernel_rfl
end
section
variable (e:Es) (S:S2)
def KD (cs:List Ck) (ps:List (List PV)) (i k:Nat):PV:=((fB S cs ps).getD i []).getD k .nils
def eq2 (x:PV) (r0 r1:Int):Bool:=(r0==aK (aP x 0))&&((r1==aK (aP x 1))&&true)
def aN (MP:List PV→Hp→Prop) (r:PV) (HM:Hp) (cs:List Ck) (ps:List (List PV)) (i k:Nat) (r0 r1 c:Int) (Q:Ex→aG→Hp→Prop):Prop:=
 wL2 e S MP r HM (eR 9 kP) (lR (aD cs) (aM ps) cs.length (i:Nat) (k:Nat) r0 r1 c) (M2 S cs ps) Q =
  aB (eq2 (KD S cs ps i k) r0 r1) (I9 e (Q .ret (lS true) (M2 S cs ps))) (aA (nP e S cs ps c (wM (fB S cs ps) i k (hK r0 r1)))
   (aB (!(nQ S cs ps c (wM (fB S cs ps) i k (hK r0 r1)))) (I9 e (Q .ret (lS true) (J0 S cs ps (wM (fB S cs ps) i k (hK r0 r1))))) (Q .ret (lS false) (J0 S cs ps (wM (fB S cs ps) i k (hK r0 r1))))))
variable (MP:List PV→Hp→Prop) (r:PV) (HM:Hp) (r0 r1 c:Int) (Q:Ex→aG→Hp→Prop)
section
variable (c0:Ck) (p0:List PV)
theorem yJ0:aN e S MP r HM [c0] [p0] 0 0 r0 r1 c Q:=by unfold aN;kernel_rfl
end
section
variable (c0 c1:Ck) (p0 p1:List PV)
theorem yJ1:aN e S MP r HM [c0,c1] [p0,p1] 0 0 r0 r1 c Q:=by unfold aN;kernel_rfl
theorem yJ2:aN e S MP r HM [c0,c1] [p0,p1] 0 1 r0 r1 c Q:=by unfold aN;kernel_rfl
theorem yJ3:aN e S MP r HM [c0,c1] [p0,p1] 1 0 r0 r1 c Q:=by unfold aN;kernel_rfl
theorem yJ4:aN e S MP r HM [c0,c1] [p0,p1] 1 1 r0 r1 c Q:=by unfold aN;kernel_rfl
end
section
variable (c0 c1 c2:Ck) (p0 p1 p2:List PV)
theorem yJ5:aN e S MP r HM [c0,c1,c2] [p0,p1,p2] 0 0 r0 r1 c Q:=by unfold aN;kernel_rfl
theorem yJ6:aN e S MP r HM [c0,c1,c2] [p0,p1,p2] 0 1 r0 r1 c Q:=by unfold aN;kernel_rfl
theorem yJ7:aN e S MP r HM [c0,c1,c2] [p0,p1,p2] 0 2 r0 r1 c Q:=by unfold aN;kernel_rfl
theorem yJ8:aN e S MP r HM [c0,c1,c2] [p0,p1,p2] 1 0 r0 r1 c Q:=by unfold aN;kernel_rfl
theorem yJ9:aN e S MP r HM [c0,c1,c2] [p0,p1,p2] 1 1 r0 r1 c Q:=by unfold aN;kernel_rfl
theorem yKa:aN e S MP r HM [c0,c1,c2] [p0,p1,p2] 1 2 r0 r1 c Q:=by unfold aN;kernel_rfl
theorem yKb:aN e S MP r HM [c0,c1,c2] [p0,p1,p2] 2 0 r0 r1 c Q:=by unfold aN;kernel_rfl
theorem yKc:aN e S MP r HM [c0,c1,c2] [p0,p1,p2] 2 1 r0 r1 c Q:=by unfold aN;kernel_rfl
theorem yKd:aN e S MP r HM [c0,c1,c2] [p0,p1,p2] 2 2 r0 r1 c Q:=by unfold aN;kernel_rfl
end
section
variable (c0 c1 c2 c3:Ck) (p0 p1 p2 p3:List PV)
theorem yKe:aN e S MP r HM [c0,c1,c2,c3] [p0,p1,p2,p3] 0 0 r0 r1 c Q:=by unfold aN;kernel_rfl
theorem yKf:aN e S MP r HM [c0,c1,c2,c3] [p0,p1,p2,p3] 0 1 r0 r1 c Q:=by unfold aN;kernel_rfl
theorem yKg:aN e S MP r HM [c0,c1,c2,c3] [p0,p1,p2,p3] 0 2 r0 r1 c Q:=by unfold aN;kernel_rfl
theorem yKh:aN e S MP r HM [c0,c1,c2,c3] [p0,p1,p2,p3] 0 3 r0 r1 c Q:=by unfold aN;kernel_rfl
theorem yKi:aN e S MP r HM [c0,c1,c2,c3] [p0,p1,p2,p3] 1 0 r0 r1 c Q:=by unfold aN;kernel_rfl
theorem yKj:aN e S MP r HM [c0,c1,c2,c3] [p0,p1,p2,p3] 1 1 r0 r1 c Q:=by unfold aN;kernel_rfl
theorem yKk:aN e S MP r HM [c0,c1,c2,c3] [p0,p1,p2,p3] 1 2 r0 r1 c Q:=by unfold aN;kernel_rfl
theorem yKl:aN e S MP r HM [c0,c1,c2,c3] [p0,p1,p2,p3] 1 3 r0 r1 c Q:=by unfold aN;kernel_rfl
theorem yKm:aN e S MP r HM [c0,c1,c2,c3] [p0,p1,p2,p3] 2 0 r0 r1 c Q:=by unfold aN;kernel_rfl
theorem yKn:aN e S MP r HM [c0,c1,c2,c3] [p0,p1,p2,p3] 2 1 r0 r1 c Q:=by unfold aN;kernel_rfl
theorem yKo:aN e S MP r HM [c0,c1,c2,c3] [p0,p1,p2,p3] 2 2 r0 r1 c Q:=by unfold aN;kernel_rfl
theorem yKp:aN e S MP r HM [c0,c1,c2,c3] [p0,p1,p2,p3] 2 3 r0 r1 c Q:=by unfold aN;kernel_rfl
theorem yKq:aN e S MP r HM [c0,c1,c2,c3] [p0,p1,p2,p3] 3 0 r0 r1 c Q:=by unfold aN;kernel_rfl
theorem yKr:aN e S MP r HM [c0,c1,c2,c3] [p0,p1,p2,p3] 3 1 r0 r1 c Q:=by unfold aN;kernel_rfl
theorem yKs:aN e S MP r HM [c0,c1,c2,c3] [p0,p1,p2,p3] 3 2 r0 r1 c Q:=by unfold aN;kernel_rfl
theorem yKt:aN e S MP r HM [c0,c1,c2,c3] [p0,p1,p2,p3] 3 3 r0 r1 c Q:=by unfold aN;kernel_rfl
end
section
variable (c0 c1 c2 c3 c4:Ck) (p0 p1 p2 p3 p4:List PV)
theorem yKu:aN e S MP r HM [c0,c1,c2,c3,c4] [p0,p1,p2,p3,p4] 0 0 r0 r1 c Q:=by unfold aN;kernel_rfl
theorem yKv:aN e S MP r HM [c0,c1,c2,c3,c4] [p0,p1,p2,p3,p4] 0 1 r0 r1 c Q:=by unfold aN;kernel_rfl
theorem yKw:aN e S MP r HM [c0,c1,c2,c3,c4] [p0,p1,p2,p3,p4] 0 2 r0 r1 c Q:=by unfold aN;kernel_rfl
theorem yKx:aN e S MP r HM [c0,c1,c2,c3,c4] [p0,p1,p2,p3,p4] 0 3 r0 r1 c Q:=by unfold aN;kernel_rfl
theorem yKy:aN e S MP r HM [c0,c1,c2,c3,c4] [p0,p1,p2,p3,p4] 0 4 r0 r1 c Q:=by unfold aN;kernel_rfl
theorem yKz:aN e S MP r HM [c0,c1,c2,c3,c4] [p0,p1,p2,p3,p4] 1 0 r0 r1 c Q:=by unfold aN;kernel_rfl
theorem yKA:aN e S MP r HM [c0,c1,c2,c3,c4] [p0,p1,p2,p3,p4] 1 1 r0 r1 c Q:=by unfold aN;kernel_rfl
theorem yKB:aN e S MP r HM [c0,c1,c2,c3,c4] [p0,p1,p2,p3,p4] 1 2 r0 r1 c Q:=by unfold aN;kernel_rfl
theorem yKC:aN e S MP r HM [c0,c1,c2,c3,c4] [p0,p1,p2,p3,p4] 1 3 r0 r1 c Q:=by unfold aN;kernel_rfl
theorem yKD:aN e S MP r HM [c0,c1,c2,c3,c4] [p0,p1,p2,p3,p4] 1 4 r0 r1 c Q:=by unfold aN;kernel_rfl
theorem yKE:aN e S MP r HM [c0,c1,c2,c3,c4] [p0,p1,p2,p3,p4] 2 0 r0 r1 c Q:=by unfold aN;kernel_rfl
theorem yKF:aN e S MP r HM [c0,c1,c2,c3,c4] [p0,p1,p2,p3,p4] 2 1 r0 r1 c Q:=by unfold aN;kernel_rfl
theorem yKG:aN e S MP r HM [c0,c1,c2,c3,c4] [p0,p1,p2,p3,p4] 2 2 r0 r1 c Q:=by unfold aN;kernel_rfl
theorem yKH:aN e S MP r HM [c0,c1,c2,c3,c4] [p0,p1,p2,p3,p4] 2 3 r0 r1 c Q:=by unfold aN;kernel_rfl
theorem yKI:aN e S MP r HM [c0,c1,c2,c3,c4] [p0,p1,p2,p3,p4] 2 4 r0 r1 c Q:=by unfold aN;kernel_rfl
theorem yKJ:aN e S MP r HM [c0,c1,c2,c3,c4] [p0,p1,p2,p3,p4] 3 0 r0 r1 c Q:=by unfold aN;kernel_rfl
theorem yKK:aN e S MP r HM [c0,c1,c2,c3,c4] [p0,p1,p2,p3,p4] 3 1 r0 r1 c Q:=by unfold aN;kernel_rfl
theorem yKL:aN e S MP r HM [c0,c1,c2,c3,c4] [p0,p1,p2,p3,p4] 3 2 r0 r1 c Q:=by unfold aN;kernel_rfl
theorem yKM:aN e S MP r HM [c0,c1,c2,c3,c4] [p0,p1,p2,p3,p4] 3 3 r0 r1 c Q:=by unfold aN;kernel_rfl
theorem yKN:aN e S MP r HM [c0,c1,c2,c3,c4] [p0,p1,p2,p3,p4] 3 4 r0 r1 c Q:=by unfold aN;kernel_rfl
theorem yKO:aN e S MP r HM [c0,c1,c2,c3,c4] [p0,p1,p2,p3,p4] 4 0 r0 r1 c Q:=by unfold aN;kernel_rfl
theorem yKP:aN e S MP r HM [c0,c1,c2,c3,c4] [p0,p1,p2,p3,p4] 4 1 r0 r1 c Q:=by unfold aN;kernel_rfl
theorem yKQ:aN e S MP r HM [c0,c1,c2,c3,c4] [p0,p1,p2,p3,p4] 4 2 r0 r1 c Q:=by unfold aN;kernel_rfl
theorem yKR:aN e S MP r HM [c0,c1,c2,c3,c4] [p0,p1,p2,p3,p4] 4 3 r0 r1 c Q:=by unfold aN;kernel_rfl
theorem yKS:aN e S MP r HM [c0,c1,c2,c3,c4] [p0,p1,p2,p3,p4] 4 4 r0 r1 c Q:=by unfold aN;kernel_rfl
end
section
variable (c0 c1 c2 c3 c4 c5:Ck) (p0 p1 p2 p3 p4 p5:List PV)
theorem yKT:aN e S MP r HM [c0,c1,c2,c3,c4,c5] [p0,p1,p2,p3,p4,p5] 0 0 r0 r1 c Q:=by unfold aN;kernel_rfl
theorem yKU:aN e S MP r HM [c0,c1,c2,c3,c4,c5] [p0,p1,p2,p3,p4,p5] 0 1 r0 r1 c Q:=by unfold aN;kernel_rfl
theorem yKV:aN e S MP r HM [c0,c1,c2,c3,c4,c5] [p0,p1,p2,p3,p4,p5] 0 2 r0 r1 c Q:=by unfold aN;kernel_rfl
theorem yKW:aN e S MP r HM [c0,c1,c2,c3,c4,c5] [p0,p1,p2,p3,p4,p5] 0 3 r0 r1 c Q:=by unfold aN;kernel_rfl
theorem yKX:aN e S MP r HM [c0,c1,c2,c3,c4,c5] [p0,p1,p2,p3,p4,p5] 0 4 r0 r1 c Q:=by unfold aN;kernel_rfl
theorem yKY:aN e S MP r HM [c0,c1,c2,c3,c4,c5] [p0,p1,p2,p3,p4,p5] 0 5 r0 r1 c Q:=by unfold aN;kernel_rfl
theorem yKZ:aN e S MP r HM [c0,c1,c2,c3,c4,c5] [p0,p1,p2,p3,p4,p5] 1 0 r0 r1 c Q:=by unfold aN;kernel_rfl
theorem yK0:aN e S MP r HM [c0,c1,c2,c3,c4,c5] [p0,p1,p2,p3,p4,p5] 1 1 r0 r1 c Q:=by unfold aN;kernel_rfl
theorem yK1:aN e S MP r HM [c0,c1,c2,c3,c4,c5] [p0,p1,p2,p3,p4,p5] 1 2 r0 r1 c Q:=by unfold aN;kernel_rfl
theorem yK2:aN e S MP r HM [c0,c1,c2,c3,c4,c5] [p0,p1,p2,p3,p4,p5] 1 3 r0 r1 c Q:=by unfold aN;kernel_rfl
theorem yK3:aN e S MP r HM [c0,c1,c2,c3,c4,c5] [p0,p1,p2,p3,p4,p5] 1 4 r0 r1 c Q:=by unfold aN;kernel_rfl
theorem yK4:aN e S MP r HM [c0,c1,c2,c3,c4,c5] [p0,p1,p2,p3,p4,p5] 1 5 r0 r1 c Q:=by unfold aN;kernel_rfl
theorem yK5:aN e S MP r HM [c0,c1,c2,c3,c4,c5] [p0,p1,p2,p3,p4,p5] 2 0 r0 r1 c Q:=by unfold aN;kernel_rfl
theorem yK6:aN e S MP r HM [c0,c1,c2,c3,c4,c5] [p0,p1,p2,p3,p4,p5] 2 1 r0 r1 c Q:=by unfold aN;kernel_rfl
theorem yK7:aN e S MP r HM [c0,c1,c2,c3,c4,c5] [p0,p1,p2,p3,p4,p5] 2 2 r0 r1 c Q:=by unfold aN;kernel_rfl
theorem yK8:aN e S MP r HM [c0,c1,c2,c3,c4,c5] [p0,p1,p2,p3,p4,p5] 2 3 r0 r1 c Q:=by unfold aN;kernel_rfl
theorem yK9:aN e S MP r HM [c0,c1,c2,c3,c4,c5] [p0,p1,p2,p3,p4,p5] 2 4 r0 r1 c Q:=by unfold aN;kernel_rfl
theorem yLa:aN e S MP r HM [c0,c1,c2,c3,c4,c5] [p0,p1,p2,p3,p4,p5] 2 5 r0 r1 c Q:=by unfold aN;kernel_rfl
theorem yLb:aN e S MP r HM [c0,c1,c2,c3,c4,c5] [p0,p1,p2,p3,p4,p5] 3 0 r0 r1 c Q:=by unfold aN;kernel_rfl
theorem yLc:aN e S MP r HM [c0,c1,c2,c3,c4,c5] [p0,p1,p2,p3,p4,p5] 3 1 r0 r1 c Q:=by unfold aN;kernel_rfl
theorem yLd:aN e S MP r HM [c0,c1,c2,c3,c4,c5] [p0,p1,p2,p3,p4,p5] 3 2 r0 r1 c Q:=by unfold aN;kernel_rfl
theorem yLe:aN e S MP r HM [c0,c1,c2,c3,c4,c5] [p0,p1,p2,p3,p4,p5] 3 3 r0 r1 c Q:=by unfold aN;kernel_rfl
theorem yLf:aN e S MP r HM [c0,c1,c2,c3,c4,c5] [p0,p1,p2,p3,p4,p5] 3 4 r0 r1 c Q:=by unfold aN;kernel_rfl
theorem yLg:aN e S MP r HM [c0,c1,c2,c3,c4,c5] [p0,p1,p2,p3,p4,p5] 3 5 r0 r1 c Q:=by unfold aN;kernel_rfl
theorem yLh:aN e S MP r HM [c0,c1,c2,c3,c4,c5] [p0,p1,p2,p3,p4,p5] 4 0 r0 r1 c Q:=by unfold aN;kernel_rfl
theorem yLi:aN e S MP r HM [c0,c1,c2,c3,c4,c5] [p0,p1,p2,p3,p4,p5] 4 1 r0 r1 c Q:=by unfold aN;kernel_rfl
theorem yLj:aN e S MP r HM [c0,c1,c2,c3,c4,c5] [p0,p1,p2,p3,p4,p5] 4 2 r0 r1 c Q:=by unfold aN;kernel_rfl
theorem yLk:aN e S MP r HM [c0,c1,c2,c3,c4,c5] [p0,p1,p2,p3,p4,p5] 4 3 r0 r1 c Q:=by unfold aN;kernel_rfl
theorem yLl:aN e S MP r HM [c0,c1,c2,c3,c4,c5] [p0,p1,p2,p3,p4,p5] 4 4 r0 r1 c Q:=by unfold aN;kernel_rfl
theorem yLm:aN e S MP r HM [c0,c1,c2,c3,c4,c5] [p0,p1,p2,p3,p4,p5] 4 5 r0 r1 c Q:=by unfold aN;kernel_rfl
theorem yLn:aN e S MP r HM [c0,c1,c2,c3,c4,c5] [p0,p1,p2,p3,p4,p5] 5 0 r0 r1 c Q:=by unfold aN;kernel_rfl
theorem yLo:aN e S MP r HM [c0,c1,c2,c3,c4,c5] [p0,p1,p2,p3,p4,p5] 5 1 r0 r1 c Q:=by unfold aN;kernel_rfl
theorem yLp:aN e S MP r HM [c0,c1,c2,c3,c4,c5] [p0,p1,p2,p3,p4,p5] 5 2 r0 r1 c Q:=by unfold aN;kernel_rfl
theorem yLq:aN e S MP r HM [c0,c1,c2,c3,c4,c5] [p0,p1,p2,p3,p4,p5] 5 3 r0 r1 c Q:=by unfold aN;kernel_rfl
theorem yLr:aN e S MP r HM [c0,c1,c2,c3,c4,c5] [p0,p1,p2,p3,p4,p5] 5 4 r0 r1 c Q:=by unfold aN;kernel_rfl
theorem yLs:aN e S MP r HM [c0,c1,c2,c3,c4,c5] [p0,p1,p2,p3,p4,p5] 5 5 r0 r1 c Q:=by unfold aN;kernel_rfl
end
end
theorem yNv {a b n:Nat} (h:memN [a,b] n=true):n=a∨n=b:=by
 simp only [memN] at h
 cases h1:Nat.beq a n with
 | true=>exact .inl (eJ h1).symm
 | false=>
  rw [h1,cond_false] at h
  cases h2:Nat.beq b n with
  | true=>exact .inr (eJ h2).symm
  | false=>rw [h2] at h;cases h
theorem KE {E:Env} {cK:CK} {lp:LP} {G:aG} {yk:YK}:∀ (n:Nat) (c:TC) (F:aG) (H:Hp) (Q:Ex→aG→Hp→Prop),WC E cK lp G yk c F H Q =
  WC E cK lp G yk (hd2 n c) F H fun x F' H'=>match x with
   | .norm=>WC E cK lp G yk (eR n c) F' H' Q
   | .exit i=>Q (.exit i) F' H'
   | .ret=>Q .ret F' H'
   | .brk k i=>Q (.brk k i) F' H'
 | 0,c,F,H,Q=>by
  simp only [eR]
  cases c<;>simp only [hd2,WC]
 | n+1,.seq a b,F,H,Q=>by
  simp only [eR,hd2,WC];congr 1
  funext x F' H'
  cases x with
  | norm=>exact KE n b F' H' Q
  | _=>rfl
 | n+1,.skip,F,H,Q=>by simp only [eR,hd2,WC]
 | n+1,.ops _ _ _ _,F,H,Q=>by simp only [eR,hd2,WC]
 | n+1,.cond _ _ _,F,H,Q=>by simp only [eR,hd2,WC]
 | n+1,.block _ _,F,H,Q=>by simp only [eR,hd2,WC]
 | n+1,.loop _ _,F,H,Q=>by simp only [eR,hd2,WC]
 | n+1,.lG _ _,F,H,Q=>by simp only [eR,hd2,WC]
 | n+1,.exit _,F,H,Q=>by simp only [eR,hd2,WC]
 | n+1,.ret,F,H,Q=>by simp only [eR,hd2,WC]
 | n+1,.bad,F,H,Q=>by simp only [eR,hd2,WC]
 | n+1,.rangeF _ _ _ _ _ _ _,F,H,Q=>by simp only [eR,hd2,WC]
 | n+1,.yret _ _ _ _ _ _ _,F,H,Q=>by simp only [eR,hd2,WC]
 | n+1,.cut _,F,H,Q=>by simp only [eR,hd2,WC]
 | n+1,.join _ _,F,H,Q=>by simp only [eR,hd2,WC]
section
variable (e:Es) (S:S2)
theorem RZ:Fq (E2 e S):=by
 intro n az H x h;have h:AH (E e) Ep (RT S) n az H=some x:=h;unfold AH at h
 cases hm:memN Ep n with
 | false=>rw [hm] at h;cases h
 | true=>
  have hq:memN BC n=false:=by
   rcases yNv hm with rfl|rfl
   ·kernel_rfl
   ·kernel_rfl
  refine ⟨hq,rfl,fun az=>?_,rfl⟩;show (bif memN BC n then gY (E e) n az else none)=none;rw [hq];rfl
theorem KF {n:Nat} (h:memN BC n=false) (az:List PV):(E2 e S).sum n az=none:=by show (bif memN BC n then gY (E e) n az else none)=none;rw [h];rfl
theorem GY {n:Nat} (h:memN Ep n=false) (az:List PV) (H:Hp):(E2 e S).eff n az H=none:=by show AH (E e) Ep (RT S) n az H=none;unfold AH;rw [h];rfl
theorem J1:qR (aZ (E2 e S)) [(mR,GS e),(iO,BD e S),(jG,BE e S),(jH,BF e S),(jV,BG e)]:=by
 refine ⟨fun az K h=>⟨_,h.2,uF (by kernel_rfl) h.1⟩,fun az K h=>?_,fun az K h=>?_,fun az K h=>?_,fun az K h=>?_,trivial⟩
 ·unfold BD at h;split at h
  ·exact ⟨_,h.2,uF (by kernel_rfl) h.1⟩
  ·exact h.elim
 ·unfold BE at h;split at h
  ·exact ⟨_,h.2,uF (by kernel_rfl) h.1⟩
  ·exact h.elim
 ·unfold BF at h;split at h
  ·exact ⟨_,h.2,uF (by kernel_rfl) h.1⟩
  ·exact h.elim
 ·unfold BG at h;split at h
  ·exact ⟨_,h.2,uF (by kernel_rfl) h.1⟩
  ·exact h.elim
theorem GZ:SEOk (aZ (E2 e S)) (Et e S):=bK (aQ.uni _) (J1 e S) trivial (RZ e S)
theorem J2:LpOk (aZ (E2 e S)) (E2 e S) (fun _ _ _ _ _=>False) [] (iG sQ):=aW (by kernel_rfl)
theorem yNw:LpOk (aZ (E2 e S)) (E2 e S) (fun _ _ _ _ _=>False) [] (iG pP):=aW (by kernel_rfl)
theorem yNx:LpOk (aZ (E2 e S)) (E2 e S) (fun _ _ _ _ _=>False) [] (iG CU):=aW (by kernel_rfl)
theorem yNy:LpOk (aZ (E2 e S)) (E2 e S) (fun _ _ _ _ _=>False) [] (iG CW):=aW (by kernel_rfl)
theorem yNz:LpOk (aZ (E2 e S)) (E2 e S) (GT e S) [] (iG CR):=
 dA (l:=[(14283600,.loop 14283600 (iG sQ))]) ⟨fun F H Q h=>wB (aQ.uni _) (cM (GZ e S) 2) (by kernel_rfl) (J2 e S) h,trivial⟩ (by kernel_rfl)
theorem Sa:LpOk (aZ (E2 e S)) (E2 e S) (GU e S) [] (iU uG).body:=
 dA (l:=[(14283600,.loop 14283600 (iG sQ)),(14283601,.loop 14283601 (iG CR))])
  ⟨fun F H Q h=>wB (aQ.uni _) (cM (GZ e S) 2) (by kernel_rfl) (J2 e S) h,fun F H Q h=>wB (aQ.uni _) (cM (GZ e S) 2) (by kernel_rfl) (yNz e S) h,trivial⟩ (by kernel_rfl)
theorem Sb:LpOk (aZ (E2 e S)) (E2 e S) (GU e S) [] (iU AM).body:=
 dA (l:=[(20643600,.loop 20643600 (iG pP))]) ⟨fun F H Q h=>wB (aQ.uni _) (cM (GZ e S) 2) (by kernel_rfl) (yNw e S) h,trivial⟩ (by kernel_rfl)
theorem Sc:LpOk (aZ (E2 e S)) (E2 e S) (GU e S) [] (iU CT).body:=
 dA (l:=[(65264200,.loop 65264200 (iG CU))]) ⟨fun F H Q h=>wB (aQ.uni _) (cM (GZ e S) 2) (by kernel_rfl) (yNx e S) h,trivial⟩ (by kernel_rfl)
theorem yMu:SEOk (aZ (E2 e S)) (KB e S):=bK (aQ.uni _) (J1 e S)
 ⟨⟨by kernel_rfl,by kernel_rfl,rfl,KF e S (by kernel_rfl),GY e S (by kernel_rfl),by kernel_rfl,aW (by kernel_rfl)⟩,
  ⟨by kernel_rfl,by kernel_rfl,rfl,KF e S (by kernel_rfl),GY e S (by kernel_rfl),by kernel_rfl,Sa e S⟩,
  ⟨by kernel_rfl,by kernel_rfl,rfl,KF e S (by kernel_rfl),GY e S (by kernel_rfl),by kernel_rfl,Sb e S⟩,trivial⟩ (RZ e S)
theorem yLt {cs:List Ck} {ps:List (List PV)} {K:PV→Hp→Prop} (h:mr2 e S cs ps K) :
  ∃ r H',K r H'∧∃ m0,∀ k x m,m0≤k→aZ (E2 e S) k x→m0≤m→ybF x m kV [.data (aD cs),.agg [.data (aM ps)]] []=some (r,H'):=
 Fr (S:=KB e S) (callK:=jD (KB e S) 4) (aQ.uni _) (cM (yMu e S) 4) (fn:=iU CT) bH.flat (Sc e S) (n:=kV) (by kernel_rfl) (GY e S (by kernel_rfl)) h
theorem yMv:SEOk (aZ (E2 e S)) (I8 e S):=bK (aQ.uni _)
 ⟨fun az K h=>⟨_,h.2,uF (by kernel_rfl) h.1⟩,fun az K h=>⟨_,h.2,uF (by kernel_rfl) h.1⟩,fun az K h=>⟨_,h.2,uF (by kernel_rfl) h.1⟩,fun az K h=>⟨_,h.2,uF (by kernel_rfl) h.1⟩,trivial⟩ trivial (RZ e S)
theorem yMw {ld:List PV} {r:PV} {HM:Hp} (hk:∃ m0,∀ k x m,m0≤k→aZ (E2 e S) k x→m0≤m→ybF x m kV ld []=some (r,HM)):Good (aZ (E2 e S)) (KC e S (fun a H=>a=ld∧H=[]) r HM):=by
 intro f args H K h;unfold KC at h;split at h
 ·rename_i n
  cases hb:Nat.beq n kV with
  | false =>rw [hb,cond_false] at h;exact cM (yMv e S) 2 _ _ _ _ h
  | true=>
   rw [hb,cond_true] at h;obtain rfl:=eJ hb;obtain ⟨⟨rfl,rfl⟩,h⟩:=h;obtain ⟨m0,hm⟩:=hk;refine ⟨r,HM,h,m0,fun k x m h1 h2 h3=>?_⟩;obtain ⟨_,l2,l3,l4,l5,_,_⟩:=qP h2;have e0:∀ az,ydk x (ybF x m) kV az=none:=by
    intro az;simp only [ydk,l2,l3,KF e S (show memN BC kV=false from by kernel_rfl) az];rw [show (E2 e S).qui kV=false from by kernel_rfl];rfl
   have hx:ynY x (.fn (.func kV) [] []) args=none:=(Fp h2 _ _).trans (by rfl);rw [Fs hx];have hfz:x.frz kV=false:=by rw [l4];rfl
   have hrb:x.rb kV=false:=by rw [l5];rfl
   have hqu:x.qui kV=false:=by rw [l3];kernel_rfl
   simp only [nX,e0,hfz,hrb,hqu,rY,xA];have:=hm k x m h1 h2 h3
   cases ya3 [] args<;>simp only [gR,if_false,this]
 ·exact h.elim
end
theorem zO {α:Type} {l:List α} (h:l.length=1):∃ x0,l=[x0]:=by
 match l,h with
 | [x0],_=>exact ⟨x0,rfl⟩
theorem zP {α:Type} {l:List α} (h:l.length=2):∃ x0 x1,l=[x0,x1]:=by
 match l,h with
 | [x0,x1],_=>exact ⟨x0,x1,rfl⟩
theorem zQ {α:Type} {l:List α} (h:l.length=3):∃ x0 x1 x2,l=[x0,x1,x2]:=by
 match l,h with
 | [x0,x1,x2],_=>exact ⟨x0,x1,x2,rfl⟩
theorem zR {α:Type} {l:List α} (h:l.length=4):∃ x0 x1 x2 x3,l=[x0,x1,x2,x3]:=by
 match l,h with
 | [x0,x1,x2,x3],_=>exact ⟨x0,x1,x2,x3,rfl⟩
theorem zS {α:Type} {l:List α} (h:l.length=5):∃ x0 x1 x2 x3 x4,l=[x0,x1,x2,x3,x4]:=by
 match l,h with
 | [x0,x1,x2,x3,x4],_=>exact ⟨x0,x1,x2,x3,x4,rfl⟩
theorem zT {α:Type} {l:List α} (h:l.length=6):∃ x0 x1 x2 x3 x4 x5,l=[x0,x1,x2,x3,x4,x5]:=by
 match l,h with
 | [x0,x1,x2,x3,x4,x5],_=>exact ⟨x0,x1,x2,x3,x4,x5,rfl⟩
section
variable (e:Es) (S:S2) {cs:List Ck} {ps:List (List PV)} (hl:ps.length=cs.length) (h1:1≤cs.length) (h6:cs.length≤6)
include hl h1 h6
theorem yLu:∀ K,mr2 e S cs ps K=BI e S cs ps K:=by
 obtain hn|hn|hn|hn|hn|hn:cs.length=1∨cs.length=2∨cs.length=3∨cs.length=4∨cs.length=5∨cs.length=6:=by omega
 ·obtain ⟨c0,rfl⟩:=zO hn;obtain ⟨p0,rfl⟩:=zO (hl.trans hn);exact fun K=>yNd e S c0 p0 K
 ·obtain ⟨c0,c1,rfl⟩:=zP hn;obtain ⟨p0,p1,rfl⟩:=zP (hl.trans hn);exact fun K=>yNe e S c0 c1 p0 p1 K
 ·obtain ⟨c0,c1,c2,rfl⟩:=zQ hn;obtain ⟨p0,p1,p2,rfl⟩:=zQ (hl.trans hn);exact fun K=>yNf e S c0 c1 c2 p0 p1 p2 K
 ·obtain ⟨c0,c1,c2,c3,rfl⟩:=zR hn;obtain ⟨p0,p1,p2,p3,rfl⟩:=zR (hl.trans hn);exact fun K=>yNg e S c0 c1 c2 c3 p0 p1 p2 p3 K
 ·obtain ⟨c0,c1,c2,c3,c4,rfl⟩:=zS hn;obtain ⟨p0,p1,p2,p3,p4,rfl⟩:=zS (hl.trans hn);exact fun K=>yNh e S c0 c1 c2 c3 c4 p0 p1 p2 p3 p4 K
 ·obtain ⟨c0,c1,c2,c3,c4,c5,rfl⟩:=zT hn;obtain ⟨p0,p1,p2,p3,p4,p5,rfl⟩:=zT (hl.trans hn);exact fun K=>yNi e S c0 c1 c2 c3 c4 c5 p0 p1 p2 p3 p4 p5 K
theorem yLv:∀ MP c cl i k r0 r1 Q,wL2 e S MP (pY cs.length c) (M2 S cs ps) (hd2 6 (eR 2 kP)) (lQ (aD cs) (aM ps) cl i k r0 r1) [] Q=(MP [.data (aD cs),.agg [.data (aM ps)]] []∧aA (nP e S cs ps cl (fB S cs ps)) (wL (nQ S cs ps cl (fB S cs ps)) cl c (Q .ret (lS false) (M2 S cs ps)) (Q .norm (gC (aD cs) (aM ps) cs.length i k r0 r1 c) (M2 S cs ps)))):=by
 obtain hn|hn|hn|hn|hn|hn:cs.length=1∨cs.length=2∨cs.length=3∨cs.length=4∨cs.length=5∨cs.length=6:=by omega
 ·obtain ⟨c0,rfl⟩:=zO hn;obtain ⟨p0,rfl⟩:=zO (hl.trans hn);exact fun MP c cl i k r0 r1 Q=>yNj e S MP cl i k r0 r1 c Q c0 p0
 ·obtain ⟨c0,c1,rfl⟩:=zP hn;obtain ⟨p0,p1,rfl⟩:=zP (hl.trans hn);exact fun MP c cl i k r0 r1 Q=>yNl e S MP cl i k r0 r1 c Q c0 c1 p0 p1
 ·obtain ⟨c0,c1,c2,rfl⟩:=zQ hn;obtain ⟨p0,p1,p2,rfl⟩:=zQ (hl.trans hn);exact fun MP c cl i k r0 r1 Q=>yNn e S MP cl i k r0 r1 c Q c0 c1 c2 p0 p1 p2
 ·obtain ⟨c0,c1,c2,c3,rfl⟩:=zR hn;obtain ⟨p0,p1,p2,p3,rfl⟩:=zR (hl.trans hn);exact fun MP c cl i k r0 r1 Q=>yNp e S MP cl i k r0 r1 c Q c0 c1 c2 c3 p0 p1 p2 p3
 ·obtain ⟨c0,c1,c2,c3,c4,rfl⟩:=zS hn;obtain ⟨p0,p1,p2,p3,p4,rfl⟩:=zS (hl.trans hn);exact fun MP c cl i k r0 r1 Q=>yNr e S MP cl i k r0 r1 c Q c0 c1 c2 c3 c4 p0 p1 p2 p3 p4
 ·obtain ⟨c0,c1,c2,c3,c4,c5,rfl⟩:=zT hn;obtain ⟨p0,p1,p2,p3,p4,p5,rfl⟩:=zT (hl.trans hn);exact fun MP c cl i k r0 r1 Q=>yNt e S MP cl i k r0 r1 c Q c0 c1 c2 c3 c4 c5 p0 p1 p2 p3 p4 p5
theorem yLw:∀ MP r HM i k r0 r1 c Q,wL2 e S MP r HM (hd2 1 (eR 8 kP)) (gC (aD cs) (aM ps) cs.length i k r0 r1 c) (M2 S cs ps) Q=tK e S (aD cs) (aM ps) c (Q .ret (lS false) (M2 S cs ps)) (Q .norm (lR (aD cs) (aM ps) cs.length i k r0 r1 c) (M2 S cs ps)) 5 0:=by
 obtain hn|hn|hn|hn|hn|hn:cs.length=1∨cs.length=2∨cs.length=3∨cs.length=4∨cs.length=5∨cs.length=6:=by omega
 ·obtain ⟨c0,rfl⟩:=zO hn;obtain ⟨p0,rfl⟩:=zO (hl.trans hn);exact fun MP r HM i k r0 r1 c Q=>yNk e S MP r HM i k r0 r1 c Q c0 p0
 ·obtain ⟨c0,c1,rfl⟩:=zP hn;obtain ⟨p0,p1,rfl⟩:=zP (hl.trans hn);exact fun MP r HM i k r0 r1 c Q=>yNm e S MP r HM i k r0 r1 c Q c0 c1 p0 p1
 ·obtain ⟨c0,c1,c2,rfl⟩:=zQ hn;obtain ⟨p0,p1,p2,rfl⟩:=zQ (hl.trans hn);exact fun MP r HM i k r0 r1 c Q=>yNo e S MP r HM i k r0 r1 c Q c0 c1 c2 p0 p1 p2
 ·obtain ⟨c0,c1,c2,c3,rfl⟩:=zR hn;obtain ⟨p0,p1,p2,p3,rfl⟩:=zR (hl.trans hn);exact fun MP r HM i k r0 r1 c Q=>yNq e S MP r HM i k r0 r1 c Q c0 c1 c2 c3 p0 p1 p2 p3
 ·obtain ⟨c0,c1,c2,c3,c4,rfl⟩:=zS hn;obtain ⟨p0,p1,p2,p3,p4,rfl⟩:=zS (hl.trans hn);exact fun MP r HM i k r0 r1 c Q=>yNs e S MP r HM i k r0 r1 c Q c0 c1 c2 c3 c4 p0 p1 p2 p3 p4
 ·obtain ⟨c0,c1,c2,c3,c4,c5,rfl⟩:=zT hn;obtain ⟨p0,p1,p2,p3,p4,p5,rfl⟩:=zT (hl.trans hn);exact fun MP r HM i k r0 r1 c Q=>yNu e S MP r HM i k r0 r1 c Q c0 c1 c2 c3 c4 c5 p0 p1 p2 p3 p4 p5
theorem yLx:∀ MP r HM r0 r1 c Q i k,i<cs.length→k<cs.length→aN e S MP r HM cs ps i k r0 r1 c Q:=by
 obtain hn|hn|hn|hn|hn|hn:cs.length=1∨cs.length=2∨cs.length=3∨cs.length=4∨cs.length=5∨cs.length=6:=by omega
 ·obtain ⟨c0,rfl⟩:=zO hn;obtain ⟨p0,rfl⟩:=zO (hl.trans hn);intro MP r HM r0 r1 c Q i k hi hk;have hi:i<1:=hi;have hk:k<1:=hk;obtain rfl:i=0:=by omega
  ·obtain rfl:k=0:=by omega
   ·exact yJ0 e S MP r HM r0 r1 c Q c0 p0
 ·obtain ⟨c0,c1,rfl⟩:=zP hn;obtain ⟨p0,p1,rfl⟩:=zP (hl.trans hn);intro MP r HM r0 r1 c Q i k hi hk;have hi:i<2:=hi;have hk:k<2:=hk;obtain rfl | rfl:i=0∨i=1:=by omega
  ·obtain rfl | rfl:k=0∨k=1:=by omega
   ·exact yJ1 e S MP r HM r0 r1 c Q c0 c1 p0 p1
   ·exact yJ2 e S MP r HM r0 r1 c Q c0 c1 p0 p1
  ·obtain rfl | rfl:k=0∨k=1:=by omega
   ·exact yJ3 e S MP r HM r0 r1 c Q c0 c1 p0 p1
   ·exact yJ4 e S MP r HM r0 r1 c Q c0 c1 p0 p1
 ·obtain ⟨c0,c1,c2,rfl⟩:=zQ hn;obtain ⟨p0,p1,p2,rfl⟩:=zQ (hl.trans hn);intro MP r HM r0 r1 c Q i k hi hk;have hi:i<3:=hi;have hk:k<3:=hk;obtain rfl | rfl | rfl:i=0∨i=1∨i=2:=by omega
  ·obtain rfl | rfl | rfl:k=0∨k=1∨k=2:=by omega
   ·exact yJ5 e S MP r HM r0 r1 c Q c0 c1 c2 p0 p1 p2
   ·exact yJ6 e S MP r HM r0 r1 c Q c0 c1 c2 p0 p1 p2
   ·exact yJ7 e S MP r HM r0 r1 c Q c0 c1 c2 p0 p1 p2
  ·obtain rfl | rfl | rfl:k=0∨k=1∨k=2:=by omega
   ·exact yJ8 e S MP r HM r0 r1 c Q c0 c1 c2 p0 p1 p2
   ·exact yJ9 e S MP r HM r0 r1 c Q c0 c1 c2 p0 p1 p2
   ·exact yKa e S MP r HM r0 r1 c Q c0 c1 c2 p0 p1 p2
  ·obtain rfl | rfl | rfl:k=0∨k=1∨k=2:=by omega
   ·exact yKb e S MP r HM r0 r1 c Q c0 c1 c2 p0 p1 p2
   ·exact yKc e S MP r HM r0 r1 c Q c0 c1 c2 p0 p1 p2
   ·exact yKd e S MP r HM r0 r1 c Q c0 c1 c2 p0 p1 p2
 ·obtain ⟨c0,c1,c2,c3,rfl⟩:=zR hn;obtain ⟨p0,p1,p2,p3,rfl⟩:=zR (hl.trans hn);intro MP r HM r0 r1 c Q i k hi hk;have hi:i<4:=hi;have hk:k<4:=hk;obtain rfl | rfl | rfl | rfl:i=0∨i=1∨i=2∨i=3:=by omega
  ·obtain rfl | rfl | rfl | rfl:k=0∨k=1∨k=2∨k=3:=by omega
   ·exact yKe e S MP r HM r0 r1 c Q c0 c1 c2 c3 p0 p1 p2 p3
   ·exact yKf e S MP r HM r0 r1 c Q c0 c1 c2 c3 p0 p1 p2 p3
   ·exact yKg e S MP r HM r0 r1 c Q c0 c1 c2 c3 p0 p1 p2 p3
   ·exact yKh e S MP r HM r0 r1 c Q c0 c1 c2 c3 p0 p1 p2 p3
  ·obtain rfl | rfl | rfl | rfl:k=0∨k=1∨k=2∨k=3:=by omega
   ·exact yKi e S MP r HM r0 r1 c Q c0 c1 c2 c3 p0 p1 p2 p3
   ·exact yKj e S MP r HM r0 r1 c Q c0 c1 c2 c3 p0 p1 p2 p3
   ·exact yKk e S MP r HM r0 r1 c Q c0 c1 c2 c3 p0 p1 p2 p3
   ·exact yKl e S MP r HM r0 r1 c Q c0 c1 c2 c3 p0 p1 p2 p3
  ·obtain rfl | rfl | rfl | rfl:k=0∨k=1∨k=2∨k=3:=by omega
   ·exact yKm e S MP r HM r0 r1 c Q c0 c1 c2 c3 p0 p1 p2 p3
   ·exact yKn e S MP r HM r0 r1 c Q c0 c1 c2 c3 p0 p1 p2 p3
   ·exact yKo e S MP r HM r0 r1 c Q c0 c1 c2 c3 p0 p1 p2 p3
   ·exact yKp e S MP r HM r0 r1 c Q c0 c1 c2 c3 p0 p1 p2 p3
  ·obtain rfl | rfl | rfl | rfl:k=0∨k=1∨k=2∨k=3:=by omega
   ·exact yKq e S MP r HM r0 r1 c Q c0 c1 c2 c3 p0 p1 p2 p3
   ·exact yKr e S MP r HM r0 r1 c Q c0 c1 c2 c3 p0 p1 p2 p3
   ·exact yKs e S MP r HM r0 r1 c Q c0 c1 c2 c3 p0 p1 p2 p3
   ·exact yKt e S MP r HM r0 r1 c Q c0 c1 c2 c3 p0 p1 p2 p3
 ·obtain ⟨c0,c1,c2,c3,c4,rfl⟩:=zS hn;obtain ⟨p0,p1,p2,p3,p4,rfl⟩:=zS (hl.trans hn);intro MP r HM r0 r1 c Q i k hi hk;have hi:i<5:=hi;have hk:k<5:=hk;obtain rfl | rfl | rfl | rfl | rfl:i=0∨i=1∨i=2∨i=3∨i=4:=by omega
  ·obtain rfl | rfl | rfl | rfl | rfl:k=0∨k=1∨k=2∨k=3∨k=4:=by omega
   ·exact yKu e S MP r HM r0 r1 c Q c0 c1 c2 c3 c4 p0 p1 p2 p3 p4
   ·exact yKv e S MP r HM r0 r1 c Q c0 c1 c2 c3 c4 p0 p1 p2 p3 p4
   ·exact yKw e S MP r HM r0 r1 c Q c0 c1 c2 c3 c4 p0 p1 p2 p3 p4
   ·exact yKx e S MP r HM r0 r1 c Q c0 c1 c2 c3 c4 p0 p1 p2 p3 p4
   ·exact yKy e S MP r HM r0 r1 c Q c0 c1 c2 c3 c4 p0 p1 p2 p3 p4
  ·obtain rfl | rfl | rfl | rfl | rfl:k=0∨k=1∨k=2∨k=3∨k=4:=by omega
   ·exact yKz e S MP r HM r0 r1 c Q c0 c1 c2 c3 c4 p0 p1 p2 p3 p4
   ·exact yKA e S MP r HM r0 r1 c Q c0 c1 c2 c3 c4 p0 p1 p2 p3 p4
   ·exact yKB e S MP r HM r0 r1 c Q c0 c1 c2 c3 c4 p0 p1 p2 p3 p4
   ·exact yKC e S MP r HM r0 r1 c Q c0 c1 c2 c3 c4 p0 p1 p2 p3 p4
   ·exact yKD e S MP r HM r0 r1 c Q c0 c1 c2 c3 c4 p0 p1 p2 p3 p4
  ·obtain rfl | rfl | rfl | rfl | rfl:k=0∨k=1∨k=2∨k=3∨k=4:=by omega
   ·exact yKE e S MP r HM r0 r1 c Q c0 c1 c2 c3 c4 p0 p1 p2 p3 p4
   ·exact yKF e S MP r HM r0 r1 c Q c0 c1 c2 c3 c4 p0 p1 p2 p3 p4
   ·exact yKG e S MP r HM r0 r1 c Q c0 c1 c2 c3 c4 p0 p1 p2 p3 p4
   ·exact yKH e S MP r HM r0 r1 c Q c0 c1 c2 c3 c4 p0 p1 p2 p3 p4
   ·exact yKI e S MP r HM r0 r1 c Q c0 c1 c2 c3 c4 p0 p1 p2 p3 p4
  ·obtain rfl | rfl | rfl | rfl | rfl:k=0∨k=1∨k=2∨k=3∨k=4:=by omega
   ·exact yKJ e S MP r HM r0 r1 c Q c0 c1 c2 c3 c4 p0 p1 p2 p3 p4
   ·exact yKK e S MP r HM r0 r1 c Q c0 c1 c2 c3 c4 p0 p1 p2 p3 p4
   ·exact yKL e S MP r HM r0 r1 c Q c0 c1 c2 c3 c4 p0 p1 p2 p3 p4
   ·exact yKM e S MP r HM r0 r1 c Q c0 c1 c2 c3 c4 p0 p1 p2 p3 p4
   ·exact yKN e S MP r HM r0 r1 c Q c0 c1 c2 c3 c4 p0 p1 p2 p3 p4
  ·obtain rfl | rfl | rfl | rfl | rfl:k=0∨k=1∨k=2∨k=3∨k=4:=by omega
   ·exact yKO e S MP r HM r0 r1 c Q c0 c1 c2 c3 c4 p0 p1 p2 p3 p4
   ·exact yKP e S MP r HM r0 r1 c Q c0 c1 c2 c3 c4 p0 p1 p2 p3 p4
   ·exact yKQ e S MP r HM r0 r1 c Q c0 c1 c2 c3 c4 p0 p1 p2 p3 p4
   ·exact yKR e S MP r HM r0 r1 c Q c0 c1 c2 c3 c4 p0 p1 p2 p3 p4
   ·exact yKS e S MP r HM r0 r1 c Q c0 c1 c2 c3 c4 p0 p1 p2 p3 p4
 ·obtain ⟨c0,c1,c2,c3,c4,c5,rfl⟩:=zT hn;obtain ⟨p0,p1,p2,p3,p4,p5,rfl⟩:=zT (hl.trans hn);intro MP r HM r0 r1 c Q i k hi hk;have hi:i<6:=hi;have hk:k<6:=hk;obtain rfl | rfl | rfl | rfl | rfl | rfl:i=0∨i=1∨i=2∨i=3∨i=4∨i=5:=by omega
  ·obtain rfl | rfl | rfl | rfl | rfl | rfl:k=0∨k=1∨k=2∨k=3∨k=4∨k=5:=by omega
   ·exact yKT e S MP r HM r0 r1 c Q c0 c1 c2 c3 c4 c5 p0 p1 p2 p3 p4 p5
   ·exact yKU e S MP r HM r0 r1 c Q c0 c1 c2 c3 c4 c5 p0 p1 p2 p3 p4 p5
   ·exact yKV e S MP r HM r0 r1 c Q c0 c1 c2 c3 c4 c5 p0 p1 p2 p3 p4 p5
   ·exact yKW e S MP r HM r0 r1 c Q c0 c1 c2 c3 c4 c5 p0 p1 p2 p3 p4 p5
   ·exact yKX e S MP r HM r0 r1 c Q c0 c1 c2 c3 c4 c5 p0 p1 p2 p3 p4 p5
   ·exact yKY e S MP r HM r0 r1 c Q c0 c1 c2 c3 c4 c5 p0 p1 p2 p3 p4 p5
  ·obtain rfl | rfl | rfl | rfl | rfl | rfl:k=0∨k=1∨k=2∨k=3∨k=4∨k=5:=by omega
   ·exact yKZ e S MP r HM r0 r1 c Q c0 c1 c2 c3 c4 c5 p0 p1 p2 p3 p4 p5
   ·exact yK0 e S MP r HM r0 r1 c Q c0 c1 c2 c3 c4 c5 p0 p1 p2 p3 p4 p5
   ·exact yK1 e S MP r HM r0 r1 c Q c0 c1 c2 c3 c4 c5 p0 p1 p2 p3 p4 p5
   ·exact yK2 e S MP r HM r0 r1 c Q c0 c1 c2 c3 c4 c5 p0 p1 p2 p3 p4 p5
   ·exact yK3 e S MP r HM r0 r1 c Q c0 c1 c2 c3 c4 c5 p0 p1 p2 p3 p4 p5
   ·exact yK4 e S MP r HM r0 r1 c Q c0 c1 c2 c3 c4 c5 p0 p1 p2 p3 p4 p5
  ·obtain rfl | rfl | rfl | rfl | rfl | rfl:k=0∨k=1∨k=2∨k=3∨k=4∨k=5:=by omega
   ·exact yK5 e S MP r HM r0 r1 c Q c0 c1 c2 c3 c4 c5 p0 p1 p2 p3 p4 p5
   ·exact yK6 e S MP r HM r0 r1 c Q c0 c1 c2 c3 c4 c5 p0 p1 p2 p3 p4 p5
   ·exact yK7 e S MP r HM r0 r1 c Q c0 c1 c2 c3 c4 c5 p0 p1 p2 p3 p4 p5
   ·exact yK8 e S MP r HM r0 r1 c Q c0 c1 c2 c3 c4 c5 p0 p1 p2 p3 p4 p5
   ·exact yK9 e S MP r HM r0 r1 c Q c0 c1 c2 c3 c4 c5 p0 p1 p2 p3 p4 p5
   ·exact yLa e S MP r HM r0 r1 c Q c0 c1 c2 c3 c4 c5 p0 p1 p2 p3 p4 p5
  ·obtain rfl | rfl | rfl | rfl | rfl | rfl:k=0∨k=1∨k=2∨k=3∨k=4∨k=5:=by omega
   ·exact yLb e S MP r HM r0 r1 c Q c0 c1 c2 c3 c4 c5 p0 p1 p2 p3 p4 p5
   ·exact yLc e S MP r HM r0 r1 c Q c0 c1 c2 c3 c4 c5 p0 p1 p2 p3 p4 p5
   ·exact yLd e S MP r HM r0 r1 c Q c0 c1 c2 c3 c4 c5 p0 p1 p2 p3 p4 p5
   ·exact yLe e S MP r HM r0 r1 c Q c0 c1 c2 c3 c4 c5 p0 p1 p2 p3 p4 p5
   ·exact yLf e S MP r HM r0 r1 c Q c0 c1 c2 c3 c4 c5 p0 p1 p2 p3 p4 p5
   ·exact yLg e S MP r HM r0 r1 c Q c0 c1 c2 c3 c4 c5 p0 p1 p2 p3 p4 p5
  ·obtain rfl | rfl | rfl | rfl | rfl | rfl:k=0∨k=1∨k=2∨k=3∨k=4∨k=5:=by omega
   ·exact yLh e S MP r HM r0 r1 c Q c0 c1 c2 c3 c4 c5 p0 p1 p2 p3 p4 p5
   ·exact yLi e S MP r HM r0 r1 c Q c0 c1 c2 c3 c4 c5 p0 p1 p2 p3 p4 p5
   ·exact yLj e S MP r HM r0 r1 c Q c0 c1 c2 c3 c4 c5 p0 p1 p2 p3 p4 p5
   ·exact yLk e S MP r HM r0 r1 c Q c0 c1 c2 c3 c4 c5 p0 p1 p2 p3 p4 p5
   ·exact yLl e S MP r HM r0 r1 c Q c0 c1 c2 c3 c4 c5 p0 p1 p2 p3 p4 p5
   ·exact yLm e S MP r HM r0 r1 c Q c0 c1 c2 c3 c4 c5 p0 p1 p2 p3 p4 p5
  ·obtain rfl | rfl | rfl | rfl | rfl | rfl:k=0∨k=1∨k=2∨k=3∨k=4∨k=5:=by omega
   ·exact yLn e S MP r HM r0 r1 c Q c0 c1 c2 c3 c4 c5 p0 p1 p2 p3 p4 p5
   ·exact yLo e S MP r HM r0 r1 c Q c0 c1 c2 c3 c4 c5 p0 p1 p2 p3 p4 p5
   ·exact yLp e S MP r HM r0 r1 c Q c0 c1 c2 c3 c4 c5 p0 p1 p2 p3 p4 p5
   ·exact yLq e S MP r HM r0 r1 c Q c0 c1 c2 c3 c4 c5 p0 p1 p2 p3 p4 p5
   ·exact yLr e S MP r HM r0 r1 c Q c0 c1 c2 c3 c4 c5 p0 p1 p2 p3 p4 p5
   ·exact yLs e S MP r HM r0 r1 c Q c0 c1 c2 c3 c4 c5 p0 p1 p2 p3 p4 p5
end
section
variable (e:Es) (S:S2) {cs:List Ck} {ps:List (List PV)}
def lT (cs:List Ck) (ps:List (List PV)) (prt:List PV):Nat→Nat→Int→Int
 | 0,_,c=>c
 | r+1,i,c=>if S.b2 (oT S cs ps prt i)=true then lT cs ps prt r (i+1) c else lT cs ps prt r (i+1) (I7 c (wK i))
theorem Sd {prt:List PV} {K:Int→Prop}:∀ (r i:Nat) (c:Int),(∀ j,i≤j→j<i+r→Ans (E e) iE (oT S cs ps prt j) (Er S (oT S cs ps prt j)))→K (lT S cs ps prt r i c)→rV e S cs ps prt K r i c
 | 0,_,_,_,h=>h
 | r+1,i,c,hb,h=>by
  simp only [rV];refine bJ.2 ⟨by rw [Ml.2 (hb i (bW _) (by omega))];rfl,?_⟩;simp only [lT] at h
  cases hc:S.b2 (oT S cs ps prt i) with
  | true =>rw [hc,Sj rfl] at h;exact Sd r (i+1) c (fun j h1 h2=>hb j (by omega) (by omega)) h
  | false =>rw [hc,Sk (by decide)] at h;exact Sd r (i+1) _ (fun j h1 h2=>hb j (by omega) (by omega)) h
theorem J3 {f:Prop}:∀ (l:List (PV×PV)),(∀ q∈l,Ans (E e) iO [q.1,q.2] (.tup [.agg [.int .i64 (S.fa q.1 q.2),.int .i64 (S.fb q.1 q.2)],.int .i64 0]))→f→RU e S l f
 | [],_,h=>h
 | q::r,hq,h=>⟨hq q eH,J3 r (fun x hx=>hq x (eE _ hx)) h⟩
theorem J5 {f:Prop}:∀ (l:List (PV×PV)),(∀ q∈l,Ans (E e) jG [q.1] (.tup [.int .i64 (S.ft q.1),.int .i64 0])∧Ans (E e) jV [.int .i64 (S.ft q.1)] (pX (S.ft q.1))∧Ans (E e) jH [q.2,pX (S.ft q.1)] (.tup [Eu S q.1 q.2,.int .i64 0]))→f→BH e S l f
 | [],_,h=>h
 | q::r,hq,h=>⟨(hq q eH).1,(hq q eH).2.1,(hq q eH).2.2,J5 r (fun x hx=>hq x (eE _ hx)) h⟩
theorem J6 {L Pc:List PV} {c:Int} {X Y:Prop}:∀ (r t:Nat),(∀ j,t≤j→j<t+r→Ans (E e) mS (fF L Pc j) (.tup [.bool (S.ho (fF L Pc j)),.int .i64 0])∧Ans (E e) jW (fF L Pc j) (BJ S (fF L Pc j)) ∧
  S.ho (fF L Pc j)=(jQ c (wK j) !=0)∧S.w2 (fF L Pc j)=if S.ho (fF L Pc j)=true then 6 else 0)→Y→tK e S L Pc c X Y r t
 | 0,_,_,h=>h
 | r+1,t,hj,h=>by
  obtain ⟨h1,h2,h3,h4⟩:=hj t (bW _) (by omega);have ih:=J6 (X:=X) r (t+1) (fun j k1 k2=>hj j (by omega) (by omega)) h;refine ⟨h1,h2,?_⟩;rw [← h3,h4]
  cases S.ho (fF L Pc t) with
  | true=>exact ih
  | false=>exact ih
theorem yMx {b:Bool} {cl c:Int} {x y:Prop} (h:b=(decide (cl≤31)&&(jQ cl c==cl))) (hy:y):wL b cl c x y:=by
 subst h;unfold wL
 cases decide (cl≤31) with
 | true=>
  rw [gH]
  cases (jQ cl c==cl)<;>exact hy
 | false=>exact hy
structure T2 (cs:List Ck) (ps:List (List PV)):Prop where
 hl:ps.length=cs.length
 h1:1≤cs.length
 h6:cs.length≤6
 chk:Ans (E e) mR [.data (aD cs),.agg [.data (aM ps)]] (.int .i64 0)
 w:∀ q∈Bx cs ps,Ans (E e) iO [q.1,q.2] (.tup [.agg [.int .i64 (S.fa q.1 q.2),.int .i64 (S.fb q.1 q.2)],.int .i64 0])
 p:∀ q∈GV S ((cs.zip ps).map fun q=>(cA q.1,.data q.2)),Ans (E e) jG [q.1] (.tup [.int .i64 (S.ft q.1),.int .i64 0])∧Ans (E e) jV [.int .i64 (S.ft q.1)] (pX (S.ft q.1))∧Ans (E e) jH [q.2,pX (S.ft q.1)] (.tup [Eu S q.1 q.2,.int .i64 0])
 b:∀ j,j<5→Ans (E e) iE (oT S cs ps (gQ S cs ps) j) (Er S (oT S cs ps (gQ S cs ps) j))
def lU (cs:List Ck) (ps:List (List PV)):Int:=lT S cs ps (gQ S cs ps) 5 0 0
theorem T2.make (h:T2 e S cs ps):∃ m0,∀ k x m,m0≤k→aZ (E2 e S) k x→m0≤m→ybF x m kV [.data (aD cs),.agg [.data (aM ps)]] []=some (pY cs.length (lU S cs ps),M2 S cs ps):=by
 obtain ⟨r,H',⟨rfl,rfl⟩,hm⟩:=yLt e S (K:=fun r H=>r=pY cs.length (lU S cs ps)∧H=M2 S cs ps) (by
  rw [yLu e S h.hl h.h1 h.h6];exact ⟨h.chk,J3 e S _ h.w (J5 e S _ h.p (Sd e S 5 0 0 (fun j _ hj=>h.b j (by omega)) ⟨rfl,rfl⟩))⟩)
 exact hm
theorem T2.run (h:T2 e S cs ps) {cl r0 r1:Int} {i k:Nat} (hi:i<cs.length) (hk:k<cs.length)
  (hv:Ans (E e) qX [.data (aD cs),.agg [.data (aM ps)]] (.bool true)) (ha:Ans (E e) sO [] (.bool true))
  (hA:nP e S cs ps cl (fB S cs ps)=true) (his:nQ S cs ps cl (fB S cs ps)=(decide (cl≤31)&&(jQ cl (lU S cs ps)==cl)))
  (hr:∀ j,j<5→Ans (E e) mS (fF (aD cs) (aM ps) j) (.tup [.bool (S.ho (fF (aD cs) (aM ps) j)),.int .i64 0])∧Ans (E e) jW (fF (aD cs) (aM ps) j) (BJ S (fF (aD cs) (aM ps) j)) ∧
   S.ho (fF (aD cs) (aM ps) j)=(jQ (lU S cs ps) (wK j) !=0)∧S.w2 (fF (aD cs) (aM ps) j)=if S.ho (fF (aD cs) (aM ps) j)=true then 6 else 0)
  (hne:eq2 (KD S cs ps i k) r0 r1=false) (hA2:nP e S cs ps (lU S cs ps) (wM (fB S cs ps) i k (hK r0 r1))=true) (hac:nQ S cs ps (lU S cs ps) (wM (fB S cs ps) i k (hK r0 r1))=false) :
  ∃ H' m0,∀ k' x m,m0≤k'→aZ (E2 e S) k' x→m0≤m→ybF x m AL [.data (aD cs),.agg [.data (aM ps)],.int .u8 cl,.int .i64 (i:Nat),.int .i64 (k:Nat),.agg [.int .i64 r0,.int .i64 r1]] []=some (.bool true,H'):=by
 have hG:=yMw e S h.make;have hlp:LpOk (aZ (E2 e S)) (E2 e S) (BK e S (fun a H=>a=[.data (aD cs),.agg [.data (aM ps)]]∧H=[]) (pY cs.length (lU S cs ps)) (M2 S cs ps)) [] (iU CV).body:=
  dA (l:=[(89800100,.loop 89800100 (iG CW))]) ⟨fun F H Q h=>wB (aQ.uni _) hG (by kernel_rfl) (yNy e S) h,trivial⟩ (by kernel_rfl)
 obtain ⟨r,H',hr',m0,hm⟩:=Fr (S:=⟨E2 e S,fun _=>none,fun _=>none,BK e S (fun a H=>a=[.data (aD cs),.agg [.data (aM ps)]]∧H=[]) (pY cs.length (lU S cs ps)) (M2 S cs ps),fun _=>none⟩) (aQ.uni _) hG (fn:=iU CV) bH.flat hlp (n:=AL) (by kernel_rfl) (GY e S (by kernel_rfl))
  (args:=[.data (aD cs),.agg [.data (aM ps)],.int .u8 cl,.int .i64 (i:Nat),.int .i64 (k:Nat),.agg [.int .i64 r0,.int .i64 r1]]) (H:=[]) (K:=fun r _=>r=.bool true) (by
   unfold Cu;refine bJ.2 ⟨by kernel_rfl,?_⟩;refine (KE 2 kP _ _ _).mpr ?_;refine (lwA e S _ _ _ (aD cs) (aM ps) cl i k r0 r1 _).mpr ⟨hv,?_⟩;refine (KE 6 (eR 2 kP) _ _ _).mpr ?_;refine (yLv e S h.hl h.h1 h.h6 _ (lU S cs ps) cl i k r0 r1 _).mpr ⟨⟨rfl,rfl⟩,bJ.2 ⟨hA,yMx his ?_⟩⟩;refine (KE 1 (eR 8 kP) _ _ _).mpr ?_;refine (yLw e S h.hl h.h1 h.h6 _ _ _ i k r0 r1 (lU S cs ps) _).mpr (J6 e S 5 0 (fun j _ hj=>hr j (by omega)) ?_);have hD:=yLx e S h.hl h.h1 h.h6 (fun a H=>a=[.data (aD cs),.agg [.data (aM ps)]]∧H=[]) (pY cs.length (lU S cs ps)) (M2 S cs ps) r0 r1 (lU S cs ps);refine (hD _ i k hi hk).mpr ?_;rw [hne];refine bJ.2 ⟨hA2,?_⟩;rw [hac];exact ⟨ha,rfl⟩)
 subst hr';exact ⟨H',m0,hm⟩
end
section
variable {cs:List Ck} {A:List (List RS)}
noncomputable def iV (cs:List Ck) (A:List (List RS)) (c:Int):Nat→Nat→Bool
 | 0,_=>true
 | r+1,i=>(gP c i||!(brk cs A (aO cs A cs.length) (bA cs A) (bN i)).2.2)&&iV cs A c r (i+1)
theorem Se {c:Int} (h0:0≤c) (hc:c<32) (h8:jZ c 8=0):gP c 3=true:=by
 obtain ⟨n,rfl⟩:=BO h0;have key:∀ m:Fin 32,jZ (m.1:Int) 8=0→gP (m.1:Int) 3=true:=by decide +kernel
 exact key ⟨n,by omega⟩ h8
theorem J7 (h:DV cs A) (hw:∀ c∈cs,∀ a∈A,Go.Pf.Vc.small (wV c a)) {a0 a1 a2 a3 a4} {K:Bool→Int→Prop} {c:Int} {l4:List PV} (h3:gP c 3=true) :
  ∀ (r i:Nat),i+r=5→K (iV cs A c r i) 0→DW a0 a1 a2 a3 a4 yam (fun _ _ _ _ _ _ _=>K true 0) (fun _ _ _ b e=>K b e) (r+1) (aD cs) (aC A) (aE cs A) c l4 (i:Int)
 | 0,i,hi,k=>by
  obtain rfl:i=5:=by omega
  rw [DW,bE (by omega)];exact k
 | r+1,i,hi,k=>by
  have e1:=cI (n:=(i:Int)+1) (by omega) (by omega);have hn:(!decide ((i:Int)<0))=true:=by rw [Po (by omega)];rfl
  have ih:=J7 h hw (a0:=a0) (a1:=a1) (a2:=a2) (a3:=a3) (a4:=a4) (K:=K) (l4:=l4) h3 r (i+1) (by omega);rw [DW];dsimp only [lt,Go.Pf.jn];rw [bI (by omega),hn,cH,cH,Kw (by omega),e1,cZ];show aB (gP c i) _ _
  cases hc:gP c i with
  | true =>rw [aY];simp only [iV,hc,Bool.true_or,gH] at k;exact ih k
  | false=>
   have hi3:i≠3:=fun e=>by rw [e,h3] at hc;cases hc
   have h8:bN i≠8:=by
    obtain rfl|rfl|rfl|rfl:i=0∨i=1∨i=2∨i=4:=by omega
    all_goals decide
   have hg:=Eo h hw (P:=[]) (c:=bN i) (fun e=>absurd e h8) (GQ i) (g:=bA cs A) (fun K=>h.gapD_eq (aE cs A) (bF []) K);have hg:∀ K,yam (aD cs) (aC A) (aE cs A) [] (bN i) K=_:=hg;rw [aV,hg,F9 (Q:=aO cs A cs.length) h8];simp only [iV,hc,qB] at k
   cases hb:(brk cs A (aO cs A cs.length) (bA cs A) (bN i)).2.2 with
   | true =>rw [hb] at k;exact k
   | false =>rw [hb] at k;exact ih k
theorem J8 (h:DV cs A) (hw:∀ c∈cs,∀ a∈A,Go.Pf.Vc.small (wV c a)) {a0 a1 a2 a3 a4} {K:Bool→Int→Prop} {c:Int} {l4:List PV} :
  ∀ (r i:Nat),i+r=5→K (iV cs A c r i) 0→DX a0 a1 a2 a3 a4 yam (fun _ _ _ _ _ _ _ _=>K true 0) (fun _ _ _ _ b e=>K b e) (r+1) (bF (aO cs A cs.length)) (aD cs) (aC A) (aE cs A) c l4 (i:Int)
 | 0,i,hi,k=>by
  obtain rfl:i=5:=by omega
  rw [DX,bE (by omega)];exact k
 | r+1,i,hi,k=>by
  have e1:=cI (n:=(i:Int)+1) (by omega) (by omega);have hn:(!decide ((i:Int)<0))=true:=by rw [Po (by omega)];rfl
  have ih:=J8 h hw (a0:=a0) (a1:=a1) (a2:=a2) (a3:=a3) (a4:=a4) (K:=K) (c:=c) (l4:=l4) r (i+1) (by omega);rw [DX];dsimp only [lt,Go.Pf.jn];rw [bI (by omega),hn,cH,cH,Kw (by omega),e1,cZ,show (decide ((bF (aO cs A cs.length)).length=(bF (aO cs A cs.length)).length)&&decide ((bF (aO cs A cs.length)).length=(bF (aO cs A cs.length)).length))=true by simp,cH,aJ rfl,aJ (by omega),Ad];show aB (gP c i) _ _
  cases hc:gP c i with
  | true =>rw [aY];simp only [iV,hc,Bool.true_or,gH] at k;exact ih k
  | false=>
   have hg:=Eo h hw (P:=aO cs A cs.length) (c:=bN i) (fun _=>zM cs A cs.length) (GQ i) (g:=bA cs A) (fun K=>h.gapD_eq (aE cs A) (bF (aO cs A cs.length)) K);rw [aV,hg];simp only [iV,hc,qB] at k
   cases hb:(brk cs A (aO cs A cs.length) (bA cs A) (bN i)).2.2 with
   | true =>rw [hb] at k;exact k
   | false =>rw [hb] at k;exact ih k
theorem DV.AcceptAny (h:DV cs A) (hw:∀ c∈cs,∀ a∈A,Go.Pf.Vc.small (wV c a)) (hW:∀ K,yak (aD cs) (aC A) K=K (aE cs A) 0) (hs:∀ j,j<cs.length→Go.Pf.Vc.small (prt cs A j)) {c:Int} (h0:0≤c) (K:Bool→Int→Prop) :
  oL (aD cs) (aC A) c (aE cs A) K=K (decide (c≤31)&&iV cs A c 5 0) 0:=by
 refine YV _ _ _ _ _ _ (fun K k=>?_) K;have h6:=h.d.n6;unfold oL JU;rw [hW,fA rfl];dsimp only [Go.Pf.jn,lt]
 by_cases hc:c≤31
 ·rw [Os hc,gH] at k;rw [bE (by omega),lP,fA rfl];refine ⟨cs.length+1,(I3 h _ _ cs.length 0 (cs.length+1) (by omega) (by omega)).mpr ?_⟩;show aB (jZ c 8 !=0) _ _
  by_cases h8:jZ c 8=0
  ·rw [h8,fA rfl];exact ⟨6,J7 h hw (Se h0 (by omega) h8) 5 0 rfl k⟩
  ·have e8:(jZ c 8 !=0)=true:=by simpa using h8
   rw [e8,aY,dT];refine ⟨cs.length+1,(ysh h hw _ _ _ _ (YY:=K false 16) rfl (fun _=>rfl)).mpr ?_⟩;rcases ygy (cs:=cs) (A:=A) cs.length 0 with ⟨_,e⟩ | ⟨hn,_⟩
   ·refine e.mpr ?_;show aB false _ _;rw [aV,show (decide ((bF (aO cs A cs.length)).length=(bF (aO cs A cs.length)).length)&&decide ((bF (aO cs A cs.length)).length=(bF (aO cs A cs.length)).length))=true by simp,cH];exact ⟨6,J8 h hw 5 0 rfl k⟩
   ·exact absurd (fun j h1 h2=>hs j (by omega)) hn
 ·rw [Po hc,jS] at k;rw [bI (by omega)];exact k
end
theorem J9 {l:List PV} {k:Nat} (x:PV) (h:k<l.length):getD (l.set k x) k .nils=x:=by rw [dH,wT h];rfl
theorem K0 {l:List PV} {k j:Nat} (x:PV) (h:k≠j):getD (l.set k x) j .nils=getD l j .nils:=by rw [dH,rW h,dH]
def Ev (r0 r1:Int):PV:=.agg [.int .i64 r0,.int .i64 r1]
theorem Sf (r0 r1:Int) (P:Prop):aA (aF z2 (Ev r0 r1)) P=P:=rfl
theorem K1 {l:List Rat} (hl:l.length<1000) {K:Bool→Prop} {k:Nat} (hk:k<l.length) {r0 r1:Int} (hne:((r0 ==(l.getD k 0).num)&&((r1 ==((l.getD k 0).den:Int))&&true))=false) :
  ∀ (r i n:Nat),i+r=k→r<n→uM (fun _ _ _ _ _=>K true) (fun b=>K b) n (bF l) ((bF l).set k (Ev r0 r1)) (l.length:Int) (i:Int)=K false
 | 0,i,n+1,hi,hn=>by
  obtain rfl:i=k:=by omega
  rw [uM];dsimp only [lt];rw [bI (by omega),nW,kK,aJ (by omega),aJ (by omega),cE,mH hk,lO,aJ (by omega),aJ (by omega),J9 _ (by rw [kK];exact hk),Sf,nC,nD];have e:(!(((l.getD i 0).num==r0)&&((((l.getD i 0).den:Int)==r1)&&true)))=true:=by
   simp only [Bool.and_true,Bool.and_eq_false_iff,beq_eq_false_iff_ne,jR] at hne ⊢;rcases hne with h | h
   ·exact .inl fun h'=>h h'.symm
   ·exact .inr fun h'=>h h'.symm
  show aB (!(((l.getD i 0).num==r0)&&((((l.getD i 0).den:Int)==r1)&&true))) _ _=_;rw [e,aY]
 | r+1,i,n+1,hi,hn=>by
  have e1:=cI (n:=(i:Int)+1) (by omega) (by omega);have ih:=K1 hl (K:=K) hk hne r (i+1) n (by omega) (by omega);rw [uM];dsimp only [lt];rw [bI (by omega),nW,kK,aJ (by omega),aJ (by omega),cE,K0 _ (by omega:k≠i),mH (by omega),lO,aJ (by omega),aJ (by omega),lO,nC,nD,e1,cZ,ih];have eb:∀ a b:Int,(!((a==a)&&((b==b)&&true)))=false:=fun a b=>by simp
  rw [eb,aV]
theorem yHC {l:List Rat} (hl:l.length<1000) {k:Nat} (hk:k<l.length) {r0 r1:Int} (hne:((r0 ==(l.getD k 0).num)&&((r1 ==((l.getD k 0).den:Int))&&true))=false) (K:Bool→Prop) :
  lJ (bF l) ((bF l).set k (Ev r0 r1)) K=K false:=by
 refine Xf _ _ _ (fun K k'=>?_) K;unfold lJ Jx;rw [nW,kK,fA rfl];exact ⟨k+1,(K1 hl (K:=K) hk hne k 0 (k+1) (by omega) (by omega)).mpr k'⟩
section
variable {cs:List Ck} {A:List (List RS)}
theorem K2 (h:DV cs A) {a0 a2 a3 a4 a5} (x0:List PV→List PV→List PV→List PV→List PV→Int→Int→Bool→Prop) (x1:List PV→List PV→List PV→Bool→Prop) {i0 k:Nat} (hi0:i0<cs.length) (hk:k<cs.length) {r0 r1:Int}
  (hne:((r0 ==(wV (cs.getD i0 default) (A.getD k [])).num)&&((r1 ==((wV (cs.getD i0 default) (A.getD k [])).den:Int))&&true))=false) :
  ∀ (r i n:Nat),i+r=i0→r<n→vK a0 lJ a2 a3 a4 a5 x0 x1 n (aD cs) (aC A) (aE cs A) ((aE cs A).set i0 (.data ((bF (A.map (wV (cs.getD i0 default)))).set k (Ev r0 r1)))) (aE cs A) (cs.length:Int) (i:Int)=x1 (aD cs) (aC A) (aE cs A) false
 | 0,i,n+1,hi,hn=>by
  have h6:=h.d.n6;have hl:=h.l;obtain rfl:i=i0:=by omega
  have eg:(A.map (wV (cs.getD i default))).getD k 0=wV (cs.getD i default) (A.getD k []):=by
   have h1:k<(A.map (wV (cs.getD i default))).length:=by rw [cP];omega
   have h2:k<A.length:=by omega
   rw [← wX (h:=h1),← wX (h:=h2),List.getElem_map]
  rw [vK];dsimp only [lt];rw [bI (by omega),nW,lP,aJ (by omega),aJ (by omega),cE,pW hi0,gG,aJ (by omega),aJ (by omega),J9 _ (by rw [lP];exact hi0),gG,dU,dU,yHC (by rw [cP];omega) (by rw [cP];omega) (by rw [eg];exact hne),pC,aY]
 | r+1,i,n+1,hi,hn=>by have h6:=h.d.n6;have hl:=h.l;have e1:=cI (n:=(i:Int)+1) (by omega) (by omega);have ih:=K2 h (a0:=a0) (a2:=a2) (a3:=a3) (a4:=a4) (a5:=a5) x0 x1 hi0 hk hne r (i+1) n (by omega) (by omega);rw [vK];dsimp only [lt];rw [bI (by omega),nW,lP,aJ (by omega),aJ (by omega),cE,K0 _ (by omega:i0≠i),pW (by omega),gG,aJ (by omega),aJ (by omega),gG,dU,I2 (by rw [cP];omega),e1,cZ,sD,aV,ih]
theorem DV.AcceptNe (h:DV cs A) (hW:∀ K,yak (aD cs) (aC A) K=K (aE cs A) 0) {c:Int} {i k:Nat} (hi:i<cs.length) (hk:k<cs.length) {r0 r1:Int}
  (hne:((r0 ==(wV (cs.getD i default) (A.getD k [])).num)&&((r1 ==((wV (cs.getD i default) (A.getD k [])).den:Int))&&true))=false) (K:Bool→Int→Prop) :
  oL (aD cs) (aC A) c ((aE cs A).set i (.data ((bF (A.map (wV (cs.getD i default)))).set k (Ev r0 r1)))) K=K false 0:=by
 refine YV _ _ _ _ _ _ (fun K k'=>?_) K;have h6:=h.d.n6;unfold oL JU;rw [hW,fA rfl];dsimp only [Go.Pf.jn,lt]
 by_cases hc:c≤31
 ·rw [bE (by omega),lP,nW,lP,fA rfl];exact ⟨i+1,(K2 h _ _ hi hk hne i 0 (i+1) (by omega) (by omega)).mpr k'⟩
 ·rw [bI (by omega)];exact k'
end
theorem Ha (cs:List Ck) (A:List (List RS)) (c:Int) (h0:0≤c) (hc:c≤31) {b0 b1 b2 b3 b4:Bool} (e0:(brk cs A (aO cs A cs.length) (bA cs A) 1).2.2=b0) (e1:(brk cs A (aO cs A cs.length) (bA cs A) 2).2.2=b1) (e2:(brk cs A (aO cs A cs.length) (bA cs A) 4).2.2=b2) (e3:(brk cs A (aO cs A cs.length) (bA cs A) 8).2.2=b3) (e4:(brk cs A (aO cs A cs.length) (bA cs A) 16).2.2=b4) :
  iV cs A c 5 0=(jZ c (nG cs A (aO cs A cs.length) (bA cs A))==c):=by
 obtain ⟨n,rfl⟩:=BO h0;have key:∀ (m:Fin 32) (b0 b1 b2 b3 b4:Bool),((gP (m.1:Int) 0||!b0)&&((gP (m.1:Int) 1||!b1)&&((gP (m.1:Int) 2||!b2)&&((gP (m.1:Int) 3||!b3)&&((gP (m.1:Int) 4||!b4)&&true)))))=(jZ (m.1:Int) (BB b0 b1 b2 b3 b4) ==(m.1:Int)):=by decide +kernel
 rw [F8,e0,e1,e2,e3,e4];have:=key ⟨n,by omega⟩ b0 b1 b2 b3 b4;rw [← this,← e0,← e1,← e2,← e3,← e4];rfl
section
variable {cs:List Ck} {A:List (List RS)}
theorem DV.Make2 (h:DV cs A):(∀ K,ybj (aD cs) (aC A) K=K 0 [] 16)∨((∀ c∈cs,∀ a∈A,Go.Pf.Vc.small (wV c a))∧(∀ j,j<cs.length→Go.Pf.Vc.small (prt cs A j))∧(∀ K,yak (aD cs) (aC A) K=K (aE cs A) 0) ∧
  ∀ K,ybj (aD cs) (aC A) K=K (nG cs A (aO cs A cs.length) (bA cs A)) (aE cs A) 0):=by
 rcases h.Worth with he|⟨hw,he⟩
 ·refine .inl fun K=>?_
  refine Gz _ _ _ _ _ (fun K k=>?_) K;unfold ybj Bj;rw [he];exact k
 ·rcases h.Make with em | ⟨_,hs,em⟩
  ·exact .inl em
  ·exact .inr ⟨hw,hs,he,em⟩
def Si (cs:List Ck) (A:List (List RS)) (i k r0 r1:Int):Prop:=
 (∀ K,yak (aD cs) (aC A) K=K (aE cs A) 0)∧(∀ c∈cs,∀ a∈A,Go.Pf.Vc.small (wV c a))∧(∀ j,j<cs.length→Go.Pf.Vc.small (prt cs A j))∧0≤i∧i<cs.length∧0≤k∧k<cs.length ∧
  ((r0 ==(wV (cs.getD i.toNat default) (A.getD k.toNat [])).num)&&((r1 ==((wV (cs.getD i.toNat default) (A.getD k.toNat [])).den:Int))&&true))=false
theorem DV.askedA (h:DV cs A) (hw:∀ c∈cs,∀ a∈A,Go.Pf.Vc.small (wV c a)) (hW:∀ K,yak (aD cs) (aC A) K=K (aE cs A) 0) (hs:∀ j,j<cs.length→Go.Pf.Vc.small (prt cs A j)) (t:Nat) (K:Int→Int→Bool→Int→Prop) :
  ybq (aD cs) (aC A) (bN t) K=K (brk cs A (aO cs A cs.length) (bA cs A) (bN t)).1 (brk cs A (aO cs A cs.length) (bA cs A) (bN t)).2.1 (brk cs A (aO cs A cs.length) (bA cs A) (bN t)).2.2 0:=by
 by_cases h8:bN t=8
 ·rw [h8];exact h.asked8 hw hW hs K
 ·exact h.asked hw hW (by have:=GQ t;omega) K
theorem Hb (cs:List Ck) (A:List (List RS)) (P:List Rat) (g:Bool) {t:Nat} (ht:t<5):(jZ (nG cs A P g) (bN t) !=0)=!(brk cs A P g (bN t)).2.2:=by
 rw [F8];obtain rfl | rfl | rfl | rfl | rfl:t=0∨t=1∨t=2∨t=3∨t=4:=by omega
 ·exact RK _ _ _ _ _
 ·exact RL _ _ _ _ _
 ·exact RM _ _ _ _ _
 ·exact RN _ _ _ _ _
 ·exact yM8 _ _ _ _ _
theorem yHD (h:DV cs A) (hw:∀ c∈cs,∀ a∈A,Go.Pf.Vc.small (wV c a)) (hW:∀ K,yak (aD cs) (aC A) K=K (aE cs A) 0) (hs:∀ j,j<cs.length→Go.Pf.Vc.small (prt cs A j)) {a0 a1 a2 a3} (x0:List PV→Int→Int→List PV→Int→Int→Int→List PV→Int→Bool→Prop) (x1:Bool→Prop) {i1 i2 i4 i5:Int} {l7:List PV} {n t:Nat} (ht:t<5) :
  Bp a0 a1 a2 a3 tA sZ x0 x1 (n+1) (aD cs) i1 i2 (aC A) i4 i5 (nG cs A (aO cs A cs.length) (bA cs A)) l7 (t:Int) =
  Bp a0 a1 a2 a3 tA sZ x0 x1 n (aD cs) i1 i2 (aC A) i4 i5 (nG cs A (aO cs A cs.length) (bA cs A)) l7 ((t+1:Nat):Int):=by
 have e1:=cI (n:=(t:Int)+1) (by omega) (by omega);have hn:(!decide ((t:Int)<0))=true:=by rw [Po (by omega)];rfl
 have ha:=h.askedA hw hW hs t;have hb:=Hb cs A (aO cs A cs.length) (bA cs A) ht;unfold jZ at hb;rw [Bp];dsimp only [lt,Go.Pf.jn];rw [bI (by omega),hn,cH,Kw ht,RO ha,RP ha,hb,e1,cZ]
 cases (brk cs A (aO cs A cs.length) (bA cs A) (bN t)).2.2 with
 | true=>rfl
 | false=>rfl
end
theorem yLy {cl M:Int} {acc:Bool} {X Y:Prop} (h:acc=(decide (cl≤31)&&(jZ cl M==cl))):aB (decide (cl≤31)) (aB (acc !=(jZ cl M==cl)) X Y) (aB (acc !=false) X Y)=Y:=by
 subst h
 cases decide (cl≤31) with
 | true=>rw [gH,aY];cases (jZ cl M==cl)<;>rfl
 | false=>rfl
theorem yAd {cs:List Ck} {ps:List (List Sp)} (hc:cs.length≤9223372036854775807) (hl:ps.length≤9223372036854775807) (h64:∀ p∈ps,∀ s∈p,s.i64) {cl i k r0 r1:Int} (h0:0≤cl) (hr:By cs ps=true→¬Si cs (ps.map eI) i k r0 r1) :
  JY (aD cs) (jM ps) cl i k r0 r1 (fun b=>b=true):=by
 unfold JY QV;rw [D9 hc hl h64]
 cases hk:By cs ps with
 | false =>rw [pC,aY,KA]
 | true=>
  have hr:=hr hk;obtain ⟨h,e⟩:=Kt hk;rw [e,sD,aV];generalize ps.map eI=A at h hr;have h6:=h.d.n6;have hA:=h.l;have en:((cs.length:Int) !=(cs.length:Int))=false:=by simp
  rcases h.Make2 with em|⟨hw,hs,hW,em⟩
  ·rw [em];dsimp only [Go.Pf.jn];rw [iF (by decide),kH rfl,KA]
  ·rw [em];dsimp only [Go.Pf.jn,lt];rw [fA rfl,lP,dT,en,aV,h.AcceptAny hw hW hs h0,fA rfl];have e5:(decide (cl≤31)&&iV cs A cl 5 0)=(decide (cl≤31)&&(jZ cl (nG cs A (aO cs A cs.length) (bA cs A))==cl)):=by
    by_cases h31:cl≤31
    ·rw [Ha cs A cl h0 h31 rfl rfl rfl rfl rfl]
    ·rw [Po h31];rfl
   refine (yLy e5).mpr ?_;refine ⟨6,?_⟩;have s:=fun (n t:Nat) (ht:t<5) (x0)=>yHD h hw hW hs (a0:=zA) (a1:=vL) (a2:=ybj) (a3:=oL) x0 (fun b=>b=true) (i1:=i) (i2:=k) (i4:=r0) (i5:=r1) (l7:=aE cs A) (n:=n) ht
   refine (s 5 0 (by omega) _).mpr ((s 4 1 (by omega) _).mpr ((s 3 2 (by omega) _).mpr ((s 2 3 (by omega) _).mpr ((s 1 4 (by omega) _).mpr ?_))));rw [Bp,bE (by omega)];have hal:vL (fun b=>b=true):=by rw [KA]
   by_cases i0:i<0
   ·rw [bI i0];exact hal
   rw [bE i0,dT]
   by_cases i1:i≥(cs.length:Int)
   ·rw [bI i1];exact hal
   rw [bE i1]
   by_cases k0:k<0
   ·rw [bI k0];exact hal
   rw [bE k0,lP,aJ (by omega),aJ (by omega)];obtain ⟨i,rfl⟩:=BO (show 0≤i by omega);obtain ⟨k,rfl⟩:=BO (show 0≤k by omega);rw [cE,cE,pW (by omega),gG,dU,kK,cP,hA]
   by_cases k1:(k:Int)≥(cs.length:Int)
   ·rw [bI k1];exact hal
   have eg:(A.map (wV (cs.getD i default))).getD k 0=wV (cs.getD i default) (A.getD k []):=by
    have h1:k<(A.map (wV (cs.getD i default))).length:=by rw [cP];omega
    have h2:k<A.length:=by omega
    rw [← wX (h:=h1),← wX (h:=h2),List.getElem_map]
   rw [bE k1,aJ (by omega),aJ (by omega),gG,aJ (by omega),aJ (by omega),mH (by rw [cP];omega),lO,eg]
   cases hb:((r0 ==(wV (cs.getD i default) (A.getD k [])).num)&&((r1 ==((wV (cs.getD i default) (A.getD k [])).den:Int))&&true)) with
   | true =>show aB ((r0 ==(wV (cs.getD i default) (A.getD k [])).num)&&((r1 ==((wV (cs.getD i default) (A.getD k [])).den:Int))&&true)) _ _;rw [hb,aY];exact hal
   | false=>exact absurd ⟨hW,hw,hs,by omega,by omega,by omega,by omega,hb⟩ hr
theorem pZ {E:Env} {n:Nat} {wp:List PV→(PV→Prop)→Prop} {az:List PV} {x:PV} (h:bP E wp n) (hk:wp az (fun r=>r=x)):Ans E n az x:=by obtain ⟨r,hr,ha⟩:=h az _ hk;subst hr;exact ha
noncomputable def fR (n:Nat) (az:List PV):PV:=(gY (E aT) n az).getD .nils
theorem zU {n:Nat} {az:List PV} {r:PV} (h:Ans (E aT) n az r):fR n az=r:=by unfold fR;rw [Mm h];rfl
def wN:PV→Int
 | .tup [.agg [.int _ a,_],_]=>a
 | _=>0
def wO:PV→Int
 | .tup [.agg [_,.int _ a],_]=>a
 | _=>0
def oU:PV→Int
 | .tup (.int _ a::_)=>a
 | _=>0
def wP:PV→Int
 | .tup [_,.int _ a,_]=>a
 | _=>0
def BL:PV→Int
 | .tup [_,_,.int _ a]=>a
 | _=>0
def wQ:PV→Bool
 | .tup (.bool b::_)=>b
 | _=>false
def BM:PV→Bool
 | .tup [_,_,.bool b]=>b
 | _=>false
noncomputable def S6:S2 where
 fa c p:=wN (fR iO [c,p])
 fb c p:=wO (fR iO [c,p])
 ft c:=oU (fR jG [c])
 da x y:=wN (fR jH [x,y])
 db x y:=wO (fR jH [x,y])
 b0 az:=oU (fR iE az)
 b1 az:=wP (fR iE az)
 b2 az:=BM (fR iE az)
 ac az:=wQ (fR sP az)
 ho az:=wQ (fR mS az)
 w0 az:=oU (fR jW az)
 w1 az:=wP (fR jW az)
 w2 az:=BL (fR jW az)
section
variable {cs:List Ck} {A:List (List RS)}
theorem kQ (A:List (List RS)):aM (A.map aS)=aC A:=by unfold aM aC;rw [iI];rfl
theorem DV.each (h:DV cs A) (hW0:∀ K,yak (aD cs) (aC A) K=K (aE cs A) 0) {c:Ck} (hc:c∈cs) {a:List RS} (ha:a∈A) (K:Int→Int→Int→Prop):yaW c.len (aI c.cuts) (aI c.dens) (aS a) K=K (wV c a).num ((wV c a).den:Int) 0:=by
 rcases h.out hc ha with ⟨x,rfl,hx⟩|⟨_,hx⟩
 ·exfalso;have h6:=h.d.n6;have h1:=h.d.n0;have hl:=h.l;have hall:∀ c∈cs,∀ a∈A,(∀ K:Int→Int→Int→Prop,yaW c.len (aI c.cuts) (aI c.dens) (aS a) K=K (fW c (aS a)).1 (fW c (aS a)).2.1 (fW c (aS a)).2.2)∧((fW c (aS a)).2.2=16∨(fW c (aS a)).2.2=0):=fun c hc a ha=>by
   rcases h.out hc ha with ⟨x,rfl,hx⟩|⟨hs,hx⟩
   ·have e2:=Ek (t:=(0,0,16)) hx;rw [e2];exact ⟨hx,.inl rfl⟩
   ·have e2:=Ek (t:=((wV c a).num,((wV c a).den:Int),0)) hx;rw [e2];exact ⟨hx,.inr rfl⟩
  have hck:∀ K,ybi (aD cs) (aM (A.map aS)) K=K 0:=fun K=>by rw [kQ];exact Ej h K
  have hW:∀ c∈cs,∀ p∈A.map aS,∀ K:Int→Int→Int→Prop,yaW c.len (aI c.cuts) (aI c.dens) p K=K (fW c p).1 (fW c p).2.1 (fW c p).2.2:=fun c hc p hp=>by
   obtain ⟨a,ha,rfl⟩:=fT.1 hp;exact (hall c hc a ha).1
  have e16:=Ek (t:=(0,0,16)) hx;have:=Ks (ps:=A.map aS) (r0:=[]) (r1:=16) (by rw [cP];exact hl) h1 h6 hck hW (fun h0=>by
   have:=h0 c hc (aS a) (fT.2 ⟨a,ha,rfl⟩);rw [e16] at this
   cases this) (fun c hc p hp hn=>by
   obtain ⟨a,ha,rfl⟩:=fT.1 hp;rcases (hall c hc a ha).2 with h16 | h0
   ·exact ⟨rfl,h16.symm⟩
   ·exact absurd h0 hn) (fun _ e=>e=0)
  rw [kQ,hW0] at this;have k:(0:Int)=0:=rfl;rw [this] at k
  cases k
 ·exact hx K
theorem DV.wAns6 (h:DV cs A) (hW:∀ K,yak (aD cs) (aC A) K=K (aE cs A) 0) {c:Ck} (hc:c∈cs) {a:List RS} (ha:a∈A):Ans (E aT) iO [cA c,.data (aS a)] (.tup [.agg [.int .i64 (wV c a).num,.int .i64 ((wV c a).den:Int)],.int .i64 0]):=by refine pZ (Pb aT bB) ?_;show yaW c.len (aI c.cuts) (aI c.dens) (aS a) (fun r0 r1 r2=>PV.tup [.agg [.int .i64 r0,.int .i64 r1],.int .i64 r2]=_);rw [h.each hW hc ha]
theorem DV.fa6 (h:DV cs A) (hW:∀ K,yak (aD cs) (aC A) K=K (aE cs A) 0) {c:Ck} (hc:c∈cs) {a:List RS} (ha:a∈A):S6.fa (cA c) (.data (aS a))=(wV c a).num∧S6.fb (cA c) (.data (aS a))=((wV c a).den:Int):=by
 have e:=zU (h.wAns6 hW hc ha);constructor
 ·show wN (fR iO _)=_;rw [e];rfl
 ·show wO (fR iO _)=_;rw [e];rfl
theorem DV.tb6 (h:DV cs A) (hW:∀ K,yak (aD cs) (aC A) K=K (aE cs A) 0):fB S6 cs (A.map aS)=cs.map fun c=>bF (A.map (wV c)):=by
 unfold fB;refine nH fun c hc=>?_
 unfold bF;rw [iI,iI];refine nH fun a ha=>?_
 obtain ⟨e1,e2⟩:=h.fa6 hW hc ha;show PV.agg [.int .i64 (S6.fa (cA c) (.data (aS a))),.int .i64 (S6.fb (cA c) (.data (aS a)))]=_;rw [e1,e2];rfl
theorem DV.wt6 (h:DV cs A) (hW:∀ K,yak (aD cs) (aC A) K=K (aE cs A) 0):wC S6.fa S6.fb cs (A.map aS)=aE cs A:=by have e:=Sl (map PV.data) (h.tb6 hW);unfold fB at e;rw [iI,iI] at e;exact e
theorem DV.zip6 (h:DV cs A):(cs.zip (A.map aS))=(List.range cs.length).map fun i=>(cs.getD i default,aS (A.getD i [])):=by
 have hl:=h.l;refine List.ext_getElem (by simp [hl]) fun i h1 h2=>?_
 have hi:i<cs.length:=by simpa using h2
 rw [List.getElem_zip,List.getElem_map,List.getElem_map,List.getElem_range,wX (fallback:=default),wX (l:=A) (fallback:=[])]
def Ew (cs:List Ck) (A:List (List RS)) (i:Nat):PV×PV:=(cA (cs.getD i default),.agg [.int .i64 (wV (cs.getD i default) (A.getD i [])).num,.int .i64 ((wV (cs.getD i default) (A.getD i [])).den:Int)])
theorem DV.dg6 (h:DV cs A) (hW:∀ K,yak (aD cs) (aC A) K=K (aE cs A) 0):GV S6 ((cs.zip (A.map aS)).map fun q=>(cA q.1,.data q.2))=(List.range cs.length).map (Ew cs A):=by
 have hl:=h.l;unfold GV;rw [h.zip6,iI,iI];refine nH fun i hi=>?_
 have hi:=xC.1 hi;obtain ⟨e1,e2⟩:=h.fa6 hW (kM default hi) (kM (l:=A) [] (by omega:i<A.length));show (cA (cs.getD i default),PV.agg [.int .i64 (S6.fa (cA (cs.getD i default)) (.data (aS (A.getD i [])))),.int .i64 (S6.fb (cA (cs.getD i default)) (.data (aS (A.getD i []))))])=_;rw [e1,e2];rfl
def tC (cs:List Ck) (i:Nat):Int:=totC (cs.getD i default).cuts (cs.getD i default).dens
theorem DV.tot6 (h:DV cs A) {i:Nat} (hi:i<cs.length):Ans (E aT) jG [cA (cs.getD i default)] (.tup [.int .i64 (tC cs i),.int .i64 0]):=by refine pZ (sV aT bB) ?_;show bU (cs.getD i default).len (aI (cs.getD i default).cuts) (aI (cs.getD i default).dens) (fun r0 r1=>PV.tup [.int .i64 r0,.int .i64 r1]=_);rw [h.total hi];rfl
theorem yMy (t:Int):Ans (E aT) jV [.int .i64 t] (pX t):=by refine pZ (sX aT bB) ?_;show dX t (fun r0 r1=>PV.agg [.int .i64 r0,.int .i64 r1]=_);rw [rT];rfl
theorem DV.div6 (h:DV cs A) (hw:∀ c∈cs,∀ a∈A,Go.Pf.Vc.small (wV c a)) (hs:∀ j,j<cs.length→Go.Pf.Vc.small (prt cs A j)) {i:Nat} (hi:i<cs.length):Ans (E aT) jH [(Ew cs A i).2,pX (tC cs i)] (.tup [kJ (prt cs A i),.int .i64 0]):=by refine pZ (yM aT bB) ?_;show fJ (wV (cs.getD i default) (A.getD i [])).num (wV (cs.getD i default) (A.getD i [])).den ((tC cs i:Int):Rat).num ((tC cs i:Int):Rat).den (fun r0 r1 r2=>PV.tup [.agg [.int .i64 r0,.int .i64 r1],.int .i64 r2]=_);unfold tC;rw [h.div hw hi];unfold fitK;rw [Sj (hs i hi)];rfl
theorem DV.ft6 (h:DV cs A) {i:Nat} (hi:i<cs.length):S6.ft (cA (cs.getD i default))=tC cs i:=by show oU (fR jG _)=_;rw [zU (h.tot6 hi)];rfl
theorem DV.pq6 (h:DV cs A) (hw:∀ c∈cs,∀ a∈A,Go.Pf.Vc.small (wV c a)) (hs:∀ j,j<cs.length→Go.Pf.Vc.small (prt cs A j)) {i:Nat} (hi:i<cs.length):Eu S6 (Ew cs A i).1 (Ew cs A i).2=kJ (prt cs A i):=by unfold Eu;have e:S6.ft (Ew cs A i).1=tC cs i:=h.ft6 hi;rw [e];have e2:=zU (h.div6 hw hs hi);show PV.agg [.int .i64 (wN (fR jH _)),.int .i64 (wO (fR jH _))]=_;rw [e2];rfl
theorem DV.prt6 (h:DV cs A) (hw:∀ c∈cs,∀ a∈A,Go.Pf.Vc.small (wV c a)) (hs:∀ j,j<cs.length→Go.Pf.Vc.small (prt cs A j)) (hW:∀ K,yak (aD cs) (aC A) K=K (aE cs A) 0):gQ S6 cs (A.map aS)=bF (aO cs A cs.length):=by
 unfold gQ bF aO;rw [h.dg6 hW,iI,iI];refine nH fun i hi=>?_
 exact h.pq6 hw hs (xC.1 hi)
theorem KG:∀ j:Nat,wK j=bN j
 | 0=>rfl
 | 1=>rfl
 | 2=>rfl
 | 3=>rfl
 | _+4=>rfl
theorem DV.brk6 (h:DV cs A) (hw:∀ c∈cs,∀ a∈A,Go.Pf.Vc.small (wV c a)) (hs:∀ j,j<cs.length→Go.Pf.Vc.small (prt cs A j)) (hW:∀ K,yak (aD cs) (aC A) K=K (aE cs A) 0) (j:Nat):Ans (E aT) iE (oT S6 cs (A.map aS) (gQ S6 cs (A.map aS)) j) (Er S6 (oT S6 cs (A.map aS) (gQ S6 cs (A.map aS)) j)) ∧
  S6.b2 (oT S6 cs (A.map aS) (gQ S6 cs (A.map aS)) j)=(brk cs A (aO cs A cs.length) (bA cs A) (bN j)).2.2:=by
 unfold oT;rw [h.prt6 hw hs hW,h.wt6 hW,kQ,KG];have k:Ans (E aT) iE [.eptr [.agg [.data (aD cs),.data (aC A),.data (aE cs A),.data (bF (aO cs A cs.length))]] 0 0,.int .u8 (bN j)] (.tup [.int .i64 (brk cs A (aO cs A cs.length) (bA cs A) (bN j)).1,.int .i64 (brk cs A (aO cs A cs.length) (bA cs A) (bN j)).2.1,.bool (brk cs A (aO cs A cs.length) (bA cs A) (bN j)).2.2]):=by
  refine pZ yV ?_;show yam (aD cs) (aC A) (aE cs A) (bF (aO cs A cs.length)) (bN j) (fun r0 r1 r2=>PV.tup [.int .i64 r0,.int .i64 r1,.bool r2]=_);rw [Eo h hw (fun _=>zM cs A cs.length) (GQ j) (fun K=>h.gapD_eq (aE cs A) (bF (aO cs A cs.length)) K)]
 have e:=zU k;constructor
 ·unfold Er;show Ans _ _ _ (.tup [.int .i64 (oU (fR iE _)),.int .i64 (wP (fR iE _)),.bool (BM (fR iE _))]);rw [e];exact k
 ·show BM (fR iE _)=_;rw [e];rfl
theorem DV.cM6 (h:DV cs A) (hw:∀ c∈cs,∀ a∈A,Go.Pf.Vc.small (wV c a)) (hs:∀ j,j<cs.length→Go.Pf.Vc.small (prt cs A j)) (hW:∀ K,yak (aD cs) (aC A) K=K (aE cs A) 0):lU S6 cs (A.map aS)=nG cs A (aO cs A cs.length) (bA cs A):=by
 have hb:=fun j=>(h.brk6 hw hs hW j).2
 have st:∀ (r i:Nat) (c:Int),lT S6 cs (A.map aS) (gQ S6 cs (A.map aS)) (r+1) i c=lT S6 cs (A.map aS) (gQ S6 cs (A.map aS)) r (i+1) (kO cs A (aO cs A cs.length) (bA cs A) c i):=fun r i c=>by
  rw [lT,hb i,KG];unfold kO
  cases (brk cs A (aO cs A cs.length) (bA cs A) (bN i)).2.2<;>rfl
 unfold lU;rw [st,st,st,st,st];rfl
theorem DV.T6 (h:DV cs A) (hw:∀ c∈cs,∀ a∈A,Go.Pf.Vc.small (wV c a)) (hs:∀ j,j<cs.length→Go.Pf.Vc.small (prt cs A j)) (hW:∀ K,yak (aD cs) (aC A) K=K (aE cs A) 0):T2 aT S6 cs (A.map aS) where
 hl:=by rw [cP];exact h.l
 h1:=h.d.n0
 h6:=h.d.n6
 chk:=by
  rw [kQ];refine pZ (Gk aT bB) ?_;show ybi (aD cs) (aC A) (fun r=>PV.int .i64 r=_);rw [Ej h]
 w:=by
  intro q hq;unfold Bx at hq;obtain ⟨c,hc,hq⟩:=BQ.1 hq;obtain ⟨p,hp,rfl⟩:=fT.1 hq;obtain ⟨a,ha,rfl⟩:=fT.1 hp;obtain ⟨e1,e2⟩:=h.fa6 hW hc ha;rw [e1,e2];exact h.wAns6 hW hc ha
 p:=by
  intro q hq;rw [h.dg6 hW] at hq;obtain ⟨i,hi,rfl⟩:=fT.1 hq;have hi:=xC.1 hi;have e:S6.ft (Ew cs A i).1=tC cs i:=h.ft6 hi;rw [h.pq6 hw hs hi,e];exact ⟨h.tot6 hi,yMy _,h.div6 hw hs hi⟩
 b:=fun j _=>(h.brk6 hw hs hW j).1
theorem DV.tab6 (h:DV cs A) (hW:∀ K,yak (aD cs) (aC A) K=K (aE cs A) 0):(fB S6 cs (A.map aS)).map PV.data=aE cs A:=by rw [h.tb6 hW,iI];rfl
theorem DV.row6 (h:DV cs A) (hW:∀ K,yak (aD cs) (aC A) K=K (aE cs A) 0) {i:Nat} (hi:i<cs.length):(fB S6 cs (A.map aS)).getD i []=bF (A.map (wV (cs.getD i default))):=by
 rw [h.tb6 hW];have h1:i<(cs.map fun c=>bF (A.map (wV c))).length:=by rw [cP];exact hi
 rw [← wX (h:=h1),List.getElem_map,wX (fallback:=default)]
theorem Hc {az:List PV} {b:Bool} (h:Ans (E aT) sP az (.tup [.bool b,.int .i64 0])):(mQ (E aT) sP az (.tup [.bool (S6.ac az),.int .i64 0])&&true)=true∧S6.ac az=b:=by
 have e:S6.ac az=b:=by show wQ (fR sP _)=_;rw [zU h];rfl
 rw [e,Ml.2 h];exact ⟨rfl,rfl⟩
theorem DV.acA6 (h:DV cs A) (hw:∀ c∈cs,∀ a∈A,Go.Pf.Vc.small (wV c a)) (hs:∀ j,j<cs.length→Go.Pf.Vc.small (prt cs A j)) (hW:∀ K,yak (aD cs) (aC A) K=K (aE cs A) 0) {cl:Int} (h0:0≤cl) :
  nP aT S6 cs (A.map aS) cl (fB S6 cs (A.map aS))=true∧nQ S6 cs (A.map aS) cl (fB S6 cs (A.map aS))=(decide (cl≤31)&&(jQ cl (lU S6 cs (A.map aS))==cl)):=by
 unfold nP nQ GX;rw [h.tab6 hW,kQ,h.cM6 hw hs hW];refine Hc (pZ JW ?_);show oL (aD cs) (aC A) cl (aE cs A) (fun r0 r1=>PV.tup [.bool r0,.int .i64 r1]=_);have e5:(decide (cl≤31)&&iV cs A cl 5 0)=(decide (cl≤31)&&(jQ cl (nG cs A (aO cs A cs.length) (bA cs A))==cl)):=by
  by_cases h31:cl≤31
  ·rw [Ha cs A cl h0 h31 rfl rfl rfl rfl rfl];rfl
  ·rw [Po h31];rfl
 rw [h.AcceptAny hw hW hs h0,e5]
theorem DV.acN6 (h:DV cs A) (hW:∀ K,yak (aD cs) (aC A) K=K (aE cs A) 0) {c:Int} {i k:Nat} (hi:i<cs.length) (hk:k<cs.length) {r0 r1:Int}
  (hne:((r0 ==(wV (cs.getD i default) (A.getD k [])).num)&&((r1 ==((wV (cs.getD i default) (A.getD k [])).den:Int))&&true))=false) :
  nP aT S6 cs (A.map aS) c (wM (fB S6 cs (A.map aS)) i k (hK r0 r1))=true∧nQ S6 cs (A.map aS) c (wM (fB S6 cs (A.map aS)) i k (hK r0 r1))=false:=by
 unfold nP nQ GX wM;rw [h.row6 hW hi,List.map_set,h.tab6 hW,kQ];refine Hc (pZ JW ?_);show oL (aD cs) (aC A) c ((aE cs A).set i (.data ((bF (A.map (wV (cs.getD i default)))).set k (Ev r0 r1)))) (fun r0 r1=>PV.tup [.bool r0,.int .i64 r1]=_);rw [h.AcceptNe hW hi hk hne]
theorem DV.hold6 (h:DV cs A) (hw:∀ c∈cs,∀ a∈A,Go.Pf.Vc.small (wV c a)) (hs:∀ j,j<cs.length→Go.Pf.Vc.small (prt cs A j)) (hW:∀ K,yak (aD cs) (aC A) K=K (aE cs A) 0) {j:Nat} (hj:j<5) :
  Ans (E aT) mS (fF (aD cs) (aM (A.map aS)) j) (.tup [.bool (S6.ho (fF (aD cs) (aM (A.map aS)) j)),.int .i64 0])∧Ans (E aT) jW (fF (aD cs) (aM (A.map aS)) j) (BJ S6 (fF (aD cs) (aM (A.map aS)) j)) ∧
   S6.ho (fF (aD cs) (aM (A.map aS)) j)=(jQ (lU S6 cs (A.map aS)) (wK j) !=0)∧S6.w2 (fF (aD cs) (aM (A.map aS)) j)=if S6.ho (fF (aD cs) (aM (A.map aS)) j)=true then 6 else 0:=by
 have ha:=h.askedA hw hW hs j;have hb:=Hb cs A (aO cs A cs.length) (bA cs A) hj;rw [kQ,h.cM6 hw hs hW,KG];unfold fF;rw [KG];show _∧_∧_=(jZ (nG cs A (aO cs A cs.length) (bA cs A)) (bN j) !=0)∧_;rw [hb];generalize brk cs A (aO cs A cs.length) (bA cs A) (bN j)=t at ha;obtain ⟨x,y,no⟩:=t;have k1:Ans (E aT) mS [.data (aD cs),.agg [.data (aC A)],.int .u8 (bN j)] (.tup [.bool (!no),.int .i64 0]):=by refine pZ Qz ?_;show tA (aD cs) (aC A) (bN j) (fun r0 r1=>PV.tup [.bool r0,.int .i64 r1]=_);rw [RO ha]
 have k2:Ans (E aT) jW [.data (aD cs),.agg [.data (aC A)],.int .u8 (bN j)] (if no then .tup [.int .i64 x,.int .i64 y,.int .i64 0] else .tup [.int .i64 0,.int .i64 0,.int .i64 6]):=by
  refine pZ Qw ?_;show sZ (aD cs) (aC A) (bN j) (fun r0 r1 r2=>PV.tup [.int .i64 r0,.int .i64 r1,.int .i64 r2]=_);rw [RP ha]
  cases no<;>rfl
 have e1:S6.ho [.data (aD cs),.agg [.data (aC A)],.int .u8 (bN j)]=!no:=by show wQ (fR mS _)=_;rw [zU k1];rfl
 have e2:BJ S6 [.data (aD cs),.agg [.data (aC A)],.int .u8 (bN j)]=if no then .tup [.int .i64 x,.int .i64 y,.int .i64 0] else .tup [.int .i64 0,.int .i64 0,.int .i64 6]:=by
  show PV.tup [.int .i64 (oU (fR jW _)),.int .i64 (wP (fR jW _)),.int .i64 (BL (fR jW _))]=_;rw [zU k2]
  cases no<;>rfl
 have e3:S6.w2 [.data (aD cs),.agg [.data (aC A)],.int .u8 (bN j)]=if no then 0 else 6:=by
  show BL (fR jW _)=_;rw [zU k2]
  cases no<;>rfl
 rw [e1,e2,e3];exact ⟨k1,k2,rfl,by cases no<;>rfl⟩
theorem DV.run6 (h:DV cs A) (hv:Ans (E aT) qX [.data (aD cs),.agg [.data (aC A)]] (.bool true)) {cl i k r0 r1:Int} (h0:0≤cl) (hr:Si cs A i k r0 r1) :
  ∃ H' m0,∀ k' x m,m0≤k'→aZ (E2 aT S6) k' x→m0≤m→ybF x m AL [.data (aD cs),.agg [.data (aC A)],.int .u8 cl,.int .i64 i,.int .i64 k,.agg [.int .i64 r0,.int .i64 r1]] []=some (.bool true,H'):=by
 obtain ⟨hW,hw,hs,i0,i1,k0,k1,hne⟩:=hr;obtain ⟨i,rfl⟩:=BO i0;obtain ⟨k,rfl⟩:=BO k0;rw [cE,cE] at hne;have hi:i<cs.length:=by omega
 have hk:k<cs.length:=by omega
 have hl:=h.l;have ha:Ans (E aT) sO [] (.bool true):=by refine pZ Zf ?_;show vL (fun r=>PV.bool r=_);rw [KA]
 have a1:=h.acA6 hw hs hW h0;have a2:=h.acN6 hW (c:=lU S6 cs (A.map aS)) hi hk hne;have he:eq2 (KD S6 cs (A.map aS) i k) r0 r1=false:=by unfold eq2 KD;rw [h.row6 hW hi,mH (by rw [cP];omega),tJ (by omega),nC,nD];exact hne
 have:=T2.run aT S6 (h.T6 hw hs hW) (cl:=cl) (r0:=r0) (r1:=r1) hi hk (by rw [kQ];exact hv) ha a1.1 a1.2 (fun j hj=>h.hold6 hw hs hW hj) he a2.1 a2.2;rw [kQ] at this;exact this
end
theorem K3 {p:Nat→Bool}:∀ {L:List Nat},L.all p=true→∀ {n:Nat},memN L n=true→p n=true
 | [],_,_,h=>by cases h
 | k::r,ha,n,h=>by
  simp only [List.all_cons,bQ] at ha;simp only [memN] at h
  cases hb:Nat.beq k n with
  | true=>rw [← eJ hb];exact ha.1
  | false=>rw [hb,cond_false] at h;exact K3 ha.2 h
theorem yAe {P:Program} (hE:EO P (E aT)) (hm:P.follows .mixedOrders=true) {cs:List Ck} {ps:List (List Sp)} (hc:cs.length≤9223372036854775807) (hl:ps.length≤9223372036854775807) (h64:∀ p∈ps,∀ s∈p,s.i64) {cl i k r0 r1:Int} (h0:0≤cl) :
  lD P (E aT).glob AL [.data (aD cs),.agg [.data (jM ps)],.int .u8 cl,.int .i64 i,.int .i64 k,.agg [.int .i64 r0,.int .i64 r1]] (.bool true):=by
 by_cases hr:By cs ps=true∧Si cs (ps.map eI) i k r0 r1
 ·obtain ⟨hk,hr⟩:=hr;obtain ⟨h,e⟩:=Kt hk;have hv:Ans (E aT) qX [.data (aD cs),.agg [.data (aC (ps.map eI))]] (.bool true):=by
   refine pZ (YW aT bB) ?_;show zA (aD cs) (aC (ps.map eI)) (fun r=>PV.bool r=_);rw [← e,D9 hc hl h64,hk]
  obtain ⟨H',m0,hrun⟩:=h.run6 hv h0 hr;rw [e];have hq:∀ L:List Nat,(L.all fun n=>(E aT).qui n&&!CA xX xY uH n)=true→∀ n,memN L n=true→(E aT).qui n=true∧∀ az,(E aT).sum n az=none:=fun L hL n hn=>by
   have a1:=K3 hL hn;simp only [bQ,jR] at a1;exact ⟨a1.1,fun az=>dW a1.2 az⟩
  have hE2:EO P (E2 aT S6):=ct hE hm (hq BC (by kernel_rfl)) (hq Ep (by kernel_rfl));refine LM (E:=E2 aT S6) hE2 hm (n:=m0) ?_;unfold topV;rw [hrun m0 (E2 aT S6) m0 (bW _) rfl (bW _)];rfl
 ·obtain ⟨r,hr',ha⟩:=yy [.data (aD cs),.agg [.data (jM ps)],.int .u8 cl,.int .i64 i,.int .i64 k,.agg [.int .i64 r0,.int .i64 r1]] (fun r=>r=.bool true) (show JY (aD cs) (jM ps) cl i k r0 r1 (fun r=>PV.bool r=.bool true) by
   have h2:=yAd (cs:=cs) (ps:=ps) hc hl h64 (cl:=cl) (i:=i) (k:=k) (r0:=r0) (r1:=r1) h0 (fun hk hre=>hr ⟨hk,hre⟩);simpa using h2)
  subst hr';exact Ie hE hm (by kernel_rfl) (by kernel_rfl) ha.solo
theorem yMz {az:List PV} (h:yix [.s tI,oS,.i .u8,.i .i64,.i .i64,vU] az):∃ (l:List Ck) (ps:List (List Sp)) (cl i k r0 r1:Int),az=[.data (aD l),.agg [.data (jM ps)],.int .u8 cl,.int .i64 i,.int .i64 k,.agg [.int .i64 r0,.int .i64 r1]]∧l.length≤9223372036854775807∧ps.length≤9223372036854775807∧(∀ p∈ps,∀ s∈p,s.i64)∧0≤cl:=by
 have h2:∃ as1 as2,az=as1++as2∧yix [.s tI,oS] as1∧yix [.i .u8,.i .i64,.i .i64,vU] as2:=by
  simp only [yix] at h;obtain ⟨x,r,rfl,x1,x2,y,r2,rfl,y1,y2,hr⟩:=h;refine ⟨[x,y],r2,rfl,?_,?_⟩
  ·simp only [yix];exact ⟨x,[y],rfl,x1,x2,y,[],rfl,y1,y2,rfl⟩
  ·simp only [yix];exact hr
 obtain ⟨as1,as2,rfl,h1,h2⟩:=h2;obtain ⟨l,ps,rfl,k1,k2,k3⟩:=yNc h1;simp only [yix] at h2;obtain ⟨c,q1,rfl,c1,c2,i,q2,rfl,i1,i2,k,q3,rfl,j1,j2,u,q4,rfl,u1,u2,rfl⟩:=h2;simp only [HasF] at c2;obtain ⟨cl,e1,hcl⟩:=c2;obtain ⟨i0,e2,_⟩:=Rl i2;obtain ⟨k0,e3,_⟩:=Rl j2;rw [GJ c1 e1,GJ i1 e2,GJ j1 e3,Kj u1];obtain ⟨r0,r1,e4,_,_⟩:=F_r u2;rw [e4];exact ⟨l,ps,cl,i0,k0,r0,r1,rfl,k1,k2,k3,hcl.1⟩
end Go.Pf.Vc
