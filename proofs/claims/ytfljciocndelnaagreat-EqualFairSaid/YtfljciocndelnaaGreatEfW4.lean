/- Part 4. -/
import Derived.Test.YtfljciocndelnaaGreatEfW3
open Go.IntKind (i64 u8 u64)
open List (length getD take drop replicate set map isEmpty)
noncomputable section
namespace Go.Pf.Vc
open Go Go.Pf
set_option maxRecDepth 100000
def ymA (Q:Qx):Ls→Ls→Ls→Ls→Ls→Ls→Ls→Ls→Int→Int→Bool→Prop:=(fun b c d e f g h i j k l=>Q (.exit 0) [(0,.v (.eptr [(.agg [(.data f),(.data g),(.data h),(.data i)])] 0 0)),(1,.v (.fn (.func FE) [] [(.ptr 0 1 0 0)])),(13,.v (ic j)),(14,.v (ic k)),(15,.v (.bool l))] [⟨false,false,1,([(.eptr [(.agg [(.data b),(.data c),(.data d),(.data e)])] 0 0)]:Ls)⟩])
def mA:HPt:=hB false false 1 (rC iG rN) hN
def JM:iS:=vF Fx lN oA
def vJ:Pat aF:=fV 7 cX (fV 13 cX (fV 14 cX (fV 21 cX (fV 22 cX fN))))
def JN:iS:=vF FA lN oA
def JO:iS:=vF FC lN oA
def JP:iS:=vF FD lN oA
def JQ:iS:=vF FE lN oA
def im (a0:fC) (a1:oB) (a2:eG) (a3:nZ) (a4:cI) (Q:Qx):List St:=[⟨(pS mA (fV 0 iG (fV 1 JM vJ)) fN),Ac a0 a1 a2 a3 a4 (ymr Q) (JK Q)⟩,⟨(pS mA (fV 0 iG (fV 1 JN vJ)) fN),Ad a0 a1 a2 a3 a4 (JK Q) (yms Q)⟩,⟨(pS mA (fV 0 iG (fV 1 JO vJ)) fN),Ae a0 a1 a2 a3 a4 (JK Q) (ymt Q)⟩,⟨(pS mA (fV 0 iG (fV 1 JP vJ)) fN),Af a0 a1 a2 a3 a4 (JK Q) (ymu Q)⟩,⟨(pS mA (fV 0 iG (fV 1 JQ vJ)) fN),Ag a0 a1 a2 a3 a4 (JK Q) (ymv Q)⟩]
def io (a0:fC) (a1:oB) (a2:eG) (a3:nZ) (a4:cI) (Q:Qx):List St:=[⟨(pS mA (fV 0 iG (fV 1 JM rT)) fN),Ah a0 a1 a2 a3 a4 (ymw Q) (JL Q)⟩,⟨(pS mA (fV 0 iG (fV 1 JN rT)) fN),Ai a0 a1 a2 a3 a4 (JL Q) (ymx Q)⟩,⟨(pS mA (fV 0 iG (fV 1 JO rT)) fN),Aj a0 a1 a2 a3 a4 (JL Q) (ymy Q)⟩,⟨(pS mA (fV 0 iG (fV 1 JP rT)) fN),Ak a0 a1 a2 a3 a4 (JL Q) (ymz Q)⟩,⟨(pS mA (fV 0 iG (fV 1 JQ rT)) fN),Al a0 a1 a2 a3 a4 (JL Q) (ymA Q)⟩]
def NQ (a0:fC) (a1:oB) (a2:eG) (a3:nZ) (a4:cI):LP:=fO [(97930200,im a0 a1 a2 a3 a4),(97930201,io a0 a1 a2 a3 a4)]
def VX (a0:fC) (a1:oB) (a2:eG) (a3:nZ) (a4:cI):SE:=⟨(E cC),ye7 [(IK,mW.pw a0),(Fz,NO.pw a1),(xF,zU.pw a2),(IM,NB.pw a3),(xH,nH.pw a4)],yeh [(Fx,SV),(FA,Td),(FC,Te),(FD,Tf),(FE,Tg)],NQ a0 a1 a2 a3 a4,fun _=>none⟩
def ip (a0:fC) (a1:oB) (a2:eG) (a3:nZ) (a4:cI):SE:=⟨(E cC),ye7 [(IK,mW.pw a0),(Fz,NO.pw a1),(xF,zU.pw a2),(IM,NB.pw a3),(xH,nH.pw a4)],yeh [(N5,Nn),(Fx,SV),(FA,Td),(FC,Te),(FD,Tf),(FE,Tg)],NQ a0 a1 a2 a3 a4,fun _=>none⟩
theorem iq:SEOk (aZ (E cC)) (VX dP yae cE dM cQ):=bF (aM.uni _) ⟨(VN cC cG),VV,(BD cC cG),(Ui cC cG),(Dt cC cG),trivial⟩ ⟨⟨by kernel_rfl,by kernel_rfl,rfl,fun az=>dC (by kernel_rfl) az,cG.num _ (by kernel_rfl),by kernel_rfl,(aR (by kernel_rfl))⟩,⟨by kernel_rfl,by kernel_rfl,rfl,fun az=>dC (by kernel_rfl) az,cG.num _ (by kernel_rfl),by kernel_rfl,(aR (by kernel_rfl))⟩,⟨by kernel_rfl,by kernel_rfl,rfl,fun az=>dC (by kernel_rfl) az,cG.num _ (by kernel_rfl),by kernel_rfl,(aR (by kernel_rfl))⟩,⟨by kernel_rfl,by kernel_rfl,rfl,fun az=>dC (by kernel_rfl) az,cG.num _ (by kernel_rfl),by kernel_rfl,(aR (by kernel_rfl))⟩,⟨by kernel_rfl,by kernel_rfl,rfl,fun az=>dC (by kernel_rfl) az,cG.num _ (by kernel_rfl),by kernel_rfl,(aR (by kernel_rfl))⟩,trivial⟩ cG.ok
theorem yk9 (a0 a1 a2 a3 a4):dT (VX a0 a1 a2 a3 a4) 10 a No false (im a0 a1 a2 a3 a4):=fun _=>⟨fun _=>by kernel_rfl,fun _ _=>by kernel_rfl,fun _=>by kernel_rfl,fun _ _=>by kernel_rfl,fun _=>by kernel_rfl,fun _ _=>by kernel_rfl,fun _=>by kernel_rfl,fun _ _=>by kernel_rfl,fun _=>by kernel_rfl,fun _ _=>by kernel_rfl,trivial⟩
theorem ir:dU (aZ (E cC)) (NQ dP yae cE dM cQ) [] 97930200 (.loop 97930200 No):=fun _ _ _=>bV.st (aM.uni _) (cY (iq) 10) (cS.no _ _) (aR (by kernel_rfl)) (yk9 _ _ _ _ _ _)
theorem yla (a0 a1 a2 a3 a4):dT (VX a0 a1 a2 a3 a4) 10 a SW false (io a0 a1 a2 a3 a4):=fun _=>⟨fun _=>by kernel_rfl,fun _ _=>by kernel_rfl,fun _=>by kernel_rfl,fun _ _=>by kernel_rfl,fun _=>by kernel_rfl,fun _ _=>by kernel_rfl,fun _=>by kernel_rfl,fun _ _=>by kernel_rfl,fun _=>by kernel_rfl,fun _ _=>by kernel_rfl,trivial⟩
theorem ylb:dU (aZ (E cC)) (NQ dP yae cE dM cQ) [] 97930201 (.loop 97930201 SW):=fun _ _ _=>bV.st (aM.uni _) (cY (iq) 10) (cS.no _ _) (dI (l:=[(97930200,.loop 97930200 No)]) ⟨ir,trivial⟩ (by kernel_rfl)) (yla _ _ _ _ _ _)
theorem yon:SEOk (aZ (E cC)) (ip dP yae cE dM cQ):=bF (aM.uni _) ⟨(VN cC cG),VV,(BD cC cG),(Ui cC cG),(Dt cC cG),trivial⟩ ⟨⟨by kernel_rfl,by kernel_rfl,rfl,fun az=>dC (by kernel_rfl) az,cG.num _ (by kernel_rfl),by kernel_rfl,(dI (l:=[(97930200,.loop 97930200 No),(97930201,.loop 97930201 SW)]) ⟨ir,ylb,trivial⟩ (by kernel_rfl))⟩,⟨by kernel_rfl,by kernel_rfl,rfl,fun az=>dC (by kernel_rfl) az,cG.num _ (by kernel_rfl),by kernel_rfl,(aR (by kernel_rfl))⟩,⟨by kernel_rfl,by kernel_rfl,rfl,fun az=>dC (by kernel_rfl) az,cG.num _ (by kernel_rfl),by kernel_rfl,(aR (by kernel_rfl))⟩,⟨by kernel_rfl,by kernel_rfl,rfl,fun az=>dC (by kernel_rfl) az,cG.num _ (by kernel_rfl),by kernel_rfl,(aR (by kernel_rfl))⟩,⟨by kernel_rfl,by kernel_rfl,rfl,fun az=>dC (by kernel_rfl) az,cG.num _ (by kernel_rfl),by kernel_rfl,(aR (by kernel_rfl))⟩,⟨by kernel_rfl,by kernel_rfl,rfl,fun az=>dC (by kernel_rfl) az,cG.num _ (by kernel_rfl),by kernel_rfl,(aR (by kernel_rfl))⟩,trivial⟩ cG.ok
theorem yps (a0 a1 a2 a3 a4):bU (ip a0 a1 a2 a3 a4) 11 Y6 GA (VW a0 a1 a2 a3 a4):=fun _ _=>by kernel_rfl
theorem JR:bC (E cC) (GA.pw yat) Bs:=bW cG (yps _ _ _ _ _) (yon) bE.flat (aR (by kernel_rfl))
abbrev GB:Type:=Ls→Ls→(Int→Ls→Int→Prop)→Prop
def GC (a0:jJ) (a1:eG) (a2:bN) (a3:cT) (a4:lE) (x0:Ls→Ls→Ls→Ls→Int→Int→Bool→Prop) (x1:Ls→Ls→Ls→Ls→Int→Prop):Nat→Ls→Ls→Ls→Ls→Int→Int→Prop
 | 0,_,_,_,_,_,_=>False
 | n+1,b,c,d,e,f,g=>
 (aB (decide (g<f)) (asr (decide (0≤g)) (asr (decide (g<(((length c):Nat):Int))) (lt (getD c (g.toNat) .nils) (fun h=>(asr (aG zK h) (a1 (aK (aP h 0)) (bQ (aP h 1)) (bQ (aP h 2)) (fun i _=>(asr (decide (0≤g)) (asr (decide (g<(((length e):Nat):Int))) (lt (getD e (g.toNat) .nils) (fun k=>(asr (aG zD k) (asr (decide (0≤g)) (asr (decide (g<(((length (bQ k)):Nat):Int))) (lt (getD (bQ k) (g.toNat) .nils) (fun l=>(asr (aG z2 l) (a2 i (fun m o=>(a3 (aK (aP l 0)) (aK (aP l 1)) m o (fun p q r=>(aB (r !=0) (x1 b c d e r) (asr (decide ((length b)=(length b))) (asr (decide ((0+(length b))≤(length b))) (asr (!(decide (((0+(length b))+1)≤(length b)))) (asr (decide ((length b)=(length b))) (asr (decide ((((length b)+1)+64)*(16+1)≤room)) (lt (i64.wrap (g+1)) (fun s=>(asr (decide ((length (b++([(.agg [(ic p),(ic q)])]:Ls)))=length (b++([(.agg [(ic p),(ic q)])]:Ls)))&&decide ((length (b++([(.agg [(ic p),(ic q)])]:Ls)))=length (b++([(.agg [(ic p),(ic q)])]:Ls)))) (GC a0 a1 a2 a3 a4 x0 x1 n (b++([(.agg [(ic p),(ic q)])]:Ls)) c d e f s))))))))))))))))))))))))))))))) (x0 b c d e f g false))
def NR (a0:jJ) (a1:eG) (a2:bN) (a3:cT) (a4:lE) (x0:Ls→Ls→Ls→Int→Int→Bool→Prop) (x1:Ls→Ls→Ls→Int→Prop) (x2:Ls→Ls→Ls→Ls→Int→Int→Bool→Prop) (x3:Ls→Ls→Ls→Ls→Int→Prop):Nat→Ls→Ls→Ls→Int→Int→Prop
 | 0,_,_,_,_,_=>False
 | n+1,b,c,d,e,f=>
 (aB (decide (f<e)) (asr (decide (0≤f)) (asr (decide (f<(((length b):Nat):Int))) (lt (getD b (f.toNat) .nils) (fun g=>(asr (aG zK g) (a1 (aK (aP g 0)) (bQ (aP g 1)) (bQ (aP g 2)) (fun h _=>(asr (decide (0≤f)) (asr (decide (f<(((length d):Nat):Int))) (lt (getD d (f.toNat) .nils) (fun j=>(asr (aG zD j) (asr (decide (0≤f)) (asr (decide (f<(((length (bQ j)):Nat):Int))) (lt (getD (bQ j) (f.toNat) .nils) (fun k=>(asr (aG z2 k) (a2 h (fun l m=>(a3 (aK (aP k 0)) (aK (aP k 1)) l m (fun o p q=>(aB (q !=0) (x1 b c d q) (lt (i64.wrap (f+1)) (fun r=>(asr (decide (1=length ([(.agg [(ic o),(ic p)])]:Ls))&&decide (1=length ([(.agg [(ic o),(ic p)])]:Ls))) (GC a0 a1 a2 a3 a4 x2 x3 n ([(.agg [(ic o),(ic p)])]:Ls) b c d e r)))))))))))))))))))))))))) (x0 b c d e f false))
def VY (a0:jJ) (a1:eG) (a2:bN) (a3:cT) (a4:lE) (x0:Ls→Ls→Ls→Int→Int→Ls→Int→Bool→Prop):Nat→Ls→Ls→Ls→Int→Int→Ls→Int→Prop
 | 0,_,_,_,_,_,_,_=>False
 | n+1,b,c,d,e,f,g,h=>
 (aB (decide (h<5)) (jn (fun (a:Int→Prop)=>(asr (!(decide (h<0))) (lt (u8.wrap (1*2 ^ (min h.toNat u8.bits))) (fun i=>(a4 b c d ([]:Ls) i (fun _ _ l=>(aB (!l) (asr (!(decide (h<0))) (lt (u8.wrap (1*2 ^ (min h.toNat u8.bits))) (fun m=>(lt (u8.wrap (BitVec.ofInt u8.bits f|||BitVec.ofInt u8.bits m).toNat) a)))) (a f)))))))) (fun i=>(lt (i64.wrap (h+1)) (VY a0 a1 a2 a3 a4 x0 n b c d e i g)))) (x0 b c d e f g h false))
def Dy (a0:jJ) (a1:eG) (a2:bN) (a3:cT) (a4:lE) (x0:Ls→Ls→Ls→Ls→Int→Int→Ls→Int→Bool→Prop):Nat→Ls→Ls→Ls→Ls→Int→Int→Ls→Int→Prop
 | 0,_,_,_,_,_,_,_,_=>False
 | n+1,b,c,d,e,f,g,h,i=>
 (aB (decide (i<5)) (jn (fun (a:Int→Prop)=>(asr (!(decide (i<0))) (lt (u8.wrap (1*2 ^ (min i.toNat u8.bits))) (fun j=>(asr (decide ((length b)=(length b))) (asr (decide ((0+(length b))≤(length b))) (a4 c d e (take (length b) b) j (fun _ _ m=>(aB (!m) (asr (!(decide (i<0))) (lt (u8.wrap (1*2 ^ (min i.toNat u8.bits))) (fun o=>(lt (u8.wrap (BitVec.ofInt u8.bits g|||BitVec.ofInt u8.bits o).toNat) a)))) (a g)))))))))) (fun j=>(lt (i64.wrap (i+1)) (fun k=>(asr (decide ((length b)=length b)&&decide ((length b)=length b)) (Dy a0 a1 a2 a3 a4 x0 n b c d e f j h k)))))) (x0 b c d e f g h i false))
def VZ (a0:jJ) (a1:eG) (a2:bN) (a3:cT) (a4:lE) (b c:Ls) (K:Int→Ls→Int→Prop):Prop:=
 (a0 b c (fun d e=>(aB (e !=0) (aB (e==0) False (aB (e !=0) (K 0 ([]:Ls) e) False)) (jn (fun (a:Ls→Ls→Ls→Int→Prop)=>(jn (fun (n:Ls→Ls→Ls→Ls→Int→Prop)=>(∃ m0:Nat,NR a0 a1 a2 a3 a4 (fun f g h _ _ _=>(a f g h 0)) a (fun f g h i _ _ _=>(n f g h i 0)) n m0 b c d (((length b):Nat):Int) 0)) (fun f g h i j=>(aB (j !=0) (K 0 ([]:Ls) j) (asr (decide ((length f)=length f)&&decide ((length f)=length f)) (∃ m0:Nat,Dy a0 a1 a2 a3 a4 (fun _ _ _ _ _ q r _ _=>(K q r 0)) m0 f g h i 0 0 i 0)))))) (fun f g h i=>(aB (i !=0) (K 0 ([]:Ls) i) (∃ m0:Nat,VY a0 a1 a2 a3 a4 (fun _ _ _ _ o p _ _=>(K o p 0)) m0 f g h 0 0 h 0)))))))
def ydM:GB:=VZ yaP cE gX iF yat
def Wa:Sg:=⟨Du,Int→Ls→Int→Prop,fun K=>(fun r0 r1 r2=>K (.tup [(.agg [(.int .u8 r0),(.data r1)]),(ic r2)]))⟩
def yxO (Q:Qx):Ls→Ls→Ls→Int→Int→Bool→Prop:=(fun b c d e f g=>Q (.exit 0) [(0,.v (.ptr 0 1 0 0)),(12,.v (ic e)),(13,.v (ic f)),(14,.v (.bool g))] [⟨false,false,4,([(.agg [(.data b),(.data c),(.data d),.nils])]:Ls)⟩])
def yxP (Q:Qx):Ls→Ls→Ls→Int→Prop:=(fun b c d e=>Q .ret [(2,.v (ic e))] [⟨false,false,4,([(.agg [(.data b),(.data c),(.data d),.nils])]:Ls)⟩])
def it (Q:Qx):Ls→Ls→Ls→Ls→Int→Int→Bool→Prop:=(fun b c d e f g h=>Q (.exit 0) [(0,.v (.ptr 0 1 0 0)),(12,.v (ic f)),(13,.v (ic g)),(14,.v (.bool h))] [⟨false,false,4,([(.agg [(.data c),(.data d),(.data e),(.own 1 0 (length b) (length b) none)])]:Ls)⟩,⟨false,true,2,b⟩])
def iu (Q:Qx):Ls→Ls→Ls→Ls→Int→Prop:=(fun b c d e f=>Q .ret [(2,.v (ic f))] [⟨false,false,4,([(.agg [(.data c),(.data d),(.data e),(.own 1 0 (length b) (length b) none)])]:Ls)⟩,⟨false,true,2,b⟩])
def yxQ (Q:Qx):Ls→Ls→Ls→Int→Int→Ls→Int→Bool→Prop:=(fun b c d e f g h i=>Q (.exit 0) [(4,.box (.agg [(.int .u8 e),.nils])),(6,.v (.ptr 0 1 0 0)),(8,.box (.agg [(.int .u8 f),(.data g)])),(32,.v (ic h)),(33,.v (.bool i))] [⟨false,false,4,([(.agg [(.data b),(.data c),(.data d),.nils])]:Ls)⟩])
def yxR (Q:Qx):Ls→Ls→Ls→Ls→Int→Int→Ls→Int→Bool→Prop:=(fun b c d e f g h i j=>Q (.exit 0) [(4,.box (.agg [(.int .u8 f),.nils])),(6,.v (.ptr 0 1 0 0)),(8,.box (.agg [(.int .u8 g),(.data h)])),(32,.v (ic i)),(33,.v (.bool j))] [⟨false,false,4,([(.agg [(.data c),(.data d),(.data e),(.own 1 0 (length b) (length b) none)])]:Ls)⟩,⟨false,true,2,b⟩])
def vK:HPt:=hB false false 4 (rC (vA (lC vD (lC vD (lC vD (lC Fe lN))))) rN) hN
def Am:Pat aF:=fV 0 vH (fV 12 cX (fV 13 cX fN))
def Ao:HPt:=hB false false 4 (rC (vA (lC vD (lC vD (lC vD (lC (vW 1 (nK 0) (nT 1) (nT 1)) lN))))) rN) (hB false true 2 rA hN)
def iv (a0:jJ) (a1:eG) (a2:bN) (a3:cT) (a4:lE) (Q:Qx):List St:=[⟨(pS vK Am fN),NR a0 a1 a2 a3 a4 (yxO Q) (yxP Q) (it Q) (iu Q)⟩,⟨(pS Ao Am fN),fun n b c d e f g=>GC a0 a1 a2 a3 a4 (it Q) (iu Q) n e b c d f g⟩]
def Ap:iS:=vA (lC (vI u8) vC)
def JS:Pat aF:=fX 4 (vA (lC (vI u8) (lC Fe lN))) (fV 6 vH (fX 8 Ap (fV 32 cX fN)))
def iw (a0:jJ) (a1:eG) (a2:bN) (a3:cT) (a4:lE) (Q:Qx):List St:=[⟨(pS vK JS fN),VY a0 a1 a2 a3 a4 (yxQ Q)⟩,⟨(pS Ao JS fN),fun n b c d e f g h i=>Dy a0 a1 a2 a3 a4 (yxR Q) n e b c d f g h i⟩]
def NS (a0:jJ) (a1:eG) (a2:bN) (a3:cT) (a4:lE):LP:=fO [(20643600,iv a0 a1 a2 a3 a4),(65264200,iw a0 a1 a2 a3 a4)]
def Wb (a0:jJ) (a1:eG) (a2:bN) (a3:cT) (a4:lE):SE:=⟨(E cC),ye7 [(nU,JH.pw a0),(xF,zU.pw a1),(xG,iX.pw a2),(uW,gF.pw a3),(Bs,GA.pw a4)],yeh [(IH,Jn)],NS a0 a1 a2 a3 a4,fun _=>none⟩
def ix (a0:jJ) (a1:eG) (a2:bN) (a3:cT) (a4:lE):SE:=⟨(E cC),ye7 [(nU,JH.pw a0),(xF,zU.pw a1),(xG,iX.pw a2),(uW,gF.pw a3),(Bs,GA.pw a4)],yeh [(IH,Jn),(QK,Nl)],NS a0 a1 a2 a3 a4,fun _=>none⟩
theorem iy:SEOk (aZ (E cC)) (Wb yaP cE gX iF yat):=bF (aM.uni _) ⟨(JI cC cG),(BD cC cG),(Ds cC cG),(zP cC cG),JR,trivial⟩ ⟨⟨by kernel_rfl,by kernel_rfl,rfl,fun az=>dC (by kernel_rfl) az,cG.num _ (by kernel_rfl),by kernel_rfl,(aR (by kernel_rfl))⟩,trivial⟩ cG.ok
theorem yv1 (a0 a1 a2 a3 a4):dT (Wb a0 a1 a2 a3 a4) 10 a FR false (iv a0 a1 a2 a3 a4):=fun _=>⟨fun _=>by kernel_rfl,fun _ _=>by kernel_rfl,fun _=>by kernel_rfl,fun _ _=>by kernel_rfl,trivial⟩
theorem yv2:dU (aZ (E cC)) (NS yaP cE gX iF yat) [] 20643600 (.loop 20643600 FR):=fun _ _ _=>bV.st (aM.uni _) (cY (iy) 10) (cS.no _ _) (aR (by kernel_rfl)) (yv1 _ _ _ _ _ _)
theorem yv3 (a0 a1 a2 a3 a4):dT (Wb a0 a1 a2 a3 a4) 10 a Ti false (iw a0 a1 a2 a3 a4):=fun _=>⟨fun _=>by kernel_rfl,fun _ _=>by kernel_rfl,fun _=>by kernel_rfl,fun _ _=>by kernel_rfl,trivial⟩
theorem yv4:dU (aZ (E cC)) (NS yaP cE gX iF yat) [] 65264200 (.loop 65264200 Ti):=fun _ _ _=>bV.st (aM.uni _) (cY (iy) 10) (cS.no _ _) (aR (by kernel_rfl)) (yv3 _ _ _ _ _ _)
theorem yBD:SEOk (aZ (E cC)) (ix yaP cE gX iF yat):=bF (aM.uni _) ⟨(JI cC cG),(BD cC cG),(Ds cC cG),(zP cC cG),JR,trivial⟩ ⟨⟨by kernel_rfl,by kernel_rfl,rfl,fun az=>dC (by kernel_rfl) az,cG.num _ (by kernel_rfl),by kernel_rfl,(aR (by kernel_rfl))⟩,⟨by kernel_rfl,by kernel_rfl,rfl,fun az=>dC (by kernel_rfl) az,cG.num _ (by kernel_rfl),by kernel_rfl,(dI (l:=[(20643600,.loop 20643600 FR)]) ⟨yv2,trivial⟩ (by kernel_rfl))⟩,trivial⟩ cG.ok
theorem yDd (a0 a1 a2 a3 a4):bU (ix a0 a1 a2 a3 a4) 11 Th Wa (VZ a0 a1 a2 a3 a4):=fun _ _=>by kernel_rfl
theorem iz:bC (E cC) (Wa.pw ydM) MN:=bW cG (yDd _ _ _ _ _) (yBD) bE.flat (dI (l:=[(65264200,.loop 65264200 Ti)]) ⟨yv4,trivial⟩ (by kernel_rfl))
abbrev GD:Type:=Ls→Ls→Int→Ls→(Bool→Int→Prop)→Prop
def GE (a0:jJ) (a1:fC) (a2:eG) (a3:bN) (a4:cT) (a5:lE) (x0:Ls→Ls→Ls→Ls→Ls→Int→Int→Bool→Prop) (x1:Ls→Ls→Ls→Bool→Prop):Nat→Ls→Ls→Ls→Ls→Ls→Int→Int→Prop
 | 0,_,_,_,_,_,_,_=>False
 | n+1,b,c,d,e,f,g,h=>
 (aB (decide (h<g)) (asr (decide (0≤h)) (asr (decide (h<(((length f):Nat):Int))) (lt (getD f (h.toNat) .nils) (fun i=>(asr (aG zD i) (asr (decide (0≤h)) (asr (decide (h<(((length e):Nat):Int))) (lt (getD e (h.toNat) .nils) (fun j=>(asr (aG zD j) (a1 (bQ i) (bQ j) (fun k=>(aB (!k) (x1 b c d false) (lt (i64.wrap (h+1)) (GE a0 a1 a2 a3 a4 a5 x0 x1 n b c d e f g))))))))))))))) (x0 b c d e f g h false))
def GF (a0:jJ) (a1:fC) (a2:eG) (a3:bN) (a4:cT) (a5:lE) (x0:Ls→Ls→Ls→Ls→Int→Int→Bool→Prop) (x1:Ls→Ls→Ls→Ls→Int→Prop):Nat→Ls→Ls→Ls→Ls→Int→Int→Prop
 | 0,_,_,_,_,_,_=>False
 | n+1,b,c,d,e,f,g=>
 (aB (decide (g<f)) (asr (decide (0≤g)) (asr (decide (g<(((length c):Nat):Int))) (lt (getD c (g.toNat) .nils) (fun h=>(asr (aG zK h) (a2 (aK (aP h 0)) (bQ (aP h 1)) (bQ (aP h 2)) (fun i _=>(asr (decide (0≤g)) (asr (decide (g<(((length e):Nat):Int))) (lt (getD e (g.toNat) .nils) (fun k=>(asr (aG zD k) (asr (decide (0≤g)) (asr (decide (g<(((length (bQ k)):Nat):Int))) (lt (getD (bQ k) (g.toNat) .nils) (fun l=>(asr (aG z2 l) (a3 i (fun m o=>(a4 (aK (aP l 0)) (aK (aP l 1)) m o (fun p q r=>(aB (r !=0) (x1 b c d e r) (asr (decide ((length b)=(length b))) (asr (decide ((0+(length b))≤(length b))) (asr (!(decide (((0+(length b))+1)≤(length b)))) (asr (decide ((length b)=(length b))) (asr (decide ((((length b)+1)+64)*(16+1)≤room)) (lt (i64.wrap (g+1)) (fun s=>(asr (decide ((length (b++([(.agg [(ic p),(ic q)])]:Ls)))=length (b++([(.agg [(ic p),(ic q)])]:Ls)))&&decide ((length (b++([(.agg [(ic p),(ic q)])]:Ls)))=length (b++([(.agg [(ic p),(ic q)])]:Ls)))) (GF a0 a1 a2 a3 a4 a5 x0 x1 n (b++([(.agg [(ic p),(ic q)])]:Ls)) c d e f s))))))))))))))))))))))))))))))) (x0 b c d e f g false))
def NT (a0:jJ) (a1:fC) (a2:eG) (a3:bN) (a4:cT) (a5:lE) (x0:Ls→Ls→Ls→Int→Int→Bool→Prop) (x1:Ls→Ls→Ls→Int→Prop) (x2:Ls→Ls→Ls→Ls→Int→Int→Bool→Prop) (x3:Ls→Ls→Ls→Ls→Int→Prop):Nat→Ls→Ls→Ls→Int→Int→Prop
 | 0,_,_,_,_,_=>False
 | n+1,b,c,d,e,f=>
 (aB (decide (f<e)) (asr (decide (0≤f)) (asr (decide (f<(((length b):Nat):Int))) (lt (getD b (f.toNat) .nils) (fun g=>(asr (aG zK g) (a2 (aK (aP g 0)) (bQ (aP g 1)) (bQ (aP g 2)) (fun h _=>(asr (decide (0≤f)) (asr (decide (f<(((length d):Nat):Int))) (lt (getD d (f.toNat) .nils) (fun j=>(asr (aG zD j) (asr (decide (0≤f)) (asr (decide (f<(((length (bQ j)):Nat):Int))) (lt (getD (bQ j) (f.toNat) .nils) (fun k=>(asr (aG z2 k) (a3 h (fun l m=>(a4 (aK (aP k 0)) (aK (aP k 1)) l m (fun o p q=>(aB (q !=0) (x1 b c d q) (lt (i64.wrap (f+1)) (fun r=>(asr (decide (1=length ([(.agg [(ic o),(ic p)])]:Ls))&&decide (1=length ([(.agg [(ic o),(ic p)])]:Ls))) (GF a0 a1 a2 a3 a4 a5 x2 x3 n ([(.agg [(ic o),(ic p)])]:Ls) b c d e r)))))))))))))))))))))))))) (x0 b c d e f false))
def GG (a0:jJ) (a1:fC) (a2:eG) (a3:bN) (a4:cT) (a5:lE) (x0:Ls→Ls→Ls→Int→Ls→Int→Bool→Prop) (x1:Ls→Ls→Ls→Bool→Int→Prop):Nat→Ls→Ls→Ls→Int→Ls→Int→Prop
 | 0,_,_,_,_,_,_=>False
 | n+1,b,c,d,e,f,g=>
 (aB (decide (g<5)) (jn (fun h=>(asr (!(decide (g<0))) (lt (Int.fdiv e (2 ^ (min g.toNat u8.bits))) (fun i=>(lt (u8.wrap (BitVec.ofInt u8.bits i&&&BitVec.ofInt u8.bits 1).toNat) (fun j=>(aB (j==0) h (asr (!(decide (g<0))) (lt (u8.wrap (1*2 ^ (min g.toNat u8.bits))) (fun k=>(a5 b c d ([]:Ls) k (fun _ _ o=>(aB o (x1 b c d false 0) h))))))))))))) (lt (i64.wrap (g+1)) (GG a0 a1 a2 a3 a4 a5 x0 x1 n b c d e f))) (x0 b c d e f g false))
def GH (a0:jJ) (a1:fC) (a2:eG) (a3:bN) (a4:cT) (a5:lE) (x0:Ls→Ls→Ls→Ls→Int→Ls→Int→Bool→Prop) (x1:Ls→Ls→Ls→Ls→Bool→Int→Prop):Nat→Ls→Ls→Ls→Ls→Int→Ls→Int→Prop
 | 0,_,_,_,_,_,_,_=>False
 | n+1,b,c,d,e,f,g,h=>
 (aB (decide (h<5)) (jn (fun i=>(asr (!(decide (h<0))) (lt (Int.fdiv f (2 ^ (min h.toNat u8.bits))) (fun j=>(lt (u8.wrap (BitVec.ofInt u8.bits j&&&BitVec.ofInt u8.bits 1).toNat) (fun k=>(aB (k==0) i (asr (!(decide (h<0))) (lt (u8.wrap (1*2 ^ (min h.toNat u8.bits))) (fun l=>(asr (decide ((length b)=(length b))) (asr (decide ((0+(length b))≤(length b))) (a5 c d e (take (length b) b) l (fun _ _ p=>(aB p (x1 b c d e false 0) i))))))))))))))) (lt (i64.wrap (h+1)) (fun i=>(asr (decide ((length b)=length b)&&decide ((length b)=length b)) (GH a0 a1 a2 a3 a4 a5 x0 x1 n b c d e f g i))))) (x0 b c d e f g h false))
def Wc (a0:jJ) (a1:fC) (a2:eG) (a3:bN) (a4:cT) (a5:lE) (b c:Ls) (d:Int) (e:Ls) (K:Bool→Int→Prop):Prop:=
 (a0 b c (fun f g=>(aB (g !=0) (aB (g !=0) (K false g) (aB (decide (d≥32)) (K false 0) False)) (jn (fun (n:Ls→Ls→Ls→Bool→Prop)=>(aB (decide (d≥32)) (n b c f true) (jn (fun (a:Ls→Ls→Ls→Bool→Prop)=>(aB ((((length f):Nat):Int) !=(((length e):Nat):Int)) (a b c f false) (∃ m0:Nat,GE a0 a1 a2 a3 a4 a5 (fun h i j _ _ _ _ _=>(a h i j true)) a m0 b c f e f (((length f):Nat):Int) 0))) (fun h i j k=>(n h i j (!k)))))) (fun h i j k=>(aB k (K false 0) (jn (fun (x:Ls→Ls→Ls→Prop)=>(lt (u8.wrap (BitVec.ofInt u8.bits d&&&BitVec.ofInt u8.bits 8).toNat) (fun l=>(aB (l !=0) (jn (fun (y:Ls→Ls→Ls→Int→Prop)=>(jn (fun (C:Ls→Ls→Ls→Ls→Int→Prop)=>(∃ m0:Nat,NT a0 a1 a2 a3 a4 a5 (fun m o p _ _ _=>(y m o p 0)) y (fun m o p q _ _ _=>(C m o p q 0)) C m0 h i j (((length h):Nat):Int) 0)) (fun m o p q r=>(aB (r !=0) (K false r) (asr (decide ((length m)=length m)&&decide ((length m)=length m)) (∃ m0:Nat,GH a0 a1 a2 a3 a4 a5 (fun _ _ _ _ _ _ _ _=>(K true 0)) (fun _ _ _ _ w z=>(K w z)) m0 m o p q d e 0)))))) (fun m o p q=>(aB (q !=0) (K false q) (x m o p)))) (x h i j))))) (fun l m o=>(∃ m0:Nat,GG a0 a1 a2 a3 a4 a5 (fun _ _ _ _ _ _ _=>(K true 0)) (fun _ _ _ s t=>(K s t)) m0 l m o d e 0)))))))))
def Aq:GD:=Wc yaP qQ cE gX iF yat
def Wd:Sg:=⟨(lC vD (lC (vA vC) (lC Ap lN))),Bool→Int→Prop,fun K=>(fun r0 r1=>K (.tup [(.bool r0),(ic r1)]))⟩
def yuj (Q:Qx):Ls→Ls→Ls→Ls→Ls→Int→Int→Bool→Prop:=(fun b c d e f g h i=>Q (.exit 0) [(1,.v (.data e)),(2,.v (.fn (.func CW) [] [])),(15,.v (.data f)),(16,.v (ic g)),(17,.v (ic h)),(18,.v (.bool i))] [⟨false,false,4,([(.agg [(.data b),(.data c),(.data d),.nils])]:Ls)⟩])
def yuk (Q:Qx):Ls→Ls→Ls→Bool→Prop:=(fun b c d e=>Q .ret [(6,.v (.bool e))] [⟨false,false,4,([(.agg [(.data b),(.data c),(.data d),.nils])]:Ls)⟩])
def yul (Q:Qx):Ls→Ls→Ls→Int→Int→Bool→Prop:=(fun b c d e f g=>Q (.exit 0) [(0,.v (.ptr 0 1 0 0)),(12,.v (ic e)),(13,.v (ic f)),(14,.v (.bool g))] [⟨false,false,4,([(.agg [(.data b),(.data c),(.data d),.nils])]:Ls)⟩])
def yum (Q:Qx):Ls→Ls→Ls→Int→Prop:=(fun b c d e=>Q .ret [(2,.v (ic e))] [⟨false,false,4,([(.agg [(.data b),(.data c),(.data d),.nils])]:Ls)⟩])
def jc (Q:Qx):Ls→Ls→Ls→Ls→Int→Int→Bool→Prop:=(fun b c d e f g h=>Q (.exit 0) [(0,.v (.ptr 0 1 0 0)),(12,.v (ic f)),(13,.v (ic g)),(14,.v (.bool h))] [⟨false,false,4,([(.agg [(.data c),(.data d),(.data e),(.own 1 0 (length b) (length b) none)])]:Ls)⟩,⟨false,true,2,b⟩])
def jd (Q:Qx):Ls→Ls→Ls→Ls→Int→Prop:=(fun b c d e f=>Q .ret [(2,.v (ic f))] [⟨false,false,4,([(.agg [(.data c),(.data d),(.data e),(.own 1 0 (length b) (length b) none)])]:Ls)⟩,⟨false,true,2,b⟩])
def yun (Q:Qx):Ls→Ls→Ls→Int→Ls→Int→Bool→Prop:=(fun b c d e f g h=>Q (.exit 0) [(5,.box (.agg [(.int .u8 e),(.data f)])),(8,.v (.ptr 0 1 0 0)),(46,.v (ic g)),(47,.v (.bool h))] [⟨false,false,4,([(.agg [(.data b),(.data c),(.data d),.nils])]:Ls)⟩])
def yuo (Q:Qx):Ls→Ls→Ls→Bool→Int→Prop:=(fun b c d e f=>Q .ret [(6,.v (.bool e)),(7,.v (ic f))] [⟨false,false,4,([(.agg [(.data b),(.data c),(.data d),.nils])]:Ls)⟩])
def yup (Q:Qx):Ls→Ls→Ls→Ls→Int→Ls→Int→Bool→Prop:=(fun b c d e f g h i=>Q (.exit 0) [(5,.box (.agg [(.int .u8 f),(.data g)])),(8,.v (.ptr 0 1 0 0)),(46,.v (ic h)),(47,.v (.bool i))] [⟨false,false,4,([(.agg [(.data c),(.data d),(.data e),(.own 1 0 (length b) (length b) none)])]:Ls)⟩,⟨false,true,2,b⟩])
def yuq (Q:Qx):Ls→Ls→Ls→Ls→Bool→Int→Prop:=(fun b c d e f g=>Q .ret [(6,.v (.bool f)),(7,.v (ic g))] [⟨false,false,4,([(.agg [(.data c),(.data d),(.data e),(.own 1 0 (length b) (length b) none)])]:Ls)⟩,⟨false,true,2,b⟩])
def je (a0:jJ) (a1:fC) (a2:eG) (a3:bN) (a4:cT) (a5:lE) (Q:Qx):List St:=[⟨(pS vK (fV 1 vD (fV 2 (vF CW lN lN) (fV 15 vD Dx))) fN),GE a0 a1 a2 a3 a4 a5 (yuj Q) (yuk Q)⟩]
def jf (a0:jJ) (a1:fC) (a2:eG) (a3:bN) (a4:cT) (a5:lE) (Q:Qx):List St:=[⟨(pS vK Am fN),NT a0 a1 a2 a3 a4 a5 (yul Q) (yum Q) (jc Q) (jd Q)⟩,⟨(pS Ao Am fN),fun n b c d e f g=>GF a0 a1 a2 a3 a4 a5 (jc Q) (jd Q) n e b c d f g⟩]
def JT:Pat aF:=fX 5 Ap (fV 8 vH (fV 46 cX fN))
def jg (a0:jJ) (a1:fC) (a2:eG) (a3:bN) (a4:cT) (a5:lE) (Q:Qx):List St:=[⟨(pS vK JT fN),GG a0 a1 a2 a3 a4 a5 (yun Q) (yuo Q)⟩,⟨(pS Ao JT fN),fun n b c d e f g h=>GH a0 a1 a2 a3 a4 a5 (yup Q) (yuq Q) n e b c d f g h⟩]
def JU (a0:jJ) (a1:fC) (a2:eG) (a3:bN) (a4:cT) (a5:lE):LP:=fO [(8009400,je a0 a1 a2 a3 a4 a5),(20643600,jf a0 a1 a2 a3 a4 a5),(47320500,jg a0 a1 a2 a3 a4 a5)]
def NU (a0:jJ) (a1:fC) (a2:eG) (a3:bN) (a4:cT) (a5:lE):SE:=⟨(E cC),ye7 [(nU,JH.pw a0),(CW,mW.pw a1),(xF,zU.pw a2),(xG,iX.pw a3),(uW,gF.pw a4),(Bs,GA.pw a5)],yeh [(IH,Jn)],JU a0 a1 a2 a3 a4 a5,fun _=>none⟩
def jh (a0:jJ) (a1:fC) (a2:eG) (a3:bN) (a4:cT) (a5:lE):SE:=⟨(E cC),ye7 [(nU,JH.pw a0),(CW,mW.pw a1),(xF,zU.pw a2),(xG,iX.pw a3),(uW,gF.pw a4),(Bs,GA.pw a5)],yeh [(IH,Jn),(N7,Tj),(QK,Nl)],JU a0 a1 a2 a3 a4 a5,fun _=>none⟩
theorem We:SEOk (aZ (E cC)) (NU yaP qQ cE gX iF yat):=bF (aM.uni _) ⟨(JI cC cG),(UK cC cG),(BD cC cG),(Ds cC cG),(zP cC cG),JR,trivial⟩ ⟨⟨by kernel_rfl,by kernel_rfl,rfl,fun az=>dC (by kernel_rfl) az,cG.num _ (by kernel_rfl),by kernel_rfl,(aR (by kernel_rfl))⟩,trivial⟩ cG.ok
theorem yrS (a0 a1 a2 a3 a4 a5):dT (NU a0 a1 a2 a3 a4 a5) 10 a Tk false (je a0 a1 a2 a3 a4 a5):=fun _=>⟨fun _=>by kernel_rfl,fun _ _=>by kernel_rfl,trivial⟩
theorem yrT:dU (aZ (E cC)) (JU yaP qQ cE gX iF yat) [] 8009400 (.loop 8009400 Tk):=fun _ _ _=>bV.st (aM.uni _) (cY (We) 10) (cS.no _ _) (aR (by kernel_rfl)) (yrS _ _ _ _ _ _ _)
theorem yrU (a0 a1 a2 a3 a4 a5):dT (NU a0 a1 a2 a3 a4 a5) 10 a FR false (jf a0 a1 a2 a3 a4 a5):=fun _=>⟨fun _=>by kernel_rfl,fun _ _=>by kernel_rfl,fun _=>by kernel_rfl,fun _ _=>by kernel_rfl,trivial⟩
theorem yrV:dU (aZ (E cC)) (JU yaP qQ cE gX iF yat) [] 20643600 (.loop 20643600 FR):=fun _ _ _=>bV.st (aM.uni _) (cY (We) 10) (cS.no _ _) (aR (by kernel_rfl)) (yrU _ _ _ _ _ _ _)
theorem yrW (a0 a1 a2 a3 a4 a5):dT (NU a0 a1 a2 a3 a4 a5) 10 a To false (jg a0 a1 a2 a3 a4 a5):=fun _=>⟨fun _=>by kernel_rfl,fun _ _=>by kernel_rfl,fun _=>by kernel_rfl,fun _ _=>by kernel_rfl,trivial⟩
theorem yrX:dU (aZ (E cC)) (JU yaP qQ cE gX iF yat) [] 47320500 (.loop 47320500 To):=fun _ _ _=>bV.st (aM.uni _) (cY (We) 10) (cS.no _ _) (aR (by kernel_rfl)) (yrW _ _ _ _ _ _ _)
theorem yxS:SEOk (aZ (E cC)) (jh yaP qQ cE gX iF yat):=bF (aM.uni _) ⟨(JI cC cG),(UK cC cG),(BD cC cG),(Ds cC cG),(zP cC cG),JR,trivial⟩ ⟨⟨by kernel_rfl,by kernel_rfl,rfl,fun az=>dC (by kernel_rfl) az,cG.num _ (by kernel_rfl),by kernel_rfl,(aR (by kernel_rfl))⟩,⟨by kernel_rfl,by kernel_rfl,rfl,fun az=>dC (by kernel_rfl) az,cG.num _ (by kernel_rfl),by kernel_rfl,(dI (l:=[(8009400,.loop 8009400 Tk)]) ⟨yrT,trivial⟩ (by kernel_rfl))⟩,⟨by kernel_rfl,by kernel_rfl,rfl,fun az=>dC (by kernel_rfl) az,cG.num _ (by kernel_rfl),by kernel_rfl,(dI (l:=[(20643600,.loop 20643600 FR)]) ⟨yrV,trivial⟩ (by kernel_rfl))⟩,trivial⟩ cG.ok
theorem yzx (a0 a1 a2 a3 a4 a5):bU (jh a0 a1 a2 a3 a4 a5) 11 Tn Wd (Wc a0 a1 a2 a3 a4 a5):=fun _ _=>by kernel_rfl
theorem ji:bC (E cC) (Wd.pw Aq) MO:=bW cG (yzx _ _ _ _ _ _) (yxS) bE.flat (dI (l:=[(47320500,.loop 47320500 To)]) ⟨yrX,trivial⟩ (by kernel_rfl))
set_option linter.unusedVariables false
theorem yzy (p0 p1:Ls) (r0:Int) (h:∀ K:Int→Prop,K r0→ydh p0 p1 K) (K:Int→Prop):ydh p0 p1 K=K r0:=
 Aab ⟨fun k=>cA (gr [] fI) (az:=[(.data p0),(.agg [(.data p1)])]) (x:=(ic r0)) (fun K' k'=>h (fun r0=>K' (ic r0)) k') (K:=fun x=>match x with | (ic r0)=>K r0 | _=>False) k,h K⟩
theorem yzz (p0 p1 r0:Ls) (r1:Int) (h:∀ K:Ls→Int→Prop,K r0 r1→yaP p0 p1 K) (K:Ls→Int→Prop):yaP p0 p1 K=K r0 r1:=
 Aab ⟨fun k=>cA (JI [] fI) (az:=[(.data p0),(.agg [(.data p1)])]) (x:=(.tup [(.data r0),(ic r1)])) (fun K' k'=>h (fun r0 r1=>K' (.tup [(.data r0),(ic r1)])) k') (K:=fun x=>match x with | (.tup [(.data r0),(ic r1)])=>K r0 r1 | _=>False) k,h K⟩
theorem yv5 (p0 p1 p2 p3:Int) (p4:Ls) (r0:Bool) (h:∀ K:Bool→Prop,K r0→xO p0 p1 p2 p3 p4 K) (K:Bool→Prop):xO p0 p1 p2 p3 p4 K=K r0:=
 Aab ⟨fun k=>cA (VK [] fI) (az:=[(.agg [(ic p0),(ic p1),(ic p2),(ic p3)]),(.eptr [(.data p4)] 0 0)]) (x:=(.bool r0)) (fun K' k'=>h (fun r0=>K' (.bool r0)) k') (K:=fun x=>match x with | (.bool r0)=>K r0 | _=>False) k,h K⟩
theorem yzA (p0 p1:Ls) (r0:Bool) (h:∀ K:Bool→Prop,K r0→dP p0 p1 K) (K:Bool→Prop):dP p0 p1 K=K r0:=
 Aab ⟨fun k=>cA (VN [] fI) (az:=[(.data p0),(.data p1)]) (x:=(.bool r0)) (fun K' k'=>h (fun r0=>K' (.bool r0)) k') (K:=fun x=>match x with | (.bool r0)=>K r0 | _=>False) k,h K⟩
theorem yrY (p0 p1 p2 p3:Ls) (r0:Bool) (h:∀ K:Bool→Prop,K r0→yae p0 p1 p2 p3 K) (K:Bool→Prop):yae p0 p1 p2 p3 K=K r0:=
 Aab ⟨fun k=>cA VV (az:=[(.eptr [(.agg [(.data p0),(.data p1),(.data p2),(.data p3)])] 0 0)]) (x:=(.bool r0)) (fun K' k'=>h (fun r0=>K' (.bool r0)) k') (K:=fun x=>match x with | (.bool r0)=>K r0 | _=>False) k,h K⟩
theorem yoo (p0 p1 p2 p3:Ls) (p4 r0 r1:Int) (r2:Bool) (h:∀ K:Int→Int→Bool→Prop,K r0 r1 r2→yat p0 p1 p2 p3 p4 K) (K:Int→Int→Bool→Prop):yat p0 p1 p2 p3 p4 K=K r0 r1 r2:=
 Aab ⟨fun k=>cA JR (az:=[(.eptr [(.agg [(.data p0),(.data p1),(.data p2),(.data p3)])] 0 0),(.int .u8 p4)]) (x:=(.tup [(ic r0),(ic r1),(.bool r2)])) (fun K' k'=>h (fun r0 r1 r2=>K' (.tup [(ic r0),(ic r1),(.bool r2)])) k') (K:=fun x=>match x with | (.tup [(ic r0),(ic r1),(.bool r2)])=>K r0 r1 r2 | _=>False) k,h K⟩
theorem yBE (p0 p1:Ls) (r0:Int) (r1:Ls) (r2:Int) (h:∀ K:Int→Ls→Int→Prop,K r0 r1 r2→ydM p0 p1 K) (K:Int→Ls→Int→Prop):ydM p0 p1 K=K r0 r1 r2:=
 Aab ⟨fun k=>cA iz (az:=[(.data p0),(.agg [(.data p1)])]) (x:=(.tup [(.agg [(.int .u8 r0),(.data r1)]),(ic r2)])) (fun K' k'=>h (fun r0 r1 r2=>K' (.tup [(.agg [(.int .u8 r0),(.data r1)]),(ic r2)])) k') (K:=fun x=>match x with | (.tup [(.agg [(.int .u8 r0),(.data r1)]),(ic r2)])=>K r0 r1 r2 | _=>False) k,h K⟩
theorem yxT (p0 p1:Ls) (p2:Int) (p3:Ls) (r0:Bool) (r1:Int) (h:∀ K:Bool→Int→Prop,K r0 r1→Aq p0 p1 p2 p3 K) (K:Bool→Int→Prop):Aq p0 p1 p2 p3 K=K r0 r1:=
 Aab ⟨fun k=>cA ji (az:=[(.data p0),(.agg [(.data p1)]),(.agg [(.int .u8 p2),(.data p3)])]) (x:=(.tup [(.bool r0),(ic r1)])) (fun K' k'=>h (fun r0 r1=>K' (.tup [(.bool r0),(ic r1)])) k') (K:=fun x=>match x with | (.tup [(.bool r0),(ic r1)])=>K r0 r1 | _=>False) k,h K⟩
def Wf (a0:Uu) (b:Int) (c d:Ls) (K:Bool→Prop):Prop:=
 (a0 d 0 K)
def xP:mX:=Wf Uw
def yxU (e:Es) (a0:Uu):SE:=sE (E e) [(IA,Ux.pw a0)] eC
theorem yxV (e:Es) (a0):bU (yxU e a0) 6 O3 xN (Wf a0):=fun _ _=>by kernel_rfl
theorem Wg (e:Es) (he:EG e):bC (E e) (xN.pw xP) CN:=bW he (yxV e _) (bF (aM.uni _) ⟨(ypj e he),trivial⟩ trivial he.ok) bE.flat (aR (by kernel_rfl))
def GI (a0:fY) (a1:mX) (x0:Ls→Int→Int→Bool→Prop) (x1:Int→Prop):Nat→Ls→Int→Int→Prop
 | 0,_,_,_=>False
 | n+1,b,c,d=>
 (aB (decide (d<c)) (asr (decide (0≤d)) (asr (decide (d<(((length b):Nat):Int))) (lt (getD b (d.toNat) .nils) (fun e=>(asr (aG zK e) (a1 (aK (aP e 0)) (bQ (aP e 1)) (bQ (aP e 2)) (fun f=>(aB f (x1 d) (lt (i64.wrap (d+1)) (GI a0 a1 x0 x1 n b c)))))))))) (x0 b c d false))
def Wh (a0:fY) (a1:mX) (b:Ls) (K:Int→Prop):Prop:=
 (a0 b ([]:Ls) (fun c=>(aB (c !=0) (K c) (aB (decide ((((length b):Nat):Int)>4)) (K 4) (jn (fun (a:Int→Prop)=>(∃ n:Nat,GI a0 a1 (fun d e f g=>(a (-1))) a n b (((length b):Nat):Int) 0)) (fun d=>(aB (decide (d≥0)) (K 2) (K 0))))))))
def qS:fK:=Wh qR xP
def yv6 (Q:Qx):Ls→Int→Int→Bool→Prop:=(fun b c d e=>Q (.exit 0) [(0,.v (.data b)),(1,.v (.fn (.func CN) [] [])),(7,.v (ic c)),(8,.v (ic d)),(9,.v (.bool e))] [])
def yv7 (Q:Qx):Int→Prop:=(fun b=>Q .ret [(4,.v (ic b))] [])
def jj (a0:fY) (a1:mX) (Q:Qx):List St:=[⟨(pS hN (fV 0 vD (fV 1 (vF CN lN lN) vE)) fN),GI a0 a1 (yv6 Q) (yv7 Q)⟩]
def Wj (a0:fY) (a1:mX):LP:=fO [(72162200,jj a0 a1)]
def jk (e:Es) (a0:fY) (a1:mX):SE:=⟨(E e),ye7 [(Fi,BE.pw a0),(CN,xN.pw a1)],yeh [(QE,Rp)],Wj a0 a1,fun _=>none⟩
def jl (e:Es) (a0:fY) (a1:mX):SE:=⟨(E e),ye7 [(Fi,BE.pw a0),(CN,xN.pw a1)],yeh [(QE,Rp),(M5,Rm)],Wj a0 a1,fun _=>none⟩
theorem yzB (e:Es) (he:EG e):SEOk (aZ (E e)) (jk e qR xP):=bF (aM.uni _) ⟨(NH e he),(Wg e he),trivial⟩ ⟨⟨by kernel_rfl,by kernel_rfl,rfl,fun az=>dC (by kernel_rfl) az,he.num _ (by kernel_rfl),by kernel_rfl,(aR (by kernel_rfl))⟩,trivial⟩ he.ok
theorem yur (e:Es) (a0 a1):dT (jk e a0 a1) 5 a Ro false (jj a0 a1):=fun _=>⟨fun _=>by kernel_rfl,fun _ _=>by kernel_rfl,trivial⟩
theorem yus (e:Es) (he:EG e):dU (aZ (E e)) (Wj qR xP) [] 72162200 (.loop 72162200 Ro):=fun _ _ _=>bV.st (aM.uni _) (cY (yzB e he) 5) (cS.no _ _) (aR (by kernel_rfl)) (yur e _ _ _)
theorem yzC (e:Es) (he:EG e):SEOk (aZ (E e)) (jl e qR xP):=bF (aM.uni _) ⟨(NH e he),(Wg e he),trivial⟩ ⟨⟨by kernel_rfl,by kernel_rfl,rfl,fun az=>dC (by kernel_rfl) az,he.num _ (by kernel_rfl),by kernel_rfl,(aR (by kernel_rfl))⟩,⟨by kernel_rfl,by kernel_rfl,rfl,fun az=>dC (by kernel_rfl) az,he.num _ (by kernel_rfl),by kernel_rfl,(dI (l:=[(72162200,.loop 72162200 Ro)]) ⟨yus e he,trivial⟩ (by kernel_rfl))⟩,trivial⟩ he.ok
theorem yBF (e:Es) (a0 a1):bU (jl e a0 a1) 6 O4 jR (Wh a0 a1):=fun _ _=>by kernel_rfl
theorem Wk (e:Es) (he:EG e):bC (E e) (jR.pw qS) CO:=bW he (yBF e _ _) (yzC e he) bE.flat (aR (by kernel_rfl))
def tM (p0 p1:Ls) (K:Int→Prop):Prop:=
 ∃ r0,K r0∧∀ e:Es,EG e→lD (E e) tB [(.data p0),(.data p1)] (.int .i64 r0)
def Dz:Sg:=⟨kI,Int→Prop,fun K=>(fun r0=>K (ic r0))⟩
theorem NV (e:Es) (he:EG e):zG (E e) (Dz.pw tM) tB:=fun az K h=>by obtain ⟨a,e1,r0,hk,ha⟩:=Sg.inv h;subst e1;exact ⟨_,hk,ha e he⟩
def jm (b:Int) (K:Int→Int→Prop):Prop:=
 (K b 1)
def lF:bN:=jm
def yBG (e:Es):SE:=sE (E e) [] eC
theorem yBH (e:Es):bU (yBG e) 6 S6 iX jm:=fun _ _=>by kernel_rfl
theorem DA (e:Es) (he:EG e):bC (E e) (iX.pw lF) xD:=bW he (yBH e) (bF (aM.uni _) trivial trivial he.ok) bE.flat (aR (by kernel_rfl))
abbrev xQ:Type:=Int→Ls→Ls→Ls→J4 (Int→Int→Int→(J4 (Prop))→Prop)
def Wl (a0:bN) (a1 a2 a3 a4:cT) (b:Int) (c d e:Ls) (f g h i j k l:Int) (K:J4 (Prop)):Prop:=
 (asr (decide (0≤g)) (asr (decide (g<(((length d):Nat):Int))) (lt (getD d (g.toNat) .nils) (fun m=>(asr (aG zI m) (a0 (aK m) (fun o p=>(asr (decide (0≤h)) (asr (decide (h<(((length d):Nat):Int))) (lt (getD d (h.toNat) .nils) (fun q=>(asr (aG zI q) (a0 (aK q) (fun r s=>(asr (decide (0≤g)) (asr (decide (g<(((length c):Nat):Int))) (lt (getD c (g.toNat) .nils) (fun t=>(asr (aG zI t) (a0 (aK t) (fun u v=>(a1 i j u v (fun w z A=>(a2 w z o p (fun B C D=>(asr (decide (0≤g)) (asr (decide (g<(((length e):Nat):Int))) (lt (getD e (g.toNat) .nils) (fun E=>(asr (aG zI E) (asr (decide (0≤h)) (asr (decide (h<(((length e):Nat):Int))) (lt (getD e (h.toNat) .nils) (fun F=>(asr (aG zI F) (lt (i64.wrap ((aK E)-(aK F))) (fun G=>(a0 G (fun H I=>(a3 B C H I (fun J L M=>(a2 k l o p (fun N O P=>(a0 f (fun R S=>(a3 N O R S (fun T U V=>(a4 J L r s (fun W X Y=>(asr (decide (0≤h)) (asr (decide (h<(((length c):Nat):Int))) (lt (getD c (h.toNat) .nils) (fun Z=>(asr (aG zI Z) (a0 (aK Z) (fun y0 y1=>(a3 W X y0 y1 (fun y2 y3 y4=>(a4 T U r s (fun y5 y6 y7=>(K y2 y3 y5 y6)))))))))))))))))))))))))))))))))))))))))))))))))))))))))))))
def mY:xQ:=Wl lF nY lZ ya1 iF
def Wm:Sg:=⟨(lC (vX 0 (vA (lC cX (lC vD (lC vD (lC vD (lC cX Jq))))))) (lC pN lN)),Int→Int→Int→Int→Prop,fun K=>(fun r0 r1 r2 r3=>K (.agg [(ic r0),(ic r1),(ic r2),(ic r3)]))⟩
def yv9 (e:Es) (a0:bN) (a1 a2 a3 a4:cT):SE:=sE (E e) [(xD,iX.pw a0),(Bq,gF.pw a1),(zJ,gF.pw a2),(xE,gF.pw a3),(uW,gF.pw a4)] eC
theorem ywa (e:Es) (a0 a1 a2 a3 a4):bU (yv9 e a0 a1 a2 a3 a4) 6 U3 Wm (Wl a0 a1 a2 a3 a4):=fun _ _=>by kernel_rfl
theorem Wn (e:Es) (he:EG e):bC (E e) (Wm.pw mY) Fl:=bW he (ywa e _ _ _ _ _) (bF (aM.uni _) ⟨(DA e he),(Ga e he),(Dg e he),(BA e he),(zP e he),trivial⟩ trivial he.ok) bE.flat (aR (by kernel_rfl))
abbrev tN:Type:=J4 (Int→(Int→Int→Prop)→Prop)
def Wo (a0:bN) (a1 a2:cT) (b c d e f:Int) (K:Int→Int→Prop):Prop:=
 (a0 f (fun g h=>(a1 g h b c (fun i j k=>(a2 i j d e (fun l m o=>(K l m)))))))
def hZ:tN:=Wo lF nY iF
def Wp:Sg:=⟨(lC pN Dd),Int→Int→Prop,fun K=>(fun r0 r1=>K (.agg [(ic r0),(ic r1)]))⟩
def yuu (e:Es) (a0:bN) (a1 a2:cT):SE:=sE (E e) [(xD,iX.pw a0),(Bq,gF.pw a1),(uW,gF.pw a2)] eC
theorem yuv (e:Es) (a0 a1 a2):bU (yuu e a0 a1 a2) 6 U4 Wp (Wo a0 a1 a2):=fun _ _=>by kernel_rfl
theorem Wq (e:Es) (he:EG e):bC (E e) (Wp.pw hZ) CS:=bW he (yuv e _ _ _) (bF (aM.uni _) ⟨(DA e he),(Ga e he),(zP e he),trivial⟩ trivial he.ok) bE.flat (aR (by kernel_rfl))
def Wr (a0:rQ) (b c d e:Int) (K:Bool→Prop):Prop:=
 (a0 b c d e (fun f g=>(K (decide (f<0)))))
def mB:cI:=Wr tG
def yDe (e:Es) (a0:rQ):SE:=sE (E e) [(zL,BB.pw a0)] eC
theorem yDf (e:Es) (a0):bU (yDe e a0) 6 V3 nH (Wr a0):=fun _ _=>by kernel_rfl
theorem Ws (e:Es) (he:EG e):bC (E e) (nH.pw mB) Fo:=bW he (yDf e _) (bF (aM.uni _) ⟨(Dh e he),trivial⟩ trivial he.ok) bE.flat (aR (by kernel_rfl))
abbrev DB:Type:=Ls→Ls→(Int→Int→Prop)→Prop
def vL (p0 p1:Ls) (K:Int→Int→Prop):Prop:=
 ∃ r0 r1,K r0 r1∧∀ e:Es,EG e→Ans (E e) uX [(.data p0),(.data p1)] (.agg [(.int .i64 r0),(.int .i64 r1)])
def NW:Sg:=⟨kI,Int→Int→Prop,fun K=>(fun r0 r1=>K (.agg [(ic r0),(ic r1)]))⟩
theorem JV (e:Es) (he:EG e):bC (E e) (NW.pw vL) uX:=fun az K h=>by obtain ⟨a,e1,r0,r1,hk,ha⟩:=Sg.inv h;subst e1;exact ⟨_,hk,ha e he⟩
abbrev BF:Type:=Ls→Ls→(Int→Int→Int→Prop)→Prop
def JW (a0:fY) (a1:DB) (b c:Ls) (K:Int→Int→Int→Prop):Prop:=
 (a0 b c (fun d=>(aB (d !=0) (K 0 0 d) (a1 b c (fun e f=>(K e f 0))))))
def ycM:BF:=JW tM vL
def NX:Sg:=⟨kI,Int→Int→Int→Prop,fun K=>(fun r0 r1 r2=>K (.tup [(.agg [(ic r0),(ic r1)]),(ic r2)]))⟩
def yDh (e:Es) (a0:fY) (a1:DB):SE:=sE (E e) [(tB,Dz.pw a0),(uX,NW.pw a1)] eC
theorem yDi (e:Es) (a0 a1):bU (yDh e a0 a1) 6 V4 NX (JW a0 a1):=fun _ _=>by kernel_rfl
theorem jo (e:Es) (he:EG e):zG (E e) (NX.pw ycM) IC:=bW he (yDi e _ _) (bF (aM.solo _) ⟨(NV e he),(bC.solo (JV e he)),trivial⟩ trivial he.ok) bE.flat (aR (by kernel_rfl))
abbrev qT:Type:=Ls→Ls→Int→Int→(Ls→Int→Prop)→Prop
def GJ (a0:fY) (a1:fJ) (a2:bN) (a3:eG) (a4:cT) (a5:qP) (x2:Ls→Ls→J4 (Ls→Int→Int→Bool→Prop)) (x3:Ls→Int→Prop):Nat→Ls→Ls→J4 (Ls→Int→Int→Prop)
 | 0,_,_,_,_,_,_,_,_,_=>False
 | n+1,b,c,d,e,f,g,h,i,j=>
 (aB (decide (j<i)) (asr (decide (0≤j)) (asr (decide (j<(((length h):Nat):Int))) (lt (getD h (j.toNat) .nils) (fun k=>(asr (aG zI k) (asr (decide (0≤(aK k))) (asr (decide ((aK k)<(((length c):Nat):Int))) (lt (getD c ((aK k).toNat) .nils) (fun l=>(asr (aG zK l) (a3 (aK (aP l 0)) (bQ (aP l 1)) (bQ (aP l 2)) (fun m o=>(a2 m (fun p q=>(a4 d e p q (fun r s t=>(jn (fun (a:Int→Int→Int→Prop)=>(aB (t==0) (asr (decide (0≤(aK k))) (asr (decide ((aK k)<(((length c):Nat):Int))) (lt (getD c ((aK k).toNat) .nils) (fun u=>(asr (aG zK u) (a5 (aK (aP u 0)) (bQ (aP u 1)) (bQ (aP u 2)) f g r s a)))))) (a f g t))) (fun u v w=>(aB (w !=0) (x3 b w) (asr (decide ((length b)=(length b))) (asr (decide ((0+(length b))≤(length b))) (asr (!(decide (((0+(length b))+1)≤(length b)))) (asr (decide ((length b)=(length b))) (asr (decide ((((length b)+1)+64)*(16+1)≤room)) (lt (i64.wrap (j+1)) (fun z=>(asr (decide ((length (b++([(.agg [(ic u),(ic v)])]:Ls)))=length (b++([(.agg [(ic u),(ic v)])]:Ls)))&&decide ((length (b++([(.agg [(ic u),(ic v)])]:Ls)))=length (b++([(.agg [(ic u),(ic v)])]:Ls)))) (GJ a0 a1 a2 a3 a4 a5 x2 x3 n (b++([(.agg [(ic u),(ic v)])]:Ls)) c d e u v h i z)))))))))))))))))))))))))))) (x2 b c d e f g h i j false))
def Wt (a0:fY) (a1:fJ) (a2:bN) (a3:eG) (a4:cT) (a5:qP) (x0:Ls→J4 (Ls→Int→Int→Bool→Prop)) (x1:Int→Prop) (x2:Ls→Ls→J4 (Ls→Int→Int→Bool→Prop)) (x3:Ls→Int→Prop):Nat→Ls→J4 (Ls→Int→Int→Prop)
 | 0,_,_,_,_,_,_,_,_=>False
 | n+1,b,c,d,e,f,g,h,i=>
 (aB (decide (i<h)) (asr (decide (0≤i)) (asr (decide (i<(((length g):Nat):Int))) (lt (getD g (i.toNat) .nils) (fun j=>(asr (aG zI j) (asr (decide (0≤(aK j))) (asr (decide ((aK j)<(((length b):Nat):Int))) (lt (getD b ((aK j).toNat) .nils) (fun k=>(asr (aG zK k) (a3 (aK (aP k 0)) (bQ (aP k 1)) (bQ (aP k 2)) (fun l m=>(a2 l (fun o p=>(a4 c d o p (fun q r s=>(jn (fun (a:Int→Int→Int→Prop)=>(aB (s==0) (asr (decide (0≤(aK j))) (asr (decide ((aK j)<(((length b):Nat):Int))) (lt (getD b ((aK j).toNat) .nils) (fun t=>(asr (aG zK t) (a5 (aK (aP t 0)) (bQ (aP t 1)) (bQ (aP t 2)) e f q r a)))))) (a e f s))) (fun t u v=>(aB (v !=0) (x1 v) (lt (i64.wrap (i+1)) (fun w=>(asr (decide (1=length ([(.agg [(ic t),(ic u)])]:Ls))&&decide (1=length ([(.agg [(ic t),(ic u)])]:Ls))) (GJ a0 a1 a2 a3 a4 a5 x2 x3 n ([(.agg [(ic t),(ic u)])]:Ls) b c d t u g h w))))))))))))))))))))))) (x0 b c d e f g h i false))
def Wu (a0:fY) (a1:fJ) (a2:bN) (a3:eG) (a4:cT) (a5:qP) (b c:Ls) (d e:Int) (K:Ls→Int→Prop):Prop:=
 (a0 b c (fun f=>(aB (f !=0) (K ([]:Ls) f) (jn (fun (a:Bool→Prop)=>(a1 d e (fun g=>(aB (g !=0) (a true) (a (decide (d<0))))))) (fun g=>(aB g (K ([]:Ls) 2) (a2 0 (fun h i=>(∃ n:Nat,Wt a0 a1 a2 a3 a4 a5 (fun j k l m o p q r s=>(K ([]:Ls) 0)) (fun j=>(K ([]:Ls) j)) (fun j k l m o p q r s t=>(asr (decide ((length j)=(length j))) (asr (decide ((0+(length j))≤(length j))) (K (take (length j) j) 0)))) (fun j k=>(K ([]:Ls) k)) n b d e h i c (((length c):Nat):Int) 0)))))))))
def ybx:qT:=Wu tM nX lF cE lZ xL
def JX:Sg:=⟨(lC vD (lC vD Ns)),Ls→Int→Prop,fun K=>(fun r0 r1=>K (.tup [(.data r0),(ic r1)]))⟩
def yxX (Q:Qx):Ls→J4 (Ls→Int→Int→Bool→Prop ):=(fun b c d e f g h i j=>Q (.exit 0) [(0,.v (.data b)),(5,.box (.agg [(ic c),(ic d)])),(9,.box (.agg [(ic e),(ic f)])),(10,.v .nils),(32,.v (.data g)),(33,.v (ic h)),(34,.v (ic i)),(35,.v (.bool j))] [])
def yxY (Q:Qx):Int→Prop:=(fun b=>Q .ret [(6,.v .nils),(7,.v (ic b))] [])
def jp (Q:Qx):Ls→Ls→J4 (Ls→Int→Int→Bool→Prop ):=(fun b c d e f g h i j k=>Q (.exit 0) [(0,.v (.data c)),(5,.box (.agg [(ic d),(ic e)])),(9,.box (.agg [(ic f),(ic g)])),(10,.v (.own 0 0 (length b) (length b) none)),(32,.v (.data h)),(33,.v (ic i)),(34,.v (ic j)),(35,.v (.bool k))] [⟨false,true,2,b⟩])
def jq (Q:Qx):Ls→Int→Prop:=(fun b c=>Q .ret [(6,.v .nils),(7,.v (ic c))] [⟨false,true,2,b⟩])
def JY:Pat aF:=fV 32 vD (fV 33 cX (fV 34 cX fN))
def jr (a0:fY) (a1:fJ) (a2:bN) (a3:eG) (a4:cT) (a5:qP) (Q:Qx):List St:=[⟨(pS hN (fV 0 vD (fX 5 mP (fX 9 mP (fV 10 Fe JY)))) fN),Wt a0 a1 a2 a3 a4 a5 (yxX Q) (yxY Q) (jp Q) (jq Q)⟩,⟨(pS (hB false true 2 rA hN) (fV 0 vD (fX 5 mP (fX 9 mP (fV 10 (vW 0 (nK 0) (nT 0) (nT 0)) JY)))) fN),GJ a0 a1 a2 a3 a4 a5 (jp Q) (jq Q)⟩]
def js (a0:fY) (a1:fJ) (a2:bN) (a3:eG) (a4:cT) (a5:qP):LP:=fO [(60678000,jr a0 a1 a2 a3 a4 a5)]
def Wv (e:Es) (a0:fY) (a1:fJ) (a2:bN) (a3:eG) (a4:cT) (a5:qP):SE:=sE (E e) [(tB,Dz.pw a0),(Bo,xJ.pw a1),(xD,iX.pw a2),(xF,zU.pw a3),(zJ,gF.pw a4),(MF,Dj.pw a5)] (js a0 a1 a2 a3 a4 a5)
theorem jt (e:Es) (he:EG e):SEOk (gN (E e)) (Wv e tM nX lF cE lZ xL):=bF (aM.solo _) ⟨(NV e he),(bC.solo (FX e he)),(bC.solo (DA e he)),(bC.solo (BD e he)),(bC.solo (Dg e he)),(bC.solo (cg e he)),trivial⟩ trivial he.ok
theorem ywb (e:Es) (a0 a1 a2 a3 a4 a5):dT (Wv e a0 a1 a2 a3 a4 a5) 5 a SA false (jr a0 a1 a2 a3 a4 a5):=fun _=>⟨fun _=>by kernel_rfl,fun _ _=>by kernel_rfl,fun _=>by kernel_rfl,fun _ _=>by kernel_rfl,trivial⟩
theorem ywc (e:Es) (he:EG e):dU (gN (E e)) (js tM nX lF cE lZ xL) [] 60678000 (.loop 60678000 SA):=fun _ _ _=>bV.st (aM.solo _) (cY (jt e he) 5) (cS.no _ _) (aR (by kernel_rfl)) (ywb e _ _ _ _ _ _ _)
theorem yDk (e:Es) (a0 a1 a2 a3 a4 a5):bU (Wv e a0 a1 a2 a3 a4 a5) 6 Sz JX (Wu a0 a1 a2 a3 a4 a5):=fun _ _=>by kernel_rfl
theorem NY (e:Es) (he:EG e):zG (E e) (JX.pw ybx) Fs:=bW he (yDk e _ _ _ _ _ _) (jt e he) bE.flat (dI (l:=[(60678000,.loop 60678000 SA)]) ⟨ywc e he,trivial⟩ (by kernel_rfl))
abbrev ju:Type:=Ls→(Ls→Int→Int→Int→Prop)→Prop
def JZ (p0:Ls) (K:Ls→Int→Int→Int→Prop):Prop:=
 ∃ r0 r1 r2 r3,K r0 r1 r2 r3∧∀ e:Es,EG e→lD (E e) Fu [(.data p0)] (.tup [(.data r0),(.agg [(.int .i64 r1),(.int .i64 r2)]),(.int .i64 r3)])
def jv:Sg:=⟨vC,Ls→Int→Int→Int→Prop,fun K=>(fun r0 r1 r2 r3=>K (.tup [(.data r0),(.agg [(ic r1),(ic r2)]),(ic r3)]))⟩
theorem jw (e:Es) (he:EG e):zG (E e) (jv.pw JZ) Fu:=fun az K h=>by obtain ⟨a,e1,r0,r1,r2,r3,hk,ha⟩:=Sg.inv h;subst e1;exact ⟨_,hk,ha e he⟩
def GK (a0:fY) (a1:DB) (a2:qT) (a3:bN) (x0:Ls→Ls→Nat→Nat→Nat→Int→Int→Ls→Int→Int→Bool→Prop):Nat→Ls→Ls→Nat→Nat→Nat→Int→Int→Ls→Int→Int→Prop
 | 0,_,_,_,_,_,_,_,_,_,_=>False
 | n+1,b,c,d,e,f,g,h,i,j,k=>
 (aB (decide (k<j)) (asr (decide (0≤k)) (asr (decide (k<(((length i):Nat):Int))) (lt (getD i (k.toNat) .nils) (fun l=>(asr (aG zI l) (asr (decide (0≤k)) (asr (decide (k<(((length c):Nat):Int))) (lt (getD c (k.toNat) .nils) (fun m=>(asr (aG z2 m) (asr (decide (0≤(aK l))) (asr (decide ((aK l)<((d:Nat):Int))) (asr (decide ((length b)=e)) (asr (decide ((0+((aK l).toNat))<(length b))) (lt (getD b (0+((aK l).toNat)) .nils) (fun o=>(asr (aG zD o) (asr (decide (0≤k)) (asr (decide (k<(((length c):Nat):Int))) (lt (getD c (k.toNat) .nils) (fun p=>(asr (aG z2 p) (lt (i64.wrap (k+1)) (fun q=>(GK a0 a1 a2 a3 x0 n (set b (0+((aK l).toNat)) (.data ([(.agg [(ic g),(ic h),(ic (aK (aP m 0))),(ic (aK (aP m 1)))])]:Ls))) c d e f (aK (aP p 0)) (aK (aP p 1)) i j q))))))))))))))))))))))))) (x0 b c d e f g h i j k false))
def Ww (a0:fY) (a1:DB) (a2:qT) (a3:bN) (b c:Ls) (K:Ls→Int→Prop):Prop:=
 (a0 b c (fun d=>(aB (d !=0) (K ([]:Ls) d) (a1 b c (fun e f=>(a2 b c e f (fun g h=>(aB (h !=0) (K ([]:Ls) h) (asr (decide (0≤(((length b):Nat):Int))) (asr (decide ((((length b):Nat):Int)≤(((length b):Nat):Int))) (asr (decide (((length b)+64)*(24+1)≤room)) (a3 0 (fun i j=>(∃ n:Nat,GK a0 a1 a2 a3 (fun k l m o p q r s t u v=>(asr (decide ((length k)=o)) (asr (decide ((0+m)≤o)) (K (take m k) 0)))) n (replicate (length b) ((.data []):PV)) g (length b) (length b) (length b) i j c (((length c):Nat):Int) 0))))))))))))))
def BG:jJ:=Ww tM vL ybx lF
def Wx:Sg:=⟨kI,Ls→Int→Prop,fun K=>(fun r0 r1=>K (.tup [(.agg [(.data r0)]),(ic r1)]))⟩
def yuw (Q:Qx):Ls→Ls→Nat→Nat→Nat→Int→Int→Ls→Int→Int→Bool→Prop:=(fun b c d e f g h i j k l=>Q (.exit 0) [(4,.box (.agg [.nils])),(7,.v (.data c)),(9,.box (.agg [(.own 0 0 d e (some f))])),(10,.box (.agg [(ic g),(ic h)])),(38,.v (.data i)),(39,.v (ic j)),(40,.v (ic k)),(41,.v (.bool l))] [⟨false,true,1,b⟩])
def jx (a0:fY) (a1:DB) (a2:qT) (a3:bN) (Q:Qx):List St:=[⟨(pS (hB false true 1 rA hN) (fX 4 (vA (lC Fe lN)) (fV 7 vD (fX 9 (vA (lC (vO 0 (nK 0) nV nV nV) lN)) (fX 10 mP JG)))) fN),GK a0 a1 a2 a3 (yuw Q)⟩]
def jy (a0:fY) (a1:DB) (a2:qT) (a3:bN):LP:=fO [(76635300,jx a0 a1 a2 a3)]
def Wy (e:Es) (a0:fY) (a1:DB) (a2:qT) (a3:bN):SE:=sE (E e) [(tB,Dz.pw a0),(uX,NW.pw a1),(Fs,JX.pw a2),(xD,iX.pw a3)] (jy a0 a1 a2 a3)
theorem jz (e:Es) (he:EG e):SEOk (gN (E e)) (Wy e tM vL ybx lF):=bF (aM.solo _) ⟨(NV e he),(bC.solo (JV e he)),(NY e he),(bC.solo (DA e he)),trivial⟩ trivial he.ok
theorem yrZ (e:Es) (a0 a1 a2 a3):dT (Wy e a0 a1 a2 a3) 5 a SH false (jx a0 a1 a2 a3):=fun _=>⟨fun _=>by kernel_rfl,fun _ _=>by kernel_rfl,trivial⟩
theorem yr0 (e:Es) (he:EG e):dU (gN (E e)) (jy tM vL ybx lF) [] 76635300 (.loop 76635300 SH):=fun _ _ _=>bV.st (aM.solo _) (cY (jz e he) 5) (cS.no _ _) (aR (by kernel_rfl)) (yrZ e _ _ _ _ _)
theorem yzE (e:Es) (a0 a1 a2 a3):bU (Wy e a0 a1 a2 a3) 6 SG Wx (Ww a0 a1 a2 a3):=fun _ _=>by kernel_rfl
theorem ka (e:Es) (he:EG e):zG (E e) (Wx.pw BG) MK:=bW he (yzE e _ _ _ _) (jz e he) bE.flat (dI (l:=[(76635300,.loop 76635300 SH)]) ⟨yr0 e he,trivial⟩ (by kernel_rfl))
set_option linter.unusedVariables false
theorem ywe (p0:Int) (p1 p2:Ls) (r0:Bool) (h:∀ K:Bool→Prop,K r0→xP p0 p1 p2 K) (K:Bool→Prop):xP p0 p1 p2 K=K r0:=
 Aab ⟨fun k=>cA (Wg [] fI) (az:=[(.agg [(ic p0),(.data p1),(.data p2)])]) (x:=(.bool r0)) (fun K' k'=>h (fun r0=>K' (.bool r0)) k') (K:=fun x=>match x with | (.bool r0)=>K r0 | _=>False) k,h K⟩
theorem yzF (p0:Ls) (r0:Int) (h:∀ K:Int→Prop,K r0→qS p0 K) (K:Int→Prop):qS p0 K=K r0:=
 Aab ⟨fun k=>cA (Wk [] fI) (az:=[(.data p0)]) (x:=(ic r0)) (fun K' k'=>h (fun r0=>K' (ic r0)) k') (K:=fun x=>match x with | (ic r0)=>K r0 | _=>False) k,h K⟩
theorem ywf (p0 p1:Ls) (r0:Int) (h:∀ K:Int→Prop,K r0→tM p0 p1 K) (K:Int→Prop):tM p0 p1 K=K r0:=
 Aab ⟨fun k=>uQ (NV [] fI) (az:=[(.data p0),(.data p1)]) (x:=(ic r0)) (fun K' k'=>h (fun r0=>K' (ic r0)) k') (K:=fun x=>match x with | (ic r0)=>K r0 | _=>False) k,h K⟩
theorem yBI (p0 p1:Ls) (r0 r1:Int) (h:∀ K:Int→Int→Prop,K r0 r1→vL p0 p1 K) (K:Int→Int→Prop):vL p0 p1 K=K r0 r1:=
 Aab ⟨fun k=>cA (JV [] fI) (az:=[(.data p0),(.data p1)]) (x:=(.agg [(ic r0),(ic r1)])) (fun K' k'=>h (fun r0 r1=>K' (.agg [(ic r0),(ic r1)])) k') (K:=fun x=>match x with | (.agg [(ic r0),(ic r1)])=>K r0 r1 | _=>False) k,h K⟩
theorem kb (p0 p1:Ls) (p2 p3:Int) (r0:Ls) (r1:Int) (h:∀ K:Ls→Int→Prop,K r0 r1→ybx p0 p1 p2 p3 K) (K:Ls→Int→Prop):ybx p0 p1 p2 p3 K=K r0 r1:=
 Aab ⟨fun k=>uQ (NY [] fI) (az:=[(.data p0),(.data p1),(.agg [(ic p2),(ic p3)])]) (x:=(.tup [(.data r0),(ic r1)])) (fun K' k'=>h (fun r0 r1=>K' (.tup [(.data r0),(ic r1)])) k') (K:=fun x=>match x with | (.tup [(.data r0),(ic r1)])=>K r0 r1 | _=>False) k,h K⟩
theorem yBJ (p0 r0:Ls) (r1 r2 r3:Int) (h:∀ K:Ls→Int→Int→Int→Prop,K r0 r1 r2 r3→JZ p0 K) (K:Ls→Int→Int→Int→Prop):JZ p0 K=K r0 r1 r2 r3:=
 Aab ⟨fun k=>uQ (jw [] fI) (az:=[(.data p0)]) (x:=(.tup [(.data r0),(.agg [(ic r1),(ic r2)]),(ic r3)])) (fun K' k'=>h (fun r0 r1 r2 r3=>K' (.tup [(.data r0),(.agg [(ic r1),(ic r2)]),(ic r3)])) k') (K:=fun x=>match x with | (.tup [(.data r0),(.agg [(ic r1),(ic r2)]),(ic r3)])=>K r0 r1 r2 r3 | _=>False) k,h K⟩
theorem yxZ (p0 p1 r0:Ls) (r1:Int) (h:∀ K:Ls→Int→Prop,K r0 r1→BG p0 p1 K) (K:Ls→Int→Prop):BG p0 p1 K=K r0 r1:=
 Aab ⟨fun k=>uQ (ka [] fI) (az:=[(.data p0),(.data p1)]) (x:=(.tup [(.agg [(.data r0)]),(ic r1)])) (fun K' k'=>h (fun r0 r1=>K' (.tup [(.agg [(.data r0)]),(ic r1)])) k') (K:=fun x=>match x with | (.tup [(.agg [(.data r0)]),(ic r1)])=>K r0 r1 | _=>False) k,h K⟩
def GL (a0:zY) (x0:Ls→Int→Bool→Prop) (x1:Bool→Prop):Nat→Ls→Int→Prop
 | 0,_,_=>False
 | n+1,b,c=>
 (aB (decide (c<(((length b):Nat):Int))) (jn (fun (a:Bool→Prop)=>(asr (decide (0≤c)) (asr (decide (c<(((length b):Nat):Int))) (lt (getD b (c.toNat) .nils) (fun d=>(asr (aG zK d) (aB (decide ((((length (bQ (aP d 1))):Nat):Int)>14)) (asr (decide (0≤c)) (asr (decide (c<(((length b):Nat):Int))) (lt (getD b (c.toNat) .nils) (fun e=>(asr (aG zK e) (a (decide ((((length (bQ (aP e 1))):Nat):Int)≤40)))))))) (a false)))))))) (fun d=>(aB d (x1 true) (lt (i64.wrap (c+1)) (GL a0 x0 x1 n b))))) (x0 b c false))
def Wz (a0:zY) (b:Ls) (K:Bool→Prop):Prop:=
 (∃ n:Nat,GL a0 (fun c d e=>(a0 c K)) K n b 0)
def GM:zY:=Wz zZ
def yzG (Q:Qx):Ls→Int→Bool→Prop:=(fun b c d=>Q (.exit 0) [(0,.v (.data b)),(3,.v (ic c)),(7,.v (.bool d))] [])
def yzH (Q:Qx):Bool→Prop:=(fun b=>Q .ret [(2,.v (.bool b))] [])
def kc (a0:zY) (Q:Qx):List St:=[⟨JE,GL a0 (yzG Q) (yzH Q)⟩]
def kd (a0:zY):LP:=fO [(60274600,kc a0)]
def WB (e:Es) (a0:zY):SE:=sE (E e) [(Mf,Gr.pw a0)] (kd a0)
theorem ke (e:Es) (he:EG e):SEOk (aZ (E e)) (WB e zZ):=bF (aM.uni _) ⟨(fw e he),trivial⟩ trivial he.ok
theorem yx0 (e:Es) (a0):dT (WB e a0) 5 a QT false (kc a0):=fun _=>⟨fun _=>by kernel_rfl,fun _ _=>by kernel_rfl,trivial⟩
theorem yx1 (e:Es) (he:EG e):dU (aZ (E e)) (kd zZ) [] 60274600 (.loop 60274600 QT):=fun _ _ _=>bV.st (aM.uni _) (cY (ke e he) 5) (cS.no _ _) (aR (by kernel_rfl)) (yx0 e _ _)
theorem yFA (e:Es) (a0):bU (WB e a0) 6 QS Gr (Wz a0):=fun _ _=>by kernel_rfl
theorem kg (e:Es) (he:EG e):bC (E e) (Gr.pw GM) Mg:=bW he (yFA e _) (ke e he) bE.flat (dI (l:=[(60274600,.loop 60274600 QT)]) ⟨yx1 e he,trivial⟩ (by kernel_rfl))
def GN (a0:fY) (a1:mX) (x0:Ls→Int→Bool→Prop) (x1:Int→Prop):Nat→Ls→Int→Prop
 | 0,_,_=>False
 | n+1,b,c=>
 (aB (decide (c<(((length b):Nat):Int))) (asr (decide (0≤c)) (asr (decide (c<(((length b):Nat):Int))) (lt (getD b (c.toNat) .nils) (fun d=>(asr (aG zK d) (a1 (aK (aP d 0)) (bQ (aP d 1)) (bQ (aP d 2)) (fun e=>(aB (!e) (x1 2) (lt (i64.wrap (c+1)) (GN a0 a1 x0 x1 n b)))))))))) (x0 b c false))
def WD (a0:fY) (a1:mX) (b:Ls) (K:Int→Prop):Prop:=
 (a0 b ([]:Ls) (fun c=>(aB (c !=0) (K c) (aB (decide ((((length b):Nat):Int)>4)) (K 4) (∃ n:Nat,GN a0 a1 (fun d e f=>(K 0)) K n b 0)))))
def GO:fK:=WD Aa zW
def yzI (Q:Qx):Ls→Int→Bool→Prop:=(fun b c d=>Q (.exit 0) [(0,.v (.data b)),(4,.v (ic c)),(17,.v (.bool d))] [])
def yzJ (Q:Qx):Int→Prop:=(fun b=>Q .ret [(2,.v (ic b))] [])
def kh (a0:fY) (a1:mX) (Q:Qx):List St:=[⟨(pS hN (fV 0 vD rR) fN),GN a0 a1 (yzI Q) (yzJ Q)⟩]
def ki (a0:fY) (a1:mX):LP:=fO [(10200500,kh a0 a1)]
def WE (e:Es) (a0:fY) (a1:mX):SE:=sE (E e) [(Mi,BE.pw a0),(Mj,xN.pw a1)] (ki a0 a1)
theorem kj (e:Es) (he:EG e):SEOk (aZ (E e)) (WE e Aa zW):=bF (aM.uni _) ⟨(gb e he),(ff e he),trivial⟩ trivial he.ok
theorem yx2 (e:Es) (a0 a1):dT (WE e a0 a1) 5 a Rb false (kh a0 a1):=fun _=>⟨fun _=>by kernel_rfl,fun _ _=>by kernel_rfl,trivial⟩
theorem yx3 (e:Es) (he:EG e):dU (aZ (E e)) (ki Aa zW) [] 10200500 (.loop 10200500 Rb):=fun _ _ _=>bV.st (aM.uni _) (cY (kj e he) 5) (cS.no _ _) (aR (by kernel_rfl)) (yx2 e _ _ _)
theorem yFB (e:Es) (a0 a1):bU (WE e a0 a1) 6 Ra jR (WD a0 a1):=fun _ _=>by kernel_rfl
theorem km (e:Es) (he:EG e):bC (E e) (jR.pw GO) Ml:=bW he (yFB e _ _) (kj e he) bE.flat (dI (l:=[(10200500,.loop 10200500 Rb)]) ⟨yx3 e he,trivial⟩ (by kernel_rfl))
abbrev WF:Type:=Int→Ls→(Bool→Prop)→Prop
def GP (x0:Ls→Int→Ls→Nat→Nat→Nat→Int→Bool→Prop) (x1:Ls→Bool→Prop):Nat→Ls→Int→Ls→Nat→Nat→Nat→Int→Prop
 | 0,_,_,_,_,_,_,_=>False
 | n+1,b,c,d,e,f,g,h=>
 (aB (decide (h<c)) (jn (fun (a:Bool→Prop)=>(asr (decide (0≤h)) (asr (decide (h<(((length d):Nat):Int))) (lt (getD d (h.toNat) .nils) (fun i=>(asr (aG zI i) (aB (decide ((aK i)<0)) (a true) (asr (decide (0≤h)) (asr (decide (h<(((length d):Nat):Int))) (lt (getD d (h.toNat) .nils) (fun j=>(asr (aG zI j) (aB (decide ((aK j)≥c)) (a true) (asr (decide (0≤h)) (asr (decide (h<(((length d):Nat):Int))) (lt (getD d (h.toNat) .nils) (fun k=>(asr (aG zI k) (asr (decide (0≤(aK k))) (asr (decide ((aK k)<((e:Nat):Int))) (asr (decide ((length b)=f)) (asr (decide ((0+((aK k).toNat))<(length b))) (lt (getD b (0+((aK k).toNat)) .nils) (fun l=>(asr (aG (.one (.b)) l) (a (Qh l))))))))))))))))))))))))))) (fun i=>(aB i (x1 b false) (asr (decide (0≤h)) (asr (decide (h<(((length d):Nat):Int))) (lt (getD d (h.toNat) .nils) (fun j=>(asr (aG zI j) (asr (decide (0≤(aK j))) (asr (decide ((aK j)<((e:Nat):Int))) (asr (decide ((length b)=f)) (asr (decide ((0+((aK j).toNat))<(length b))) (lt (getD b (0+((aK j).toNat)) .nils) (fun k=>(asr (aG (.one (.b)) k) (lt (i64.wrap (h+1)) (fun l=>(GP x0 x1 n (set b (0+((aK j).toNat)) (.bool true)) c d e f g l)))))))))))))))))) (x0 b c d e f g h false))
def WH (b:Int) (c:Ls) (K:Bool→Prop):Prop:=
 (aB ((((length c):Nat):Int) !=b) (K false) (asr (decide (0≤b)) (asr (decide (b≤b)) (asr (decide (((b.toNat)+64)*(1+1)≤room)) (∃ n:Nat,GP (fun d e f g h i j k=>(K true)) (fun d e=>(K e)) n (replicate (b.toNat) ((.bool false):PV)) b c (b.toNat) (b.toNat) (b.toNat) 0)))))
def NZ:WF:=WH
def WI:Sg:=⟨(lC cX vC),Bool→Prop,fun K=>(fun r0=>K (.bool r0))⟩
def yzK (Q:Qx):Ls→Int→Ls→Nat→Nat→Nat→Int→Bool→Prop:=(fun b c d e f g h i=>Q (.exit 0) [(0,.v (ic c)),(1,.v (.data d)),(5,.v (.own 0 0 e f (some g))),(6,.v (ic h)),(15,.v (.bool i))] [⟨false,true,1,b⟩])
def yzL (Q:Qx):Ls→Bool→Prop:=(fun b c=>Q .ret [(4,.v (.bool c))] [⟨false,true,1,b⟩])
def ko (Q:Qx):List St:=[⟨(pS (hB false true 1 rA hN) (fV 0 cX (fV 1 vD (fV 5 (vO 0 (nK 0) nV nV nV) (fV 6 cX fN)))) fN),GP (yzK Q) (yzL Q)⟩]
def kr:LP:=fO [(62552700,ko)]
def WJ (e:Es):SE:=sE (E e) [] (kr)
theorem ku (e:Es) (he:EG e):SEOk (aZ (E e)) (WJ e):=bF (aM.uni _) trivial trivial he.ok
theorem yx4 (e:Es):dT (WJ e) 5 a Rd false (ko):=fun _=>⟨fun _=>by kernel_rfl,fun _ _=>by kernel_rfl,trivial⟩
theorem yx5 (e:Es) (he:EG e):dU (aZ (E e)) (kr) [] 62552700 (.loop 62552700 Rd):=fun _ _ _=>bV.st (aM.uni _) (cY (ku e he) 5) (cS.no _ _) (aR (by kernel_rfl)) (yx4 e _)
theorem yFD (e:Es):bU (WJ e) 6 Rc WI WH:=fun _ _=>by kernel_rfl
theorem yFE (e:Es) (he:EG e):bC (E e) (WI.pw NZ) Mm:=bW he (yFD e) (ku e he) bE.flat (dI (l:=[(62552700,.loop 62552700 Rd)]) ⟨yx5 e he,trivial⟩ (by kernel_rfl))
def WK (a0:fK) (a1:WF) (b c:Ls) (K:Int→Prop):Prop:=
 (a0 b (fun d=>(aB (d !=0) (a0 b K) (a1 (((length b):Nat):Int) c (fun e=>(aB (!e) (K 8) (K 0)))))))
def WM:fY:=WK GO NZ
def yHc (e:Es) (a0:fK) (a1:WF):SE:=sE (E e) [(Ml,jR.pw a0),(Mm,WI.pw a1)] eC
theorem yHd (e:Es) (a0 a1):bU (yHc e a0 a1) 6 N9 Dz (WK a0 a1):=fun _ _=>by kernel_rfl
theorem yHe (e:Es) (he:EG e):bC (E e) (Dz.pw WM) Mn:=bW he (yHd e _ _) (bF (aM.uni _) ⟨(km e he),(yFE e he),trivial⟩ trivial he.ok) bE.flat (aR (by kernel_rfl))
def WN (x0:Ls→Ls→Int→Bool→Prop) (x1:Bool→Prop):Nat→Ls→Ls→Int→Prop
 | 0,_,_,_=>False
 | n+1,b,c,d=>
 (aB (decide (d<(((length b):Nat):Int))) (asr (decide (0≤d)) (asr (decide (d<(((length b):Nat):Int))) (lt (getD b (d.toNat) .nils) (fun e=>(asr (aG z2 e) (asr (decide (0≤d)) (asr (decide (d<(((length c):Nat):Int))) (lt (getD c (d.toNat) .nils) (fun f=>(asr (aG z2 f) (aB (!(((aK (aP e 0)) ==(aK (aP f 0)))&&(((aK (aP e 1)) ==(aK (aP f 1)))&&true))) (x1 false) (lt (i64.wrap (d+1)) (WN x0 x1 n b c))))))))))))) (x0 b c d false))
def WO (b c:Ls) (K:Bool→Prop):Prop:=
 (aB ((((length b):Nat):Int) !=(((length c):Nat):Int)) (K false) (∃ n:Nat,WN (fun d e f g=>(K true)) K n b c 0))
def yee:fC:=WO
def yuy (Q:Qx):Ls→Ls→Int→Bool→Prop:=(fun b c d e=>Q (.exit 0) [(0,.v (.data b)),(1,.v (.data c)),(5,.v (ic d)),(14,.v (.bool e))] [])
def yuz (Q:Qx):Bool→Prop:=(fun b=>Q .ret [(4,.v (.bool b))] [])
def kv (Q:Qx):List St:=[⟨JF,WN (yuy Q) (yuz Q)⟩]
def kw:LP:=fO [(13861700,kv)]
def WQ (e:Es):SE:=sE (E e) [] (kw)
theorem ky (e:Es) (he:EG e):SEOk (aZ (E e)) (WQ e):=bF (aM.uni _) trivial trivial he.ok
theorem yr1 (e:Es):dT (WQ e) 5 a SC false (kv):=fun _=>⟨fun _=>by kernel_rfl,fun _ _=>by kernel_rfl,trivial⟩
theorem yr2 (e:Es) (he:EG e):dU (aZ (E e)) (kw) [] 13861700 (.loop 13861700 SC):=fun _ _ _=>bV.st (aM.uni _) (cY (ky e he) 5) (cS.no _ _) (aR (by kernel_rfl)) (yr1 e _)
theorem yzM (e:Es):bU (WQ e) 6 SB mW WO:=fun _ _=>by kernel_rfl
theorem kz (e:Es) (he:EG e):bC (E e) (mW.pw yee) MH:=bW he (yzM e) (ky e he) bE.flat (dI (l:=[(13861700,.loop 13861700 SC)]) ⟨yr2 e he,trivial⟩ (by kernel_rfl))
set_option linter.unusedVariables false
theorem yDl (p0:Ls) (r0:Bool) (h:∀ K:Bool→Prop,K r0→GM p0 K) (K:Bool→Prop):GM p0 K=K r0:=
 Aab ⟨fun k=>cA (kg [] fI) (az:=[(.data p0)]) (x:=(.bool r0)) (fun K' k'=>h (fun r0=>K' (.bool r0)) k') (K:=fun x=>match x with | (.bool r0)=>K r0 | _=>False) k,h K⟩
theorem yDm (p0:Ls) (r0:Int) (h:∀ K:Int→Prop,K r0→GO p0 K) (K:Int→Prop):GO p0 K=K r0:=
 Aab ⟨fun k=>cA (km [] fI) (az:=[(.data p0)]) (x:=(ic r0)) (fun K' k'=>h (fun r0=>K' (ic r0)) k') (K:=fun x=>match x with | (ic r0)=>K r0 | _=>False) k,h K⟩
theorem yx6 (p0 p1:Ls) (r0:Bool) (h:∀ K:Bool→Prop,K r0→yee p0 p1 K) (K:Bool→Prop):yee p0 p1 K=K r0:=
 Aab ⟨fun k=>cA (kz [] fI) (az:=[(.data p0),(.data p1)]) (x:=(.bool r0)) (fun K' k'=>h (fun r0=>K' (.bool r0)) k') (K:=fun x=>match x with | (.bool r0)=>K r0 | _=>False) k,h K⟩
def WR (a0:zY) (a1:fY) (b c:Ls) (K:Bool→Prop):Prop:=
 (jn (fun (a:Bool→Prop)=>(a0 b (fun d=>(aB (!d) (aB (decide ((((length c):Nat):Int)≤20)) (a1 b c (fun e=>(a (e==0)))) (a false)) (a false))))) K)
def BH:fC:=WR GM WM
def yIR (e:Es) (a0:zY) (a1:fY):SE:=sE (E e) [(Mg,Gr.pw a0),(Mn,Dz.pw a1)] eC
theorem yIS (e:Es) (a0 a1):bU (yIR e a0 a1) 6 O0 mW (WR a0 a1):=fun _ _=>by kernel_rfl
theorem lc (e:Es) (he:EG e):bC (E e) (mW.pw BH) Mo:=bW he (yIS e _ _) (bF (aM.uni _) ⟨(kg e he),(yHe e he),trivial⟩ trivial he.ok) bE.flat (aR (by kernel_rfl))
abbrev WS:Type:=(Ls→Prop)→Prop
def ld (K:Ls→Prop):Prop:=
 (K ([(.agg [(ic 4),(.data ([(ic 0),(ic 4)]:Ls)),(.data ([(ic 1)]:Ls))]),(.agg [(ic 4),(.data ([(ic 0),(ic 1),(ic 4)]:Ls)),(.data ([(ic 3),(ic 1)]:Ls))])]:Ls))
def yx8:WS:=ld
def WT:Sg:=⟨lN,Ls→Prop,fun K=>(fun r0=>K (.data r0))⟩
def yIU (e:Es):SE:=sE (E e) [] eC
theorem yIV (e:Es):bU (yIU e) 6 O1 WT ld:=fun _ _=>by kernel_rfl
theorem yIW (e:Es) (he:EG e):bC (E e) (WT.pw yx8) Mp:=bW he (yIV e) (bF (aM.uni _) trivial trivial he.ok) bE.flat (aR (by kernel_rfl))
def lf (a0:bN) (b:Int) (K:Int→Int→Prop):Prop:=
 (a0 b K)
def BI:bN:=lf dm
def yLl (e:Es) (a0:bN):SE:=sE (E e) [(MG,iX.pw a0)] eC
theorem yLm (e:Es) (a0):bU (yLl e a0) 6 W9 iX (lf a0):=fun _ _=>by kernel_rfl
theorem lh (e:Es) (he:EG e):bC (E e) (iX.pw BI) IE:=bW he (yLm e _) (bF (aM.uni _) ⟨(yLk e he),trivial⟩ trivial he.ok) bE.flat (aR (by kernel_rfl))
abbrev GQ:Type:=(Bool→Prop)→Prop
def WU (a0:WS) (a1:BF) (a2:qT) (a3:ju) (a4:bN) (a5 a6:fC) (K:Bool→Prop):Prop:=
 (a0  (fun b=>(a1 b ([(ic 0),(ic 1)]:Ls) (fun c d e=>(a0  (fun f=>(a2 f ([(ic 0),(ic 1)]:Ls) c d (fun g h=>(a0  (fun i=>(a1 i ([(ic 1),(ic 0)]:Ls) (fun j k l=>(a0  (fun m=>(a2 m ([(ic 1),(ic 0)]:Ls) j k (fun o p=>(a0  (fun q=>(a3 q (fun r s t u=>(a0  (fun v=>(a2 v ([(ic 0),(ic 1)]:Ls) 1 2 (fun w z=>(a4 4 (fun A B=>(jn (fun (a:Bool→Prop)=>(aB (e==0) (aB ((c==2)&&((d==5)&&true)) (aB (h==0) (a5 g ([(.agg [(ic 8),(ic 5)]),(.agg [(ic A),(ic B)])]:Ls) (fun C=>(aB C (aB (l==0) (aB ((j==3)&&((k==5)&&true)) (aB (p==0) (a5 o ([(.agg [(ic 8),(ic 5)]),(.agg [(ic A),(ic B)])]:Ls) (fun D=>(aB D (aB (u==0) (aB ((s==j)&&((t==k)&&true)) (a6 r ([(ic 1),(ic 0)]:Ls) (fun E=>(aB E (a (z==6)) (a false)))) (a false)) (a false)) (a false)))) (a false)) (a false)) (a false)) (a false)))) (a false)) (a false)) (a false))) K)))))))))))))))))))))))))))
def Ar:GQ:=WU yx8 ycM ybx JZ BI yee Gt
def WV:Sg:=⟨lN,Bool→Prop,fun K=>(fun r0=>K (.bool r0))⟩
def yFG (e:Es) (a0:WS) (a1:BF) (a2:qT) (a3:ju) (a4:bN) (a5 a6:fC):SE:=sE (E e) [(Mp,WT.pw a0),(IC,NX.pw a1),(Fs,JX.pw a2),(Fu,jv.pw a3),(IE,iX.pw a4),(MH,mW.pw a5),(MI,mW.pw a6)] eC
theorem yFH (e:Es) (a0 a1 a2 a3 a4 a5 a6):bU (yFG e a0 a1 a2 a3 a4 a5 a6) 6 X2 WV (WU a0 a1 a2 a3 a4 a5 a6):=fun _ _=>by kernel_rfl
theorem yFI (e:Es) (he:EG e):zG (E e) (WV.pw Ar) MJ:=bW he (yFH e _ _ _ _ _ _ _) (bF (aM.solo _) ⟨(bC.solo (yIW e he)),(jo e he),(NY e he),(jw e he),(bC.solo (lh e he)),(bC.solo (kz e he)),(bC.solo (gj e he)),trivial⟩ trivial he.ok) bE.flat (aR (by kernel_rfl))
def GR (a0:fC) (a1:GQ) (a2:jJ) (a3:BF) (a4:qT) (a5:GB) (a6:GD) (a7:bN) (a8:eJ) (a9:cT) (x0:Ls→Ls→Ls→Int→Int→Ls→Int→Ls→Int→Int→Int→Bool→Prop) (x1:Bool→Prop):Nat→Ls→Ls→Ls→Int→Int→Ls→Int→Ls→Int→Int→Int→Prop
 | 0,_,_,_,_,_,_,_,_,_,_,_=>False
 | n+1,b,c,d,e,f,g,h,i,j,k,l=>
 (aB (decide (l<(((length c):Nat):Int))) (asr (decide (0≤l)) (asr (decide (l<(((length c):Nat):Int))) (lt (getD c (l.toNat) .nils) (fun m=>(asr (aG zI m) (asr (decide (0≤(aK m))) (asr (decide ((aK m)<(((length b):Nat):Int))) (lt (getD b ((aK m).toNat) .nils) (fun o=>(asr (aG zK o) (a8 (aK (aP o 0)) (bQ (aP o 1)) (bQ (aP o 2)) (fun p=>(a7 p (fun q r=>(a9 e f q r (fun s t u=>(jn (fun (a:Bool→Prop)=>(aB (u !=0) (a true) (asr (decide (0≤(aK m))) (asr (decide ((aK m)<(((length i):Nat):Int))) (lt (getD i ((aK m).toNat) .nils) (fun v=>(asr (aG zD v) (aB ((((length (bQ v)):Nat):Int) !=(((length b):Nat):Int)) (a true) (asr (decide (0≤(aK m))) (asr (decide ((aK m)<(((length i):Nat):Int))) (lt (getD i ((aK m).toNat) .nils) (fun w=>(asr (aG zD w) (asr (decide (0≤(aK m))) (asr (decide ((aK m)<(((length (bQ w)):Nat):Int))) (lt (getD (bQ w) ((aK m).toNat) .nils) (fun z=>(asr (aG z2 z) (aB (!(((aK (aP z 0))==s)&&(((aK (aP z 1))==t)&&true))) (a true) (asr (decide (0≤(aK m))) (asr (decide ((aK m)<(((length d):Nat):Int))) (lt (getD d ((aK m).toNat) .nils) (fun A=>(asr (aG zD A) (aB ((((length (bQ A)):Nat):Int) !=1) (a true) (asr (decide (0≤(aK m))) (asr (decide ((aK m)<(((length d):Nat):Int))) (lt (getD d ((aK m).toNat) .nils) (fun B=>(asr (aG zD B) (asr (decide (0<(((length (bQ B)):Nat):Int))) (lt (getD (bQ B) 0 .nils) (fun C=>(asr (aG z4 C) (asr (decide (0≤l)) (asr (decide (l<(((length g):Nat):Int))) (lt (getD g (l.toNat) .nils) (fun D=>(asr (aG z2 D) (a (!(((aK (aP C 0))==j)&&(((aK (aP C 1))==k)&&(((aK (aP C 2)) ==(aK (aP D 0)))&&(((aK (aP C 3)) ==(aK (aP D 1)))&&true))))))))))))))))))))))))))))))))))))))))))))) (fun v=>(aB v (x1 false) (asr (decide (0≤l)) (asr (decide (l<(((length g):Nat):Int))) (lt (getD g (l.toNat) .nils) (fun w=>(asr (aG z2 w) (lt (i64.wrap (l+1)) (fun z=>(GR a0 a1 a2 a3 a4 a5 a6 a7 a8 a9 x0 x1 n b c d e f g h i (aK (aP w 0)) (aK (aP w 1)) z))))))))))))))))))))))))))) (x0 b c d e f g h i j k l false))
def WX (a0:fC) (a1:GQ) (a2:jJ) (a3:BF) (a4:qT) (a5:GB) (a6:GD) (a7:bN) (a8:eJ) (a9:cT) (b c:Ls) (K:Bool→Prop):Prop:=
 (a0 b c (fun d=>(aB (!d) (a1  K) (a2 b c (fun e f=>(a3 b c (fun g h i=>(a4 b c g h (fun j k=>(a5 b e (fun l m o=>(jn (fun (a:Bool→Prop)=>(aB (f !=0) (a true) (aB (i !=0) (a true) (aB (k !=0) (a true) (aB (o !=0) (a true) (aB ((((length j):Nat):Int) !=(((length b):Nat):Int)) (a true) (a ((((length m):Nat):Int) !=(((length b):Nat):Int))))))))) (fun p=>(aB p (K false) (a6 b e 25 m (fun q r=>(jn (fun (x:Bool→Prop)=>(aB (r !=0) (x true) (aB (!q) (x true) (x ((((length e):Nat):Int) !=(((length b):Nat):Int)))))) (fun s=>(aB s (K false) (a7 0 (fun t u=>(∃ n:Nat,GR a0 a1 a2 a3 a4 a5 a6 a7 a8 a9 (fun v w z A B C D E F G H I=>(jn (fun (y:Bool→Prop)=>(asr (decide (0<(((length v):Nat):Int))) (lt (getD v 0 .nils) (fun J=>(asr (aG zK J) (a7 (aK (aP J 0)) (fun L M=>(aB ((F==L)&&((G==M)&&true)) (a1  y) (y false))))))))) K)) K n b c e g h j l m t u 0))))))))))))))))))))))
def Oa:fC:=WX BH Ar BG ycM ybx ydM Aq BI zX Dn
def yr3 (Q:Qx):Ls→Ls→Ls→Int→Int→Ls→Int→Ls→Int→Int→Int→Bool→Prop:=(fun b c d e f g h i j k l m=>Q (.exit 0) [(0,.v (.data b)),(1,.v (.data c)),(5,.box (.agg [(.data d)])),(7,.box (.agg [(ic e),(ic f)])),(9,.v (.data g)),(11,.box (.agg [(.int .u8 h),(.data i)])),(15,.box (.agg [(ic j),(ic k)])),(16,.v (ic l)),(106,.v (.bool m))] [])
def yr4 (Q:Qx):Bool→Prop:=(fun b=>Q .ret [(4,.v (.bool b))] [])
def lj (a0:fC) (a1:GQ) (a2:jJ) (a3:BF) (a4:qT) (a5:GB) (a6:GD) (a7:bN) (a8:eJ) (a9:cT) (Q:Qx):List St:=[⟨(pS hN (fV 0 vD (fV 1 vD (fX 5 (vA vC) (fX 7 mP (fV 9 vD (fX 11 Ap (fX 15 mP (fV 16 cX fN)))))))) fN),GR a0 a1 a2 a3 a4 a5 a6 a7 a8 a9 (yr3 Q) (yr4 Q)⟩]
def lk (a0:fC) (a1:GQ) (a2:jJ) (a3:BF) (a4:qT) (a5:GB) (a6:GD) (a7:bN) (a8:eJ) (a9:cT):LP:=fO [(50940800,lj a0 a1 a2 a3 a4 a5 a6 a7 a8 a9)]
def WY (a0:fC) (a1:GQ) (a2:jJ) (a3:BF) (a4:qT) (a5:GB) (a6:GD) (a7:bN) (a8:eJ) (a9:cT):SE:=sE (E cC) [(Mo,mW.pw a0),(MJ,WV.pw a1),(MK,Wx.pw a2),(IC,NX.pw a3),(Fs,JX.pw a4),(MN,Wa.pw a5),(MO,Wd.pw a6),(IE,iX.pw a7),(MP,pK.pw a8),(MU,gF.pw a9)] (lk a0 a1 a2 a3 a4 a5 a6 a7 a8 a9)
theorem lm:SEOk (gN (E cC)) (WY BH Ar BG ycM ybx ydM Aq BI zX Dn):=bF (aM.solo _) ⟨(bC.solo (lc cC cG)),(yFI cC cG),(ka cC cG),(jo cC cG),(NY cC cG),(bC.solo iz),(bC.solo ji),(bC.solo (lh cC cG)),(bC.solo (fk cC cG)),(bC.solo (yIQ cC cG)),trivial⟩ trivial cG.ok
theorem yqT (a0 a1 a2 a3 a4 a5 a6 a7 a8 a9):dT (WY a0 a1 a2 a3 a4 a5 a6 a7 a8 a9) 5 a Tu false (lj a0 a1 a2 a3 a4 a5 a6 a7 a8 a9):=fun _=>⟨fun _=>by kernel_rfl,fun _ _=>by kernel_rfl,trivial⟩
theorem yqU:dU (gN (E cC)) (lk BH Ar BG ycM ybx ydM Aq BI zX Dn) [] 50940800 (.loop 50940800 Tu):=fun _ _ _=>bV.st (aM.solo _) (cY (lm) 5) (cS.no _ _) (aR (by kernel_rfl)) (yqT _ _ _ _ _ _ _ _ _ _ _)
theorem yx9 (a0 a1 a2 a3 a4 a5 a6 a7 a8 a9):bU (WY a0 a1 a2 a3 a4 a5 a6 a7 a8 a9) 6 Tt mW (WX a0 a1 a2 a3 a4 a5 a6 a7 a8 a9):=fun _ _=>by kernel_rfl
theorem yya:zG (E cC) (mW.pw Oa) QN:=bW cG (yx9 _ _ _ _ _ _ _ _ _ _) (lm) bE.flat (dI (l:=[(50940800,.loop 50940800 Tu)]) ⟨yqU,trivial⟩ (by kernel_rfl))
set_option linter.unusedVariables false
theorem yHf (p0 p1:Ls) (r0:Bool) (h:∀ K:Bool→Prop,K r0→BH p0 p1 K) (K:Bool→Prop):BH p0 p1 K=K r0:=
 Aab ⟨fun k=>cA (lc [] fI) (az:=[(.data p0),(.data p1)]) (x:=(.bool r0)) (fun K' k'=>h (fun r0=>K' (.bool r0)) k') (K:=fun x=>match x with | (.bool r0)=>K r0 | _=>False) k,h K⟩
def cB (n:Int):Prop:=-9223372036854775808≤n∧n≤9223372036854775807
def iC (n:Int):Prop:=0≤n∧n≤18446744073709551615
theorem As (n:Int):u64.wrap n=n%18446744073709551616:=by simp only [IntKind.wrap,IntKind.signed,IntKind.bits,kU,gL,if_false];rfl
theorem yRQ (n:Int):i64.wrap n=if n%18446744073709551616≥9223372036854775808 then n%18446744073709551616-18446744073709551616 else n%18446744073709551616:=by
 have e1:(2:Int) ^ 64=18446744073709551616:=rfl;have e2:(2:Int) ^ (64-1)=9223372036854775808:=rfl;simp only [IntKind.wrap,IntKind.signed,IntKind.bits,jK,e1,e2]
 by_cases h:n%18446744073709551616≥9223372036854775808<;>simp [h]
theorem aT {n:Int} (h:iC n):u64.wrap n=n:=by unfold iC at h;rw [As];omega
theorem fP {n:Int} (h:cB n):i64.wrap n=n:=by unfold cB at h;rw [yRQ];split<;>omega
theorem aX {x y:Prop}:aB true x y=x:=rfl
theorem aU {x y:Prop}:aB false x y=y:=rfl
theorem cZ {x:Prop}:asr true x=x:=rfl
theorem xR {p:Int} (h:cB p) (K:Int→Prop):Bu p K=K (p.natAbs:Int):=by
 unfold cB at h;unfold Bu Ty
 by_cases hp:p<0
 ·have e:u64.wrap ((0:Int)-u64.wrap p)=(p.natAbs:Int):=by
   rw [As,As];omega
  rw [Ef hp,aX,e]
 ·rw [Os hp,aU,aT ⟨by omega,by omega⟩];congr 1;omega
theorem ln (x:Int→Int→Bool→Prop):∀ (n a b:Nat),b<n→Js x n (a:Int) (b:Int)=x ((Nat.gcd a b:Nat):Int) 0 false
 | 0,a,b,h=>by omega
 | n+1,a,b,h=>by
  unfold Js
  by_cases hb:b=0
  ·subst hb;simp [aB]
  ·have h1:(b:Int)>0:=by omega
   have h2:¬((b:Int)=0):=by omega
   rw [Ef h1,aX,Os h2,qI,cZ];have e:Int.tmod (a:Int) (b:Int)=((a%b:Nat):Int):=by rw [Int.tmod_eq_emod_of_nonneg (by omega)];omega
   rw [e,ln x n b (a%b) (by have:=Nat.mod_lt a (show b>0 by omega);omega)];rw [tY a b,Nat.gcd_rec b a,tY]
theorem GS (a b:Nat) (K:Int→Prop) (h:K ((Nat.gcd a b:Nat):Int)):tF (a:Int) (b:Int) K:=by unfold tF Tz;exact ⟨b+1,by rw [ln _ (b+1) a b (by omega)];exact h⟩
def RV (n d:Int):Prop:=1≤d∧d≤1000000000000000000∧-1000000000000000000≤n∧n≤1000000000000000000∧Nat.gcd n.natAbs d.natAbs=1
instance (n d:Int):Decidable (RV n d):=by unfold RV;infer_instance
def lQ (n d:Int):Int:=if RV n d then 0 else 8
theorem WZ {n d:Int} (hn:cB n) (hd:cB d) {K:Int→Prop} (h:K (lQ n d)):nX n d K:=by
 unfold nX TB
 by_cases h1:d<1
 ·have e:lQ n d=8:=YR fun h=>by have:=h.1;omega
  rw [Ef h1,aX,← e];exact h
 ·have hd':=hd;have hn':=hn;unfold cB at hd' hn';have ed:u64.wrap d=((d.natAbs:Nat):Int):=by rw [aT ⟨by omega,by omega⟩];omega
  rw [Os h1,aU,xR hn,ed]
  by_cases h2:((if ((d.natAbs:Nat):Int)>((n.natAbs:Nat):Int) then ((d.natAbs:Nat):Int) else ((n.natAbs:Nat):Int))>1000000000000000000)
  ·have e:lQ n d=8:=YR fun h=>by
    obtain ⟨a1,a2,a3,a4,_⟩:=h;revert h2;split<;>omega
   rw [Ef h2,aX,← e];exact h
  ·rw [Os h2,aU,xR hn];refine GS _ _ _ ?_;have h3:0<Nat.gcd n.natAbs d.natAbs:=yA _ (by omega);have h4:d≤1000000000000000000∧-1000000000000000000≤n∧n≤1000000000000000000:=by
    revert h2;split<;>omega
   by_cases h5:((Nat.gcd n.natAbs d.natAbs:Nat):Int)>1
   ·have e:lQ n d=8:=YR fun h=>by have:=h.2.2.2.2;omega
    rw [Ef h5,aX,← e];exact h
   ·have e:lQ n d=0:=YQ ⟨by omega,h4.1,h4.2.1,h4.2.2,by omega⟩;rw [Os h5,aU,← e];exact h
theorem Au {p:Int} (h:iC p):u64.wrap (BitVec.ofInt u64.bits p&&&BitVec.ofInt u64.bits (4294967295:Int)).toNat=p%4294967296:=by
 unfold iC at h;have e1:(BitVec.ofInt 64 p).toNat=p.toNat:=by
  rw [BitVec.toNat_ofInt];omega
 have e2:(BitVec.ofInt 64 (4294967295:Int)).toNat=4294967295:=rfl;have e3:(BitVec.ofInt u64.bits p&&&BitVec.ofInt u64.bits (4294967295:Int)).toNat=p.toNat%4294967296:=by show (BitVec.ofInt 64 p&&&BitVec.ofInt 64 (4294967295:Int)).toNat=_;rw [BitVec.toNat_and,e1,e2];exact Nat.and_two_pow_sub_one_eq_mod p.toNat 32
 rw [e3,As];omega
theorem lq (p:Int):Int.fdiv p 4294967296=p/4294967296:=by rw [Int.fdiv_eq_ediv_of_nonneg _ (by omega)]
theorem DC {a b:Int} (ha:iC a) (hb:iC b) (K:Int→Int→Prop):zN a b K=K (a*b/18446744073709551616) (a*b%18446744073709551616):=by
 unfold zN TG;simp only [lq];rw [Au ha,Au hb];unfold iC at ha hb;have ha':=ha;have hb':=hb;obtain ⟨x1,hx1⟩:∃ x,x=a/4294967296:=⟨_,rfl⟩;obtain ⟨x0,hx0⟩:∃ x,x=a%4294967296:=⟨_,rfl⟩;obtain ⟨y1,hy1⟩:∃ x,x=b/4294967296:=⟨_,rfl⟩;obtain ⟨y0,hy0⟩:∃ x,x=b%4294967296:=⟨_,rfl⟩;rw [← hx1,← hx0,← hy1,← hy0];have b1:0≤x1∧x1≤4294967295:=by omega
 have b2:0≤x0∧x0≤4294967295:=by omega
 have b3:0≤y1∧y1≤4294967295:=by omega
 have b4:0≤y0∧y0≤4294967295:=by omega
 have pb:∀ x y:Int,0≤x∧x≤4294967295→0≤y∧y≤4294967295→0≤x*y∧x*y≤18446744065119617025:=by intro x y hx hy;refine ⟨lO hx.1 hy.1,?_⟩;have:=jZ hx.2 hy.2 hy.1 (by omega:(0:Int)≤4294967295);omega
 have p1:=pb x1 y1 b1 b3;have p2:=pb x1 y0 b1 b4;have p3:=pb x0 y1 b2 b3;have p4:=pb x0 y0 b2 b4;have ea:a=x1*4294967296+x0:=by omega
 have eb:b=y1*4294967296+y0:=by omega
 have eab:a*b=x1*y1*18446744073709551616+x1*y0*4294967296+x0*y1*4294967296+x0*y0:=by rw [ea,eb];grind
 obtain ⟨P,hP⟩:∃ x,x=x1*y1:=⟨_,rfl⟩;obtain ⟨Q,hQ⟩:∃ x,x=x1*y0:=⟨_,rfl⟩;obtain ⟨R,hR⟩:∃ x,x=x0*y1:=⟨_,rfl⟩;obtain ⟨S,hS⟩:∃ x,x=x0*y0:=⟨_,rfl⟩;rw [← hP] at p1;rw [← hQ] at p2;rw [← hR] at p3;rw [← hS] at p4;rw [← hP,← hQ,← hR,← hS] at eab ⊢;have w1:u64.wrap S=S:=aT ⟨by omega,by omega⟩;have w2:u64.wrap Q=Q:=aT ⟨by omega,by omega⟩;have w3:u64.wrap R=R:=aT ⟨by omega,by omega⟩;have w4:u64.wrap P=P:=aT ⟨by omega,by omega⟩;rw [w1,w2,w3,w4];have w5:u64.wrap (Q+S/4294967296)=Q+S/4294967296:=aT ⟨by omega,by omega⟩;rw [w5,Au ⟨by omega,by omega⟩];have w6:u64.wrap ((Q+S/4294967296)%4294967296+R)=(Q+S/4294967296)%4294967296+R:=aT ⟨by omega,by omega⟩;rw [w6];have w7:u64.wrap (P+(Q+S/4294967296)/4294967296)=P+(Q+S/4294967296)/4294967296:=by
  have:a*b/18446744073709551616≤18446744073709551615:=by
   have h1:a*b≤18446744073709551615*18446744073709551615:=by have:=jZ ha'.2 hb'.2 hb'.1 (by omega:(0:Int)≤18446744073709551615);exact this
   omega
  exact aT ⟨by omega,by omega⟩
 rw [w7];have hab:a*b≤18446744073709551615*18446744073709551615:=jZ ha'.2 hb'.2 hb'.1 (by omega:(0:Int)≤18446744073709551615);rw [eab] at hab ⊢;rw [As,As];congr 1;omega
theorem yQz {a b:Int} {K:Int→Prop} (h:K (if a=0 then b else a)):Nt [.int .i64 a,.int .i64 b] K:=by
 unfold Nt TD;refine ⟨3,?_⟩;have e1:i64.wrap 1=1:=by decide
 have e2:i64.wrap 2=2:=by decide
 by_cases ha:a=0
 ·by_cases hb:b=0
  ·simp [FY,aX,aU,cZ,aG,sY,aK,e1,e2,ha,hb] at h ⊢;exact h
  ·have e3:(b !=0)=true:=by simpa using hb
   simp [FY,aX,aU,cZ,aG,sY,aK,e1,e2,ha,e3] at h ⊢;exact h
 ·have e3:(a !=0)=true:=by simpa using ha
  simp [FY,aX,aU,cZ,aG,sY,aK,e1,e2,ha,e3] at h ⊢;exact h
def cJ (a b c d:Int):Int:=if lQ a b=0 then lQ c d else lQ a b
theorem Ka {a b c d:Int} (ha:cB a) (hb:cB b) (hc:cB c) (hd:cB d) {K:Int→Prop} (h:K (cJ a b c d)):Bv a b c d K:=by unfold Bv TF;exact WZ ha hb (WZ hc hd (yQz h))
def iH (a b:Int):Int:=if a<b then -1 else if a>b then 1 else 0
theorem yFJ (a b:Int) (K:Int→Prop):Ny a b K=K (iH a b):=by
 unfold Ny TX;simp only [TW,TV,bne_self_eq_false,aU,iH]
 by_cases h:a<b
 ·simp [h,aX]
 ·by_cases h2:a>b
  ·simp [h,h2,aX,aU]
  ·simp [h,h2,aU]
theorem lr (a b:Int) (K:Int→Prop):Nz a b K=K (iH a b):=by
 unfold Nz Uc;simp only [Ua,TZ,bne_self_eq_false,aU,iH]
 by_cases h:a<b
 ·simp [h,aX]
 ·by_cases h2:a>b
  ·simp [h,h2,aX,aU]
  ·simp [h,h2,aU]
theorem yOP {a b:Int} {K:Int→Prop} (h:K (if a=0 then b else a)):NA [.int .i64 a,.int .i64 b] K:=by
 unfold NA Ue;refine ⟨3,?_⟩;have e1:i64.wrap 1=1:=by decide
 have e2:i64.wrap 2=2:=by decide
 by_cases ha:a=0
 ·by_cases hb:b=0
  ·simp [Gb,aX,aU,cZ,aG,sY,aK,e1,e2,ha,hb] at h ⊢;exact h
  ·have e3:(b !=0)=true:=by simpa using hb
   simp [Gb,aX,aU,cZ,aG,sY,aK,e1,e2,ha,e3] at h ⊢;exact h
 ·have e3:(a !=0)=true:=by simpa using ha
  simp [Gb,aX,aU,cZ,aG,sY,aK,e1,e2,ha,e3] at h ⊢;exact h
theorem tO {a b c d:Int}:cJ a b c d=0↔RV a b∧RV c d:=by
 unfold cJ lQ
 by_cases h1:RV a b<;>by_cases h2:RV c d<;>simp [h1,h2]
def pO (a b c d:Int):Int:=iH (a*d) (c*b)
theorem yLn {x y:Int} (hx:0≤x) (hy:0≤y):(if iH (x/18446744073709551616) (y/18446744073709551616)=0 then iH (x%18446744073709551616) (y%18446744073709551616) else iH (x/18446744073709551616) (y/18446744073709551616))=iH x y:=by unfold iH;split<;>rename_i h<;>revert h<;>repeat' split<;>intro h<;>omega
theorem iC.abs {n:Int} (h:cB n):iC ((n.natAbs:Nat):Int):=by unfold cB at h;unfold iC;omega
theorem lu {a b c d:Int} (ha:cB a) (hb:cB b) (hc:cB c) (hd:cB d) {K:Int→Int→Prop} (h:K (if cJ a b c d=0 then pO a b c d else 0) (cJ a b c d)):tG a b c d K:=by
 unfold tG Ug;refine Ka ha hb hc hd ?_
 by_cases hk:cJ a b c d=0
 ·rw [YQ hk] at h;rw [hk] at h ⊢;obtain ⟨⟨b1,b2,a1,a2,_⟩,d1,d2,c1,c2,_⟩:=tO.1 hk;simp only [bne_self_eq_false,aU]
  by_cases hs:decide (a<0)=decide (c<0)
  ·have e:(decide (a<0) !=decide (c<0))=false:=by rw [hs];simp
   rw [e,aU,xR ha,aT ⟨by omega,by omega⟩,DC (iC.abs ha) ⟨by omega,by omega⟩,xR hc,aT ⟨by omega,by omega⟩,DC (iC.abs hc) ⟨by omega,by omega⟩,lr,lr];refine yOP ?_;have p1:0≤((a.natAbs:Nat):Int)*d:=lO (by omega) (by omega);have p2:0≤((c.natAbs:Nat):Int)*b:=lO (by omega) (by omega);rw [yLn p1 p2]
   by_cases hneg:a<0
   ·have hcn:c<0:=by simpa [hneg] using hs.symm
    rw [Ef hneg,aX];have e1:((a.natAbs:Nat):Int)*d=-(a*d):=by
     rw [show ((a.natAbs:Nat):Int)=-a by omega,Int.neg_mul]
    have e2:((c.natAbs:Nat):Int)*b=-(c*b):=by rw [show ((c.natAbs:Nat):Int)=-c by omega,Int.neg_mul]
    have e3:i64.wrap (0-iH (((a.natAbs:Nat):Int)*d) (((c.natAbs:Nat):Int)*b))=pO a b c d:=by
     rw [e1,e2];unfold pO iH;rw [fP (by unfold cB;repeat' split<;>omega)]
     repeat' split<;>omega
    rw [e3];exact h
   ·have hcn:¬c<0:=by simpa [hneg] using hs.symm
    rw [Os hneg,aU,show ((a.natAbs:Nat):Int)=a by omega,show ((c.natAbs:Nat):Int)=c by omega];exact h
  ·have e:(decide (a<0) !=decide (c<0))=true:=by simpa using hs
   rw [e,aX,yFJ];have e2:iH a c=pO a b c d:=by
    unfold pO iH
    by_cases hneg:a<0
    ·have hcn:¬c<0:=by intro hcn;simp [hneg,hcn] at hs
     have q1:a*d<0:=Hw hneg (by omega);have q2:0≤c*b:=lO (by omega) (by omega);rw [YQ (by omega),YQ (by omega)]
    ·have hcn:c<0:=by
      by_cases hcn:c<0
      ·exact hcn
      ·simp [hneg,hcn] at hs
     have q1:c*b<0:=Hw hcn (by omega);have q2:0≤a*d:=lO (by omega) (by omega);rw [YR (by omega),YQ (by omega),YR (by omega),YQ (by omega)]
   rw [e2];exact h
 ·rw [YR hk] at h;have e:(cJ a b c d !=0)=true:=by simpa using hk
  rw [e,aX];exact h
def blen (x:Nat):Nat:=if x=0 then 0 else x.log2+1
theorem lv (x:Nat):x<2 ^ blen x:=by
 unfold blen;split
 ·rename_i h;subst h;decide
 ·exact Nat.lt_log2_self
theorem Ob {x:Nat} (h:x≠0):2 ^ (blen x-1)≤x:=by unfold blen;rw [YR h];exact Nat.log2_self_le h
theorem yOQ {x m:Nat} (h1:2 ^ m≤x) (h2:x<2 ^ (m+1)):blen x=m+1:=by
 have hx:x≠0:=by have:=Nat.two_pow_pos m;omega
 unfold blen;rw [YR hx];congr 1;have a:=Nat.log2_self_le hx;have b:=Nat.lt_log2_self (n:=x);have c1:¬(x.log2<m):=fun h=>by
  have:=Hz (show 0<2 by omega) (show x.log2+1≤m by omega);omega
 have c2:¬(m<x.log2):=fun h=>by
  have:=Hz (show 0<2 by omega) (show m+1≤x.log2 by omega);omega
 omega
theorem yMP {x k:Nat} (h:2 ^ k≤x):blen x=k+blen (x/2 ^ k):=by
 have hp:=Nat.two_pow_pos k;have hq:x/2 ^ k≠0:=by have:=Nat.div_pos h hp;omega
 have h1:=Ob hq;have h2:=lv (x/2 ^ k);obtain ⟨m,hm⟩:∃ m,blen (x/2 ^ k)=m+1:=⟨blen (x/2 ^ k)-1,by
  have:blen (x/2 ^ k)≠0:=by unfold blen;rw [YR hq];omega
  omega⟩
 rw [hm] at h1 h2 ⊢;rw [Nat.add_sub_cancel] at h1;have:=yOQ (x:=x) (m:=k+m) (by
   rw [Nat.pow_add]
   calc 2 ^ k*2 ^ m≤2 ^ k*(x/2 ^ k):=Nat.mul_le_mul_left _ h1
    _≤x:=Nat.mul_div_le _ _) (by
   rw [show k+m+1=k+(m+1) by omega,Nat.pow_add];rw [Nat.mul_comm];exact (Nat.div_lt_iff_lt_mul hp).1 h2)
 omega
theorem yQA:∀ x:Nat,x<256→aK (getD uO x .nils)=(blen x:Int):=by decide +kernel
theorem lw {n:Int} (h0:0≤n) (h1:n<256):u8.wrap n=n:=by have e1:(2:Int) ^ 8=256:=rfl;simp only [IntKind.wrap,IntKind.signed,IntKind.bits,kU,gL,if_false,e1];omega
theorem yOR {n:Int} (h0:0≤n) (h1:n<256):aK (getD uO (u8.wrap n).toNat .nils)=(blen n.toNat:Int):=by rw [lw h0 h1];exact yQA n.toNat (by omega)
theorem yRR {n:Nat} (h:n<256):blen n≤8:=by
 by_cases h0:n=0
 ·subst h0;decide
 ·have:=Ob h0;have h2:blen n-1<8:=by
   refine Nat.lt_of_not_le fun hc=>?_
   have:=Hz (show 0<2 by omega) hc;omega
  omega
theorem BJ {n k:Int} (h0:0≤n) (h1:n<256) (hk:0≤k∧k≤56) {m:Int} (hm:m=k+blen n.toNat) {K:Int→Prop} (h:K m) :
  asr (decide ((0:Int)≤(u8.wrap n))) (asr (decide ((u8.wrap n)<(256:Int))) (K (i64.wrap (k+(i64.wrap (aK (getD uO ((u8.wrap n).toNat) .nils))))))):=by
 have hb:=yRR (n:=n.toNat) (by omega);have e1:i64.wrap (blen n.toNat:Int)=blen n.toNat:=fP (by unfold cB;omega);have e2:i64.wrap (k+blen n.toNat:Int)=k+blen n.toNat:=fP (by unfold cB;omega);rw [yOR h0 h1,lw h0 h1,Ef h0,cZ,Ef h1,cZ,e1,e2,← hm];exact h
theorem DD (p q:Int) (hq:0≤q):Int.fdiv p q=p/q:=Int.fdiv_eq_ediv_of_nonneg _ hq
theorem yMQ {p:Int} (hp:iC p) {K:Int→Prop} (h:K (blen p.toNat:Int)):Nq p K:=by
 unfold iC at hp;unfold Nq Tv;simp only [DD _ 4294967296 (by omega),DD _ 65536 (by omega),DD _ 256 (by omega)];have key:∀ (k:Nat) (q:Int),2 ^ k≤p.toNat→q=p/(2 ^ k:Nat)→(blen p.toNat:Int)=k+blen q.toNat:=by
  intro k q hk hq;have e:q.toNat=p.toNat/2 ^ k:=by
   rw [hq];obtain ⟨m,rfl⟩:∃ m:Nat,p=m:=⟨p.toNat,by omega⟩;rw [← rD,cH,cH]
  rw [e];have:=yMP hk;omega
 by_cases h1:p≥4294967296
 ·rw [Ef h1,aX]
  by_cases h2:p/4294967296≥65536
  ·rw [Ef h2,aX]
   by_cases h3:p/4294967296/65536≥256
   ·rw [Ef h3,aX];exact BJ (by omega) (by omega) (by omega) (key 56 _ (by omega) (by omega)) h
   ·rw [Os h3,aU];exact BJ (by omega) (by omega) (by omega) (key 48 _ (by omega) (by omega)) h
  ·rw [Os h2,aU]
   by_cases h3:p/4294967296≥256
   ·rw [Ef h3,aX];exact BJ (by omega) (by omega) (by omega) (key 40 _ (by omega) (by omega)) h
   ·rw [Os h3,aU];exact BJ (by omega) (by omega) (by omega) (key 32 _ (by omega) (by omega)) h
 ·rw [Os h1,aU]
  by_cases h2:p≥65536
  ·rw [Ef h2,aX]
   by_cases h3:p/65536≥256
   ·rw [Ef h3,aX];exact BJ (by omega) (by omega) (by omega) (key 24 _ (by omega) (by omega)) h
   ·rw [Os h3,aU];exact BJ (by omega) (by omega) (by omega) (key 16 _ (by omega) (by omega)) h
  ·rw [Os h2,aU]
   by_cases h3:p≥256
   ·rw [Ef h3,aX];exact BJ (by omega) (by omega) (by omega) (key 8 _ (by omega) (by omega)) h
   ·rw [Os h3,aU];exact BJ (by omega) (by omega) (by omega) (by simp) h
theorem ywn {p:Int} (hp:iC p) {K:Int→Prop} (h:K (64-blen p.toNat:Int)):Bw p K:=by
 unfold Bw TI;refine yMQ hp ?_;have hb:blen p.toNat≤64:=by
  unfold iC at hp
  by_cases h0:p.toNat=0
  ·rw [h0];decide
  ·have:=Ob h0;have h2:blen p.toNat-1<64:=by
    refine Nat.lt_of_not_le fun hc=>?_
    have:=Hz (show 0<2 by omega) hc;omega
   omega
 rw [fP (by unfold cB;omega)];exact h
structure DI (y a b u un q r:Int):Prop where
 hy:y=a*4294967296+b
 h1:2147483648≤a∧a≤4294967295
 h0:0≤b∧b≤4294967295
 hn:0≤un∧un≤4294967295
 hu:q*a+r=u
 hq:0≤q∧q≤4294967297
 hr:0≤r∧r≤4294967295
 hlt:u<y
 hU:u*4294967296+un<(q+1)*y
def DG (y u un q:Int):Prop:=0≤q∧q≤4294967295∧q*y≤u*4294967296+un∧u*4294967296+un<(q+1)*y
theorem DI.step {y a b u un q r:Int} (h:DI y a b u un q r) {A B C:Prop}
  (hA:DG y u un (q-1)→0≤q-1→q-1≤4294967296→A)
  (hB:DI y a b u un (q-1) (r+a)→B)
  (hC:DG y u un q→C) :
  aB (decide (q≥(4294967296:Int)))
   (aB (decide ((u64.wrap (r+a))≥(4294967296:Int))) A B)
   (aB (decide ((u64.wrap (q*b))>(u64.wrap ((u64.wrap ((4294967296:Int)*r))+un))))
    (aB (decide ((u64.wrap (r+a))≥(4294967296:Int))) A B) C):=by
 have h':=h;obtain ⟨hy,h1,h0,hn,hu,hq,hr,hlt,hU⟩:=h;have e1:u64.wrap (r+a)=r+a:=aT ⟨by omega,by omega⟩;have eq1:q*y=q*a*4294967296+q*b:=by rw [hy];grind
 have eq2:(q-1)*y=q*y-y:=by grind
 have eq3:(q-1)*a=q*a-a:=by grind
 have eq4:(q-1+1)*y=q*y:=by grind
 have eq5:(q-1)*b=q*b-b:=by grind
 have big:u*4294967296+un<q*y→aB (decide ((u64.wrap (r+a))≥(4294967296:Int))) A B:=by
  intro hb;have q1:0≤q-1:=by
   refine Int.not_lt.1 fun hc=>?_
   have hq0:q=0:=by omega
   subst hq0;simp at hb hu;omega
  rw [e1]
  by_cases hc:r+a≥4294967296
  ·rw [Ef hc,aX];have hp:(q-1)*b≤4294967296*4294967295:=jZ (by omega) h0.2 h0.1 (by omega);have hle:(q-1)*y≤u*4294967296+un:=by
    have:(q-1)*y=(q-1)*a*4294967296+(q-1)*b:=by rw [hy];grind
    omega
   have hlt32:q-1≤4294967295:=by
    refine Int.not_lt.1 fun hc=>?_
    have:4294967296*y≤(q-1)*y:=BZ (by omega) (by omega);omega
   exact hA ⟨q1,hlt32,hle,by rw [eq4];exact hb⟩ q1 (by omega)
  ·rw [Os hc,aU];exact hB ⟨hy,h1,h0,hn,by rw [eq3];omega,⟨q1,by omega⟩,⟨by omega,by omega⟩,hlt,by rw [eq4];exact hb⟩
 by_cases ha:q≥4294967296
 ·rw [Ef ha,aX];refine big ?_;have:4294967296*y≤q*y:=BZ (by omega) (by omega);omega
 ·rw [Os ha,aU];have hp:q*b≤4294967295*4294967295:=jZ (by omega) h0.2 h0.1 (by omega);have hp0:0≤q*b:=lO hq.1 h0.1;have w1:u64.wrap (q*b)=q*b:=aT ⟨hp0,by omega⟩;have w2:u64.wrap ((4294967296:Int)*r)=4294967296*r:=aT ⟨by omega,by omega⟩;have w3:u64.wrap ((4294967296:Int)*r+un)=4294967296*r+un:=aT ⟨by omega,by omega⟩;rw [w1,w2,w3]
  by_cases hb:q*b>4294967296*r+un
  ·rw [Ef hb,aX];exact big (by omega)
  ·rw [Os hb,aU];exact hC ⟨hq.1,by omega,by omega,hU⟩
theorem yRS (W:Int→(Int→Prop)→Prop) {y a c u un:Int} (s v un0:Int) {x0 x1:Int→Int→Int→Int→Int→Int→Int→Int→Int→Bool→Prop}
  (hx:∀ q r b,DG y u un q→x0 y s a c v un un0 q r b) (hx1:∀ q r b,DG y u un q→x1 y s a c v un un0 q r b) :
  ∀ (n:Nat) (q r:Int) (b:Bool),DI y a c u un q r→4294967296≤r+n*2147483648→Bx W x0 x1 (n+1) y s a c v un un0 q r b:=by
 intro n;induction n with
 | zero =>intro q r b h hn;have:=h.hr.2;exact absurd hn (by omega)
 | succ n ih=>
  intro q r b h hn;unfold Bx;refine h.step (fun g a1 a2=>?_) (fun g=>?_) (fun g=>hx1 _ _ _ g)
  ·rw [aT (n:=q-1) ⟨by omega,by omega⟩];exact hx _ _ _ g
  ·have e1:u64.wrap (q-1)=q-1:=aT ⟨g.hq.1,by have:=g.hq.2;omega⟩;have e2:u64.wrap (r+a)=r+a:=aT ⟨g.hr.1,by have:=g.hr.2;omega⟩;rw [e1,e2];exact ih _ _ _ g (by have:=h.h1.1;omega)
theorem yRT (W:Int→(Int→Prop)→Prop) {y a c u un:Int} (s q1 v:Int) {x0 x1:Int→Int→Int→Int→Int→Int→Int→Int→Int→Bool→Prop}
  (hx:∀ q r b,DG y u un q→x0 y s a c un q1 r v q b) (hx1:∀ q r b,DG y u un q→x1 y s a c un q1 r v q b) :
  ∀ (n:Nat) (q r:Int) (b:Bool),DI y a c u un q r→4294967296≤r+n*2147483648→By W x0 x1 (n+1) y s a c un q1 r v q b:=by
 intro n;induction n with
 | zero =>intro q r b h hn;have:=h.hr.2;exact absurd hn (by omega)
 | succ n ih=>
  intro q r b h hn;unfold By;refine h.step (fun g a1 a2=>?_) (fun g=>?_) (fun g=>hx1 _ _ _ g)
  ·rw [aT (n:=q-1) ⟨by omega,by omega⟩];exact hx _ _ _ g
  ·have e1:u64.wrap (q-1)=q-1:=aT ⟨g.hq.1,by have:=g.hq.2;omega⟩;have e2:u64.wrap (r+a)=r+a:=aT ⟨g.hr.1,by have:=g.hr.2;omega⟩;rw [e1,e2];exact ih _ _ _ g (by have:=h.h1.1;omega)
theorem yQB (W:Int→(Int→Prop)→Prop) {y a c u un:Int} (s v un0:Int) {x0 x1:Int→Int→Int→Int→Int→Int→Int→Int→Int→Bool→Prop}
  (hx:∀ q r b,DG y u un q→x0 y s a c v un un0 q r b) (hx1:∀ q r b,DG y u un q→x1 y s a c v un un0 q r b) (q r:Int) (h:DI y a c u un q r):Nu W x0 x1 3 y s a c v un un0 q r:=by
 have:=yRS W s v un0 hx hx1 2 q r true h (by have:=h.hr.1;omega);unfold Bx at this;unfold Nu;exact this
theorem yQC (W:Int→(Int→Prop)→Prop) {y a c u un:Int} (s q1 v:Int) {x0 x1:Int→Int→Int→Int→Int→Int→Int→Int→Int→Bool→Prop}
  (hx:∀ q r b,DG y u un q→x0 y s a c un q1 r v q b) (hx1:∀ q r b,DG y u un q→x1 y s a c un q1 r v q b) (q r:Int) (h:DI y a c u un q r):FZ W x0 x1 3 y s a c un q1 r v q:=by
 have:=yRT W s q1 v hx hx1 2 q r true h (by have:=h.hr.1;omega);unfold By at this;unfold FZ;exact this
theorem DI.init {y a b u un:Int} (hy:y=a*4294967296+b) (h1:2147483648≤a∧a≤4294967295) (h0:0≤b∧b≤4294967295) (hn:0≤un∧un≤4294967295)
  (hu:0≤u) (hlt:u<y):DI y a b u un (u/a) (u-u/a*a):=by
 have a1:=Int.mul_ediv_add_emod u a;have a2:=Int.emod_nonneg u (show a≠0 by omega);have a3:=Int.emod_lt_of_pos u (show 0<a by omega);have a4:u/a*a=a*(u/a):=yK _ _;have a5:0≤u/a:=Ek hu (by omega);have a6:u/a≤4294967297:=by
  refine Int.not_lt.1 fun hc=>?_
  have:a*4294967298≤a*(u/a):=Ed (by omega) (by omega);omega
 refine ⟨hy,h1,h0,hn,by omega,⟨a5,a6⟩,⟨by omega,by omega⟩,hlt,?_⟩;have e:(u/a+1)*y=a*(u/a)*4294967296+a*4294967296+(u/a+1)*b:=by
  obtain ⟨t,ht⟩:∃ t,t=u/a:=⟨_,rfl⟩;rw [← ht,hy];grind
 have:0≤(u/a+1)*b:=lO (by omega) h0.1;omega
theorem lz {a b:Int} {k:Nat} (ha:0≤a) (hb:0≤b∧b<2 ^ k) (hab:a*2 ^ k≤18446744073709551615∧b≤18446744073709551615) (hs:a*2 ^ k+b≤18446744073709551615) :
  u64.wrap (BitVec.ofInt u64.bits (a*2 ^ k)|||BitVec.ofInt u64.bits b).toNat=a*2 ^ k+b:=by
 obtain ⟨x,rfl⟩:∃ x:Nat,a=x:=⟨a.toNat,by omega⟩;obtain ⟨z,rfl⟩:∃ z:Nat,b=z:=⟨b.toNat,by omega⟩;have ec:((x:Int)*2 ^ k)=((2 ^ k*x:Nat):Int):=by push_cast;exact yK _ _
 rw [ec] at hab hs ⊢;have hz:z<2 ^ k:=by have:=hb.2;exact_mod_cast this
 have e:(BitVec.ofInt u64.bits ((2 ^ k*x:Nat):Int)|||BitVec.ofInt u64.bits (z:Int)).toNat=2 ^ k*x+z:=by
  show (BitVec.ofInt 64 ((2 ^ k*x:Nat):Int)|||BitVec.ofInt 64 (z:Int)).toNat=_;rw [BitVec.toNat_or,BitVec.toNat_ofInt,BitVec.toNat_ofInt];have e1:(((2 ^ k*x:Nat):Int)%(2 ^ 64:Nat)).toNat=2 ^ k*x:=by omega
  have e2:((z:Int)%(2 ^ 64:Nat)).toNat=z:=by omega
  rw [e1,e2,Nat.two_pow_add_eq_or_of_lt hz]
 rw [e,aT ⟨by omega,by omega⟩]
 push_cast;rfl
theorem mc {u un q y:Int} (h0:0≤u*4294967296+un-q*y) (h1:u*4294967296+un-q*y≤18446744073709551615) :
  u64.wrap (u64.wrap (u64.wrap (u*4294967296)+un)-u64.wrap (q*y))=u*4294967296+un-q*y:=by
 simp only [As];omega
theorem rU {a b:Int} (h:0≤a):Int.tdiv a b=a/b:=Int.tdiv_eq_ediv_of_nonneg h
theorem me {a b:Int} (h:0≤a):Int.tmod a b=a%b:=Int.tmod_eq_emod_of_nonneg h
theorem mf {h l y:Int} (hh:iC h) (hl:iC l) (hy:iC y) (hlt:h<y) {K:Int→Int→Prop}
  (k:K ((h*18446744073709551616+l)/y) ((h*18446744073709551616+l)%y)):Bz h l y K:=by
 unfold iC at hh hl hy;unfold Bz TJ;have b1:(y ==(0:Int))=false:=beq_eq_false_iff_ne.2 (by omega);have b2:decide (y≤h)=false:=Os (by omega);have b3:(!(decide (y=(0:Int))))=true:=by rw [Os (by omega)];rfl
 rw [b1,aU,b2,aU,b3]
 by_cases h0:h=0
 ·subst h0;have:((0:Int)==0)=true:=rfl;rw [this,aX,cZ,cZ,rU hl.1,me hl.1];have e:(0:Int)*18446744073709551616+l=l:=by omega
  rw [e] at k;have b4:l/y≤l:=Int.ediv_le_self _ hl.1;rw [aT ⟨Ek hl.1 (by omega),by omega⟩];exact k
 ·have b4:(h ==(0:Int))=false:=beq_eq_false_iff_ne.2 h0;rw [b4,aU];refine ywn ⟨by omega,by omega⟩ ?_;have hyn:y.toNat≠0:=by omega
  have c1:=lv y.toNat
  have c2:=Ob hyn;have c3:blen y.toNat≤64:=by
   refine Nat.le_of_not_lt fun hc=>?_
   have:=Hz (show 0<2 by omega) (show 64≤blen y.toNat-1 by omega);omega
  have c4:1≤blen y.toNat:=by
   refine Nat.le_of_not_lt fun hc=>?_
   have:blen y.toNat=0:=by omega
   rw [this] at c1;omega
  obtain ⟨m,hm⟩:∃ m,m=64-blen y.toNat:=⟨_,rfl⟩;have es:(64-(blen y.toNat:Int))=(m:Int):=by omega
  rw [es];have m63:m≤63:=by omega
  have e1:u64.wrap (m:Int)=m:=aT ⟨by omega,by omega⟩;have e2:u64.wrap ((64:Int)-m)=((64-m:Nat):Int):=by rw [aT ⟨by omega,by omega⟩];omega
  have e3:min ((m:Int)).toNat u64.bits=m:=by show min ((m:Int)).toNat 64=m;rw [cH];omega
  have e4:min (((64-m:Nat):Int)).toNat u64.bits=64-m:=by show min (((64-m:Nat):Int)).toNat 64=64-m;rw [cH];omega
  simp only [e1];rw [e2,e3,e4];have p64:(2:Int) ^ (64-m)*2 ^ m=18446744073709551616:=by
   rw [← Int.pow_add,show 64-m+m=64 by omega];rfl
  have p63:(2:Int) ^ (63-m)*2 ^ m=9223372036854775808:=by rw [← Int.pow_add,show 63-m+m=63 by omega];rfl
  have tp:(0:Int)<2 ^ m:=Int.pow_pos (by omega);have tp':(0:Int)<2 ^ (64-m):=Int.pow_pos (by omega);have y1:y<(2:Int) ^ (64-m):=by
   have:blen y.toNat=64-m:=by omega
   rw [this] at c1;have c1':((y.toNat:Nat):Int)<((2 ^ (64-m):Nat):Int):=by exact_mod_cast c1
   push_cast at c1'
   omega
  have y2:(2:Int) ^ (63-m)≤y:=by
   have:blen y.toNat-1=63-m:=by omega
   rw [this] at c2;have c2':((2 ^ (63-m):Nat):Int)≤((y.toNat:Nat):Int):=by exact_mod_cast c2
   push_cast at c2'
   omega
  have Y1:y*2 ^ m<18446744073709551616:=by have:=Int.mul_lt_mul_of_pos_right y1 tp;omega
  have Y2:9223372036854775808≤y*2 ^ m:=by have:=BZ y2 (show (0:Int)≤2 ^ m by omega);omega
  have H1:(h+1)*2 ^ m≤y*2 ^ m:=BZ (by omega) (by omega);have H2:(h+1)*2 ^ m=h*2 ^ m+2 ^ m:=by grind
  have H0:0≤h*2 ^ m:=lO hh.1 (by omega);have fd:Int.fdiv l (2 ^ (64-m))=l/2 ^ (64-m):=DD _ _ (by omega);have L1:=Int.mul_ediv_add_emod l (2 ^ (64-m));have L2:=Int.emod_nonneg l (show (2:Int) ^ (64-m)≠0 by omega);have L3:=Int.emod_lt_of_pos l tp';have L4:0≤l/2 ^ (64-m):=Ek hl.1 (by omega);have L5:l/2 ^ (64-m)<2 ^ m:=by refine Int.ediv_lt_of_lt_mul tp' ?_;rw [yK,p64];omega
  have w1:u64.wrap (y*2 ^ m)=y*2 ^ m:=aT ⟨by omega,by omega⟩;have w2:u64.wrap (h*2 ^ m)=h*2 ^ m:=aT ⟨by omega,by omega⟩;have w3:u64.wrap (BitVec.ofInt u64.bits (h*2 ^ m)|||BitVec.ofInt u64.bits (l/2 ^ (64-m))).toNat=h*2 ^ m+l/2 ^ (64-m):=
   lz hh.1 ⟨L4,L5⟩ ⟨by omega,by omega⟩ (by omega)
  have w4:u64.wrap (l*2 ^ m)=l%2 ^ (64-m)*2 ^ m:=by
   have e:l*2 ^ m=(l/2 ^ (64-m))*18446744073709551616+l%2 ^ (64-m)*2 ^ m:=by rw [← p64];obtain ⟨a,ha⟩:∃ a,a=l/2 ^ (64-m):=⟨_,rfl⟩;obtain ⟨b,hb⟩:∃ b,b=l%2 ^ (64-m):=⟨_,rfl⟩;obtain ⟨t,ht⟩:∃ t,t=(2:Int) ^ m:=⟨_,rfl⟩;obtain ⟨t',ht'⟩:∃ t,t=(2:Int) ^ (64-m):=⟨_,rfl⟩;rw [← ha,← hb,← ht'] at L1;rw [← ha,← hb,← ht,← ht'];rw [← L1];grind
   have e5:l%2 ^ (64-m)*2 ^ m<18446744073709551616:=by rw [← p64];exact Int.mul_lt_mul_of_pos_right L3 tp
   have e6:0≤l%2 ^ (64-m)*2 ^ m:=lO L2 (by omega);rw [e,As];omega
  have e5:l%2 ^ (64-m)*2 ^ m<18446744073709551616:=by rw [← p64];exact Int.mul_lt_mul_of_pos_right L3 tp
  have e6:0≤l%2 ^ (64-m)*2 ^ m:=lO L2 (by omega);have eN:(h*18446744073709551616+l)*2 ^ m=(h*2 ^ m+l/2 ^ (64-m))*18446744073709551616+l%2 ^ (64-m)*2 ^ m:=by rw [← p64];obtain ⟨a,ha⟩:∃ a,a=l/2 ^ (64-m):=⟨_,rfl⟩;obtain ⟨b,hb⟩:∃ b,b=l%2 ^ (64-m):=⟨_,rfl⟩;obtain ⟨t,ht⟩:∃ t,t=(2:Int) ^ m:=⟨_,rfl⟩;obtain ⟨t',ht'⟩:∃ t,t=(2:Int) ^ (64-m):=⟨_,rfl⟩;rw [← ha,← hb,← ht'] at L1;rw [← ha,← hb,← ht,← ht'];rw [← L1];grind
  have U1:h*2 ^ m+l/2 ^ (64-m)<y*2 ^ m:=by omega
  have U0:0≤h*2 ^ m+l/2 ^ (64-m):=by omega
  rw [fd,w1,w2,w3,w4];have b5:(!(decide ((m:Int)<0)))=true:=by rw [Os (by omega)];rfl
  have b6:(!(decide (((64-m:Nat):Int)<0)))=true:=by rw [Os (by omega)];rfl
  rw [b5,b6,cZ,cZ,cZ,cZ];generalize h*2 ^ m+l/2 ^ (64-m)=u at *
  generalize hl0:l%2 ^ (64-m)*2 ^ m=v at *
  generalize hY:y*2 ^ m=Y at *
  rw [DD Y _ (by omega),DD v _ (by omega),Au ⟨by omega,by omega⟩,Au ⟨by omega,by omega⟩,rU U0];have b7:(!(decide (Y/4294967296=(0:Int))))=true:=by rw [Os (by omega)];rfl
  rw [b7,cZ];obtain ⟨c,hyn1⟩:∃ a,a=Y/4294967296:=⟨_,rfl⟩;obtain ⟨d,hyn0⟩:∃ a,a=Y%4294967296:=⟨_,rfl⟩;obtain ⟨un1,hun1⟩:∃ a,a=v/4294967296:=⟨_,rfl⟩;obtain ⟨un0,hun0⟩:∃ a,a=v%4294967296:=⟨_,rfl⟩;rw [← hyn1,← hyn0,← hun1,← hun0];have d1:2147483648≤c∧c≤4294967295:=by omega
  have d0:0≤d∧d≤4294967295:=by omega
  have dn1:0≤un1∧un1≤4294967295:=by omega
  have dn0:0≤un0∧un0≤4294967295:=by omega
  have dY:Y=c*4294967296+d:=by omega
  have g1:=DI.init dY d1 d0 dn1 U0 U1;have x1:u64.wrap (u/c)=u/c:=aT ⟨g1.hq.1,by have:=g1.hq.2;omega⟩;have x2:u64.wrap (u-u64.wrap (u/c*c))=u-u/c*c:=by have r1:=g1.hr.1;have r2:0≤u/c*c:=lO g1.hq.1 (by omega);have r3:=g1.hr.2;rw [aT (n:=u/c*c) ⟨r2,by omega⟩,aT ⟨r1,by omega⟩]
  rw [x1,x2];have fin:∀ q1:Int,DG Y u un1 q1→∀ (un21:Int),un21=u*4294967296+un1-q1*Y→∀ q0,DG Y un21 un0 q0 →
    K (u64.wrap ((u64.wrap (q1*(4294967296:Int)))+q0)) (Int.fdiv (u64.wrap ((u64.wrap ((u64.wrap (un21*(4294967296:Int)))+un0))-(u64.wrap (q0*Y)))) (2 ^ (min ((m:Int)).toNat u64.bits))):=by
   intro q1 G1 un21 e21 q0 G0;obtain ⟨a1,a2,a3,a4⟩:=G1;obtain ⟨c1,c2,c3,c4⟩:=G0;have s1:(q1+1)*Y=q1*Y+Y:=by grind
   have s0:(q0+1)*Y=q0*Y+Y:=by grind
   have w5:u64.wrap (q1*4294967296)=q1*4294967296:=aT ⟨by omega,by omega⟩;have w6:u64.wrap (q1*4294967296+q0)=q1*4294967296+q0:=aT ⟨by omega,by omega⟩;rw [mc (by omega) (by omega),w5,w6,e3,DD _ _ (by omega)];have eT:un21*4294967296+un0-q0*Y=(h*18446744073709551616+l-(q1*4294967296+q0)*y)*2 ^ m:=by
    have f1:(q1*4294967296+q0)*Y=q1*Y*4294967296+q0*Y:=by grind
    have f2:(h*18446744073709551616+l-(q1*4294967296+q0)*y)*2 ^ m=(h*18446744073709551616+l)*2 ^ m-(q1*4294967296+q0)*Y:=by rw [← hY,Int.sub_mul,Int.mul_assoc (q1*4294967296+q0)]
    rw [f2,f1,eN];omega
   rw [eT,Int.mul_ediv_cancel _ (by omega)];have r0:0≤h*18446744073709551616+l-(q1*4294967296+q0)*y:=by
    refine Int.not_lt.1 fun hc=>?_
    have:=Hw hc tp;omega
   have r1:h*18446744073709551616+l-(q1*4294967296+q0)*y<y:=by
    refine Int.not_le.1 fun hc=>?_
    have:=BZ hc (show (0:Int)≤2 ^ m by omega);omega
   obtain ⟨Q,hQ⟩:∃ Q,Q=q1*4294967296+q0:=⟨_,rfl⟩;rw [← hQ] at r0 r1 ⊢;have z1:(h*18446744073709551616+l)/y=Q:=by
    have:h*18446744073709551616+l=(h*18446744073709551616+l-Q*y)+Q*y:=by omega
    rw [this,Int.add_mul_ediv_right _ _ (by omega),Int.ediv_eq_zero_of_lt r0 r1];omega
   have z2:(h*18446744073709551616+l)%y=h*18446744073709551616+l-Q*y:=by have:=Int.mul_ediv_add_emod (h*18446744073709551616+l) y;rw [z1,yK] at this;omega
   rw [z1,z2] at k;exact k
  have mid:∀ q:Int,DG Y u un1 q→∀ (X:Int→Int→Int→Int→Int→Int→Int→Int→Int→Bool→Prop),(∀ q0 r0 b0,DG Y (u*4294967296+un1-q*Y) un0 q0→X Y m c d un0 q r0 (u*4294967296+un1-q*Y) q0 b0) →
    asr (!(decide (c=(0:Int)))) (∃ n:Nat,FZ Bw X X n Y m c d un0 q ((u64.wrap ((u64.wrap ((u64.wrap ((u64.wrap (u*(4294967296:Int)))+un1))-(u64.wrap (q*Y))))-(u64.wrap ((u64.wrap (Int.tdiv (u64.wrap ((u64.wrap ((u64.wrap (u*(4294967296:Int)))+un1))-(u64.wrap (q*Y)))) c))*c))))) (u64.wrap ((u64.wrap ((u64.wrap (u*(4294967296:Int)))+un1))-(u64.wrap (q*Y)))) (u64.wrap (Int.tdiv (u64.wrap ((u64.wrap ((u64.wrap (u*(4294967296:Int)))+un1))-(u64.wrap (q*Y)))) c))):=by
   intro q G X hX;obtain ⟨a1,a2,a3,a4⟩:=G;have s1:(q+1)*Y=q*Y+Y:=by grind
   have b8:(!(decide (c=(0:Int))))=true:=by rw [Os (by omega)];rfl
   rw [b8,cZ,mc (by omega) (by omega),rU (by omega)];have g0:=DI.init dY d1 d0 dn0 (u:=u*4294967296+un1-q*Y) (by omega) (by omega);generalize u*4294967296+un1-q*Y=u2 at *
   have x1:u64.wrap (u2/c)=u2/c:=aT ⟨g0.hq.1,by have:=g0.hq.2;omega⟩;have x2:u64.wrap (u2-u64.wrap (u2/c*c))=u2-u2/c*c:=by have r1:=g0.hr.1;have r2:0≤u2/c*c:=lO g0.hq.1 (by omega);have r3:=g0.hr.2;have r4:=g0.hlt;rw [aT (n:=u2/c*c) ⟨r2,by omega⟩,aT ⟨r1,by omega⟩]
   rw [x1,x2];exact ⟨3,yQC _ _ _ _ (fun q0 r0 b0 g=>hX q0 r0 b0 g) (fun q0 r0 b0 g=>hX q0 r0 b0 g) _ _ g0⟩
  have leaf:∀ {P:Prop},P→asr (!(decide ((m:Int)<0))) P:=fun p=>by rw [b5,cZ];exact p
  refine ⟨3,yQB _ _ _ _ (fun q r b G=>?_) (fun q r b G=>?_) _ _ g1⟩
  ·exact mid q G _ (fun q0 r0 b0 G0=>leaf (fin q G _ rfl q0 G0))
  ·exact mid q G _ (fun q0 r0 b0 G0=>leaf (fin q G _ rfl q0 G0))
theorem yMR {h l y:Int} (hh:iC h) (hl:iC l) (hy:iC y) (h0:0<y) {K:Int→Prop}
  (k:K ((h*18446744073709551616+l)%y)):De h l y K:=by
 unfold De TN;have b3:(!(decide (y=(0:Int))))=true:=by rw [Os (by omega)];rfl
 have a1:=Int.emod_nonneg h (show y≠0 by omega);have a2:=Int.emod_lt_of_pos h h0;have hh':=hh;unfold iC at hh hy;rw [b3,cZ,me hh.1];refine mf ⟨a1,by omega⟩ hl ⟨by omega,by omega⟩ a2 ?_;have e:(h%y*18446744073709551616+l)%y=(h*18446744073709551616+l)%y:=by rw [Int.add_emod,Int.mul_emod,Int.emod_emod,← Int.mul_emod,← Int.add_emod]
 rw [e];exact k
def fQ (s:Bool) (a b:Int) (K:Int→Int→Int→Prop):Prop:=
 if a≤1000000000000000000∧b≤1000000000000000000 then K (if s then -a else a) b 0 else K 0 0 16
theorem Oc {s:Bool} {a b:Int} (ha:0≤a) (hb:0≤b) (K:Int→Int→Int→Prop):zO s a b K=fQ s a b K:=by
 unfold zO TP fQ
 by_cases h:a≤1000000000000000000∧b≤1000000000000000000
 ·have e:decide ((if b>a then b else a)>(1000000000000000000:Int))=false:=by
   refine Os ?_;split<;>omega
  have w1:i64.wrap a=a:=fP ⟨by omega,by omega⟩;have w2:i64.wrap b=b:=fP ⟨by omega,by omega⟩;have w3:i64.wrap (0-a)=-a:=by rw [fP ⟨by omega,by omega⟩];omega
  rw [e,aU,YQ h,w1,w2,w3]
  cases s
  ·rfl
  ·rfl
 ·have e:decide ((if b>a then b else a)>(1000000000000000000:Int))=true:=by
   refine Ef ?_;split<;>omega
  rw [e,aX,YR h]
theorem Make_of {n d:Int} (hn:cB n) (hd:cB d) {K:Int→Int→Int→Prop}
  (k:if d=0 then K 0 0 18 else fQ (decide (n<0) !=decide (d<0)) ((n.natAbs/Nat.gcd n.natAbs d.natAbs:Nat):Int) ((d.natAbs/Nat.gcd n.natAbs d.natAbs:Nat):Int) K):dM n d K:=by
 unfold dM Uh
 by_cases h:d=0
 ·rw [YQ h] at k;have:(d ==(0:Int))=true:=beq_iff_eq.2 h;rw [this,aX];exact k
 ·rw [YR h] at k;have:(d ==(0:Int))=false:=beq_eq_false_iff_ne.2 h;rw [this,aU,xR hn,xR hd];refine GS _ _ _ ?_;have gp:0<Nat.gcd n.natAbs d.natAbs:=yA _ (by omega);have b3:(!(decide (((Nat.gcd n.natAbs d.natAbs:Nat):Int)=(0:Int))))=true:=by rw [Os (by omega)];rfl
  unfold cB at hn hd;have u1:n.natAbs/Nat.gcd n.natAbs d.natAbs≤n.natAbs:=qH _ _;have u2:d.natAbs/Nat.gcd n.natAbs d.natAbs≤d.natAbs:=qH _ _;rw [b3,cZ,cZ,rU (by omega),rU (by omega),← rD,← rD];generalize n.natAbs/Nat.gcd n.natAbs d.natAbs=A at *
  generalize d.natAbs/Nat.gcd n.natAbs d.natAbs=B at *
  rw [aT (n:=(A:Int)) ⟨by omega,by omega⟩,aT (n:=(B:Int)) ⟨by omega,by omega⟩,Oc (by omega) (by omega)];exact k
def iY (a c:Int) (b d:Int):Nat:=(a.natAbs/Nat.gcd a.natAbs d.natAbs)*(c.natAbs/Nat.gcd c.natAbs b.natAbs)
def lH (a c:Int) (b d:Int):Nat:=(b.natAbs/Nat.gcd c.natAbs b.natAbs)*(d.natAbs/Nat.gcd a.natAbs d.natAbs)
theorem Xa {a b c d:Int} (ha:cB a) (hb:cB b) (hc:cB c) (hd:cB d) {K:Int→Int→Int→Prop}
  (k:if cJ a b c d=0 then fQ (decide (a<0) !=decide (c<0)) (iY a c b d) (lH a c b d) K else K 0 0 (cJ a b c d)):lZ a b c d K:=by
 unfold lZ TT;refine Ka ha hb hc hd ?_
 by_cases h:cJ a b c d=0
 ·rw [YQ h] at k;have:(cJ a b c d !=(0:Int))=false:=by rw [h];rfl
  rw [this,aU,xR ha,xR hc];obtain ⟨⟨b1,b2,a1,a2,_⟩,d1,d2,c1,c2,_⟩:=tO.1 h;have wb:u64.wrap b=((b.natAbs:Nat):Int):=by rw [aT ⟨by omega,by omega⟩];omega
  have wd:u64.wrap d=((d.natAbs:Nat):Int):=by rw [aT ⟨by omega,by omega⟩];omega
  rw [wb,wd];refine GS _ _ _ (GS _ _ _ ?_);unfold iY lH at k;have g1:0<Nat.gcd a.natAbs d.natAbs:=yA _ (by omega);have g2:0<Nat.gcd c.natAbs b.natAbs:=yA _ (by omega);obtain ⟨g3,h3⟩:∃ g,g=Nat.gcd a.natAbs d.natAbs:=⟨_,rfl⟩;obtain ⟨g4,h4⟩:∃ g,g=Nat.gcd c.natAbs b.natAbs:=⟨_,rfl⟩;rw [← h3,← h4] at k ⊢;rw [← h3] at g1;rw [← h4] at g2;have n3:(!(decide ((g3:Int)=(0:Int))))=true:=by rw [Os (by omega)];rfl
  have n4:(!(decide ((g4:Int)=(0:Int))))=true:=by rw [Os (by omega)];rfl
  rw [n3,n4,cZ,cZ,rU (by omega),rU (by omega),rU (by omega),rU (by omega),← rD,← rD,← rD,← rD];have q1:a.natAbs/g3≤a.natAbs:=qH _ _;have q2:c.natAbs/g4≤c.natAbs:=qH _ _;have q3:b.natAbs/g4≤b.natAbs:=qH _ _;have q4:d.natAbs/g3≤d.natAbs:=qH _ _;generalize a.natAbs/g3=A at *
  generalize c.natAbs/g4=C at *
  generalize b.natAbs/g4=B at *
  generalize d.natAbs/g3=D at *
  rw [aT (n:=(A:Int)) ⟨by omega,by omega⟩,aT (n:=(C:Int)) ⟨by omega,by omega⟩,aT (n:=(B:Int)) ⟨by omega,by omega⟩,aT (n:=(D:Int)) ⟨by omega,by omega⟩,
   DC ⟨by omega,by omega⟩ ⟨by omega,by omega⟩,cZ,cZ,DC ⟨by omega,by omega⟩ ⟨by omega,by omega⟩]
  have m1:A*C≤1000000000000000000*1000000000000000000:=Cm (by omega) (by omega);have m2:B*D≤1000000000000000000*1000000000000000000:=Cm (by omega) (by omega);rw [← Ci,← Ci];generalize A*C=M at *
  generalize B*D=N at *
  have wm:u64.wrap ((M:Int)/18446744073709551616+(N:Int)/18446744073709551616)=(M:Int)/18446744073709551616+(N:Int)/18446744073709551616:=aT ⟨by omega,by omega⟩;rw [wm]
  by_cases hb:(M:Int)/18446744073709551616+(N:Int)/18446744073709551616>0
  ·rw [Ef hb,aX];unfold fQ at k;rw [YR (by omega)] at k;exact k
  ·rw [Os hb,aU];have eM:(M:Int)%18446744073709551616=M:=by omega
   have eN:(N:Int)%18446744073709551616=N:=by omega
   rw [eM,eN]
   by_cases h0:(M:Int)>0
   ·rw [Ef h0,aX,Oc (by omega) (by omega)];exact k
   ·rw [Os h0,aU,Oc (by omega) (by omega)];have hz:M=0:=by omega
    subst hz;unfold fQ at k ⊢
    by_cases hN:(N:Int)≤1000000000000000000
    ·rw [YQ ⟨by omega,hN⟩] at k ⊢;have e:(if (decide (a<0) !=decide (c<0))=true then -((0:Nat):Int) else ((0:Nat):Int))=0:=by split<;>rfl
     rw [e] at k;exact k
    ·rw [YR (by omega)] at k ⊢;exact k
 ·rw [YR h] at k;have:(cJ a b c d !=(0:Int))=true:=by rw [bne_iff_ne];exact h
  rw [this,aX];exact k
theorem RV.swap {c d:Int} (h:RV c d) (h0:0<c):RV d c:=by obtain ⟨d1,d2,c1,c2,g⟩:=h;exact ⟨by omega,c2,by omega,d2,by rw [tY];exact g⟩
theorem RV.swapn {c d:Int} (h:RV c d) (h0:c<0):RV (-d) (-c):=by obtain ⟨d1,d2,c1,c2,g⟩:=h;exact ⟨by omega,by omega,by omega,by omega,by rw [Int.natAbs_neg,Int.natAbs_neg,tY];exact g⟩
theorem yQD {a b c d:Int} (ha:cB a) (hb:cB b) (hc:cB c) (hd:cB d) {K:Int→Int→Int→Prop}
  (k:if cJ a b c d=0 then (if c=0 then K 0 0 18 else fQ (decide (a<0) !=decide (c<0)) (iY a d b c) (lH a d b c) K) else K 0 0 (cJ a b c d)):iF a b c d K:=by
 unfold iF TU;refine Ka ha hb hc hd ?_
 by_cases h:cJ a b c d=0
 ·rw [YQ h] at k;have:(cJ a b c d !=(0:Int))=false:=by rw [h];rfl
  rw [this,aU];obtain ⟨hab,hcd⟩:=tO.1 h;obtain ⟨d1,d2,c1,c2,_⟩:=id hcd
  by_cases h0:c=0
  ·rw [YQ h0] at k;have:(c ==(0:Int))=true:=beq_iff_eq.2 h0;rw [this,aX];exact k
  ·rw [YR h0] at k;have:(c ==(0:Int))=false:=beq_eq_false_iff_ne.2 h0;rw [this,aU]
   by_cases hn:c<0
   ·rw [Ef hn] at k;rw [Ef hn,aX,fP (n:=0-d) ⟨by omega,by omega⟩,fP (n:=0-c) ⟨by omega,by omega⟩,Int.zero_sub,Int.zero_sub];have e:cJ a b (-d) (-c)=0:=tO.2 ⟨hab,hcd.swapn hn⟩;refine Xa ha hb ⟨by omega,by omega⟩ ⟨by omega,by omega⟩ ?_;rw [YQ e,Ef (show -d<0 by omega)];unfold iY lH at k ⊢;rw [Int.natAbs_neg,Int.natAbs_neg];exact k
   ·rw [Os hn] at k;rw [Os hn,aU];have e:cJ a b d c=0:=tO.2 ⟨hab,hcd.swap (by omega)⟩;refine Xa ha hb hd hc ?_;rw [YQ e,Os (show ¬d<0 by omega)];exact k
 ·rw [YR h] at k;have:(cJ a b c d !=(0:Int))=true:=by rw [bne_iff_ne];exact h
  rw [this,aX];exact k
theorem yOS {s:Bool} {hi lo p1 p3:Int} {g:Nat} (hh:iC hi) (hl:iC lo) (hg:0<g) (g1:(g:Int)≤1000000000000000000)
   (h1:0≤p1∧p1≤1000000000000000000) (h3:0≤p3∧p3≤1000000000000000000) {K:Int→Int→Int→Prop}
   (k:fQ s (((hi*18446744073709551616+lo).toNat/Nat.gcd (hi*18446744073709551616+lo).toNat g:Nat):Int)
    (((p1.toNat/g)*(p3.toNat/Nat.gcd (hi*18446744073709551616+lo).toNat g):Nat):Int) K) :
   (De hi lo (g:Int) (fun (b:Int)=>
 (tF b (g:Int) (fun (a:Int)=>
 (aB (decide (hi≥a))
 (K (0:Int) (0:Int) (16:Int))
 (Bz hi lo a (fun (c:Int) (j:Int)=>
 (asr (!(decide ((g:Int)=(0:Int))))
 (asr (!(decide (a=(0:Int))))
 (zN (u64.wrap (Int.tdiv (u64.wrap p1) (g:Int))) (u64.wrap (Int.tdiv (u64.wrap p3) a)) (fun (d:Int) (e:Int)=>
 (aB (decide (d>(0:Int)))
 (K (0:Int) (0:Int) (16:Int))
 (zO s c e (fun (f:Int) (h:Int) (i:Int)=>
 (K f h i))))))))))))))):=by
  unfold iC at hh hl;obtain ⟨X,hX⟩:∃ X:Nat,X=(hi*18446744073709551616+lo).toNat:=⟨_,rfl⟩;have eX:hi*18446744073709551616+lo=(X:Int):=by omega
  rw [← hX] at k;refine yMR hh hl ⟨by omega,by omega⟩ (by omega) ?_;rw [eX,← Int.natCast_emod];refine GS _ _ _ ?_;have eg:Nat.gcd (X%g) g=Nat.gcd X g:=by rw [tY,tY X,Nat.gcd_rec g X,tY]
  rw [eg];have gp:0<Nat.gcd X g:=yA _ hg;have gl:Nat.gcd X g≤g:=Nat.le_of_dvd hg (Cf _ _);generalize Nat.gcd X g=G at *
  by_cases hb:hi≥(G:Int)
  ·rw [Ef hb,aX];unfold fQ at k;have:18446744073709551616≤X/G:=by
    rw [Nat.le_div_iff_mul_le gp];omega
   rw [YR (by omega)] at k;exact k
  ·rw [Os hb,aU];refine mf hh hl ⟨by omega,by omega⟩ (by omega) ?_;rw [eX];have n3:(!(decide ((g:Int)=(0:Int))))=true:=by rw [Os (by omega)];rfl
   have n4:(!(decide ((G:Int)=(0:Int))))=true:=by rw [Os (by omega)];rfl
   have e1:u64.wrap p1=(p1.toNat:Int):=by rw [aT ⟨by omega,by omega⟩];omega
   have e3:u64.wrap p3=(p3.toNat:Int):=by rw [aT ⟨by omega,by omega⟩];omega
   rw [n3,n4,cZ,cZ,e1,e3,rU (by omega),rU (by omega),← rD,← rD,← rD];have q1:p1.toNat/g≤p1.toNat:=qH _ _;have q3:p3.toNat/G≤p3.toNat:=qH _ _;generalize p1.toNat/g=A at *
   generalize p3.toNat/G=B at *
   generalize X/G=N at *
   rw [aT (n:=(A:Int)) ⟨by omega,by omega⟩,aT (n:=(B:Int)) ⟨by omega,by omega⟩,DC ⟨by omega,by omega⟩ ⟨by omega,by omega⟩,← Ci];generalize A*B=D at *
   by_cases hd:((D:Int)/18446744073709551616)>0
   ·rw [Ef hd,aX];unfold fQ at k;rw [YR (by omega)] at k;exact k
   ·rw [Os hd,aU];have eD:(D:Int)%18446744073709551616=D:=by omega
    rw [eD,Oc (by omega) (by omega)];exact k
theorem mg {p q c:Int} {K:Int→Int→Prop} (hc:c.toNat≤1) (k:K (((p.toNat+q.toNat+c.toNat)%18446744073709551616:Nat):Int) (((p.toNat+q.toNat+c.toNat)/18446744073709551616:Nat):Int)):EY p q c K:=by unfold EY;rw [Ef hc,cZ];exact k
theorem mh {p q c:Int} {K:Int→Int→Prop} (hc:c.toNat≤1) (k:K (((p.toNat+18446744073709551616-q.toNat-c.toNat)%18446744073709551616:Nat):Int) ((if q.toNat+c.toNat≤p.toNat then 0 else 1:Nat):Int)):EZ p q c K:=by
 unfold EZ;rw [Ef hc,cZ];have e:(bif Nat.ble (q.toNat+c.toNat) p.toNat then 0 else 1:Nat)=(if q.toNat+c.toNat≤p.toNat then 0 else 1:Nat):=by
  by_cases h:q.toNat+c.toNat≤p.toNat
  ·rw [YQ h,show Nat.ble (q.toNat+c.toNat) p.toNat=true from Eh h];rfl
  ·rw [YR h]
   cases hb:Nat.ble (q.toNat+c.toNat) p.toNat
   ·rfl
   ·exact absurd (AN hb) h
 rw [e];exact k
theorem yMS {X Y:Int} (hx:0≤X) (hy:0≤Y) (hs:X+Y<340282366920938463463374607431768211456) {F:Int→Int→Int→Int→Prop}
  (h:∀ c1 c2,F ((X+Y)%18446744073709551616) c1 ((X+Y)/18446744073709551616) c2) :
  EY (X%18446744073709551616) (Y%18446744073709551616) 0 (fun lo c1=>EY (X/18446744073709551616) (Y/18446744073709551616) c1 (fun hi c2=>F lo c1 hi c2)):=by
 obtain ⟨x,rfl⟩:∃ x:Nat,X=x:=⟨X.toNat,by omega⟩;obtain ⟨y,rfl⟩:∃ y:Nat,Y=y:=⟨Y.toNat,by omega⟩;refine mg (by decide) (mg (by omega) ?_);have e1:(((((x:Int)%18446744073709551616).toNat+((y:Int)%18446744073709551616).toNat+(0:Int).toNat)%18446744073709551616:Nat):Int)=((x:Int)+y)%18446744073709551616:=by omega
 have e2:(((((x:Int)/18446744073709551616).toNat+((y:Int)/18446744073709551616).toNat+(((((x:Int)%18446744073709551616).toNat+((y:Int)%18446744073709551616).toNat+(0:Int).toNat)/18446744073709551616:Nat):Int).toNat)%18446744073709551616:Nat):Int)=((x:Int)+y)/18446744073709551616:=by omega
 rw [e1,e2];exact h _ _
theorem Od {X Y:Int} (hy:0≤Y) (hxy:Y≤X) (hs:X<340282366920938463463374607431768211456) {F:Int→Int→Int→Int→Prop}
  (h:∀ c1 c2,F ((X-Y)%18446744073709551616) c1 ((X-Y)/18446744073709551616) c2) :
  EZ (X%18446744073709551616) (Y%18446744073709551616) 0 (fun lo c1=>EZ (X/18446744073709551616) (Y/18446744073709551616) c1 (fun hi c2=>F lo c1 hi c2)):=by
 obtain ⟨x,rfl⟩:∃ x:Nat,X=x:=⟨X.toNat,by omega⟩;obtain ⟨y,rfl⟩:∃ y:Nat,Y=y:=⟨Y.toNat,by omega⟩;refine mh (by decide) (mh (by split<;>omega) ?_);have e1:(((((x:Int)%18446744073709551616).toNat+18446744073709551616-((y:Int)%18446744073709551616).toNat-(0:Int).toNat)%18446744073709551616:Nat):Int)=((x:Int)-y)%18446744073709551616:=by omega
 rw [e1]
 by_cases hb:((y:Int)%18446744073709551616).toNat+(0:Int).toNat≤((x:Int)%18446744073709551616).toNat
 ·rw [YQ hb];have e2:(((((x:Int)/18446744073709551616).toNat+18446744073709551616-((y:Int)/18446744073709551616).toNat-((0:Nat):Int).toNat)%18446744073709551616:Nat):Int)=((x:Int)-y)/18446744073709551616:=by omega
  rw [e2];exact h _ _
 ·rw [YR hb];have e2:(((((x:Int)/18446744073709551616).toNat+18446744073709551616-((y:Int)/18446744073709551616).toNat-((1:Nat):Int).toNat)%18446744073709551616:Nat):Int)=((x:Int)-y)/18446744073709551616:=by omega
  rw [e2];exact h _ _
def kK (s:Bool) (Z p1 p3:Int) (g:Nat) (K:Int→Int→Int→Prop):Prop:=
 if Z=0 then K 0 1 0 else fQ s ((Z.toNat/Nat.gcd Z.toNat g:Nat):Int) (((p1.toNat/g)*(p3.toNat/Nat.gcd Z.toNat g):Nat):Int) K
theorem Kb {s:Bool} {Z p1 p3:Int} {g:Nat} (hz:0≤Z) (hz2:Z<340282366920938463463374607431768211456) (hg:0<g) (g1:(g:Int)≤1000000000000000000)
   (h1:0≤p1∧p1≤1000000000000000000) (h3:0≤p3∧p3≤1000000000000000000) {K:Int→Int→Int→Prop}
   (k:kK s Z p1 p3 g K) :
   aB (Z/18446744073709551616 ==(0:Int)) (aB (Z%18446744073709551616 ==(0:Int)) (K 0 1 0) (De (Z/18446744073709551616) (Z%18446744073709551616) (g:Int) (fun (b:Int)=>
 (tF b (g:Int) (fun (a:Int)=>
 (aB (decide ((Z/18446744073709551616)≥a))
 (K (0:Int) (0:Int) (16:Int))
 (Bz (Z/18446744073709551616) (Z%18446744073709551616) a (fun (c:Int) (j:Int)=>
 (asr (!(decide ((g:Int)=(0:Int))))
 (asr (!(decide (a=(0:Int))))
 (zN (u64.wrap (Int.tdiv (u64.wrap p1) (g:Int))) (u64.wrap (Int.tdiv (u64.wrap p3) a)) (fun (d:Int) (e:Int)=>
 (aB (decide (d>(0:Int)))
 (K (0:Int) (0:Int) (16:Int))
 (zO s c e (fun (f:Int) (h:Int) (i:Int)=>
 (K f h i)))))))))))))))) (De (Z/18446744073709551616) (Z%18446744073709551616) (g:Int) (fun (b:Int)=>
 (tF b (g:Int) (fun (a:Int)=>
 (aB (decide ((Z/18446744073709551616)≥a))
 (K (0:Int) (0:Int) (16:Int))
 (Bz (Z/18446744073709551616) (Z%18446744073709551616) a (fun (c:Int) (j:Int)=>
 (asr (!(decide ((g:Int)=(0:Int))))
 (asr (!(decide (a=(0:Int))))
 (zN (u64.wrap (Int.tdiv (u64.wrap p1) (g:Int))) (u64.wrap (Int.tdiv (u64.wrap p3) a)) (fun (d:Int) (e:Int)=>
 (aB (decide (d>(0:Int)))
 (K (0:Int) (0:Int) (16:Int))
 (zO s c e (fun (f:Int) (h:Int) (i:Int)=>
 (K f h i))))))))))))))):=by
  unfold kK at k;have eZ:Z/18446744073709551616*18446744073709551616+Z%18446744073709551616=Z:=by omega
  by_cases h0:Z=0
  ·rw [YQ h0] at k;subst h0;have e1:((0:Int)/18446744073709551616 ==(0:Int))=true:=by decide
   have e2:((0:Int)%18446744073709551616 ==(0:Int))=true:=by decide
   rw [e1,aX,e2,aX];exact k
  ·rw [YR h0] at k;have t:=yOS (s:=s) (hi:=Z/18446744073709551616) (lo:=Z%18446744073709551616) (p1:=p1) (p3:=p3) (g:=g) (K:=K) ⟨by omega,by omega⟩ ⟨by omega,by omega⟩ hg g1 h1 h3 (by rw [eZ];exact k)
   cases h4:(Z/18446744073709551616 ==(0:Int))
   ·rw [aU];exact t
   ·rw [aX]
    cases h2:(Z%18446744073709551616 ==(0:Int))
    ·rw [aU];exact t
    ·have:=beq_iff_eq.1 h2;have:=beq_iff_eq.1 h4;exact absurd (show Z=0 by omega) h0
theorem Xb {s s':Bool} {Z Z' p1 p3:Int} {g:Nat} {K:Int→Int→Int→Prop} (k:kK s' Z' p1 p3 g K) (hz:Z=Z') (hs:Z≠0→s=s'):kK s Z p1 p3 g K:=by
 subst hz;unfold kK at k ⊢
 by_cases h:Z=0
 ·rw [YQ h] at k ⊢;exact k
 ·rw [YR h] at k ⊢;rw [hs h];exact k
theorem mi {a b c d:Int} (ha:cB a) (hb:cB b) (hc:cB c) (hd:cB d) {K:Int→Int→Int→Prop}
  (k:if cJ a b c d=0 then kK (decide (a*(d/(Nat.gcd b.natAbs d.natAbs:Nat))+c*(b/(Nat.gcd b.natAbs d.natAbs:Nat))<0))
    ((a*(d/(Nat.gcd b.natAbs d.natAbs:Nat))+c*(b/(Nat.gcd b.natAbs d.natAbs:Nat))).natAbs:Int) b d (Nat.gcd b.natAbs d.natAbs) K
   else K 0 0 (cJ a b c d)):ya1 a b c d K:=by
 unfold ya1 TR;refine Ka ha hb hc hd ?_
 by_cases h:cJ a b c d=0
 ·rw [YQ h] at k;have:(cJ a b c d !=(0:Int))=false:=by rw [h];rfl
  rw [this,aU];obtain ⟨⟨b1,b2,a1,a2,_⟩,d1,d2,c1,c2,_⟩:=tO.1 h;have wb:u64.wrap b=((b.natAbs:Nat):Int):=by rw [aT ⟨by omega,by omega⟩];omega
  have wd:u64.wrap d=((d.natAbs:Nat):Int):=by rw [aT ⟨by omega,by omega⟩];omega
  have g1:0<Nat.gcd b.natAbs d.natAbs:=yA _ (by omega);have g2:Nat.gcd b.natAbs d.natAbs≤d.natAbs:=Nat.le_of_dvd (by omega) (Cf _ _);have go:tF (u64.wrap b) (u64.wrap d)=tF ((b.natAbs:Nat):Int) ((d.natAbs:Nat):Int):=by rw [wb,wd]
  rw [go];refine GS _ _ _ ?_;generalize Nat.gcd b.natAbs d.natAbs=g at *
  have n3:(!(decide ((g:Int)=(0:Int))))=true:=by rw [Os (by omega)];rfl
  have q1:0≤b/(g:Int):=Ek (by omega) (by omega);have q2:0≤d/(g:Int):=Ek (by omega) (by omega);have q3:b/(g:Int)≤b:=Int.ediv_le_self _ (by omega);have q4:d/(g:Int)≤d:=Int.ediv_le_self _ (by omega);have ed:u64.wrap (Int.tdiv (u64.wrap d) (g:Int))=d/(g:Int):=by rw [aT (n:=d) ⟨by omega,by omega⟩,rU (by omega),aT ⟨by omega,by omega⟩]
  have eb:u64.wrap (Int.tdiv (u64.wrap b) (g:Int))=b/(g:Int):=by rw [aT (n:=b) ⟨by omega,by omega⟩,rU (by omega),aT ⟨by omega,by omega⟩]
  have ymH:∀ {c:Bool} {P:Prop},c=true→P→asr c P:=fun h p=>by rw [h,cZ];exact p
  rw [xR ha];refine ymH n3 ?_;rw [DC (iC.abs ha) (by rw [ed];exact ⟨by omega,by omega⟩),xR hc];refine ymH n3 ?_;rw [DC (iC.abs hc) (by rw [eb];exact ⟨by omega,by omega⟩)];obtain ⟨X,hX⟩:∃ X,X=((a.natAbs:Nat):Int)*u64.wrap (Int.tdiv (u64.wrap d) (g:Int)):=⟨_,rfl⟩;obtain ⟨Y,hY⟩:∃ Y,Y=((c.natAbs:Nat):Int)*u64.wrap (Int.tdiv (u64.wrap b) (g:Int)):=⟨_,rfl⟩;rw [← hX,← hY];rw [ed] at hX;rw [eb] at hY;have X0:0≤X:=by rw [hX];exact lO (by omega) q2
  have Y0:0≤Y:=by rw [hY];exact lO (by omega) q1
  have X1:X≤1000000000000000000*1000000000000000000:=by rw [hX];exact jZ (by omega) (by omega) q2 (by omega)
  have Y1:Y≤1000000000000000000*1000000000000000000:=by rw [hY];exact jZ (by omega) (by omega) q1 (by omega)
  have ax:a*(d/(g:Int))=if a<0 then -X else X:=by
   split
   ·rw [hX,show ((a.natAbs:Nat):Int)=-a by omega,Int.neg_mul,Int.neg_neg]
   ·rw [hX,show ((a.natAbs:Nat):Int)=a by omega]
  have cy:c*(b/(g:Int))=if c<0 then -Y else Y:=by
   split
   ·rw [hY,show ((c.natAbs:Nat):Int)=-c by omega,Int.neg_mul,Int.neg_neg]
   ·rw [hY,show ((c.natAbs:Nat):Int)=c by omega]
  rw [ax,cy] at k;clear hX hY ax cy ed eb n3
  by_cases hs:decide (a<0)=decide (c<0)
  ·have e:(decide (a<0)==decide (c<0))=true:=beq_iff_eq.2 hs;rw [e,aX];refine yMS X0 Y0 (by omega) (fun c1 c2=>?_);refine Kb (by omega) (by omega) g1 (by omega) ⟨by omega,b2⟩ ⟨by omega,d2⟩ (Xb k ?_ ?_)
   ·by_cases h1:a<0
    ·have h2:c<0:=by simpa [h1] using hs.symm
     rw [YQ h1,YQ h2];omega
    ·have h2:¬c<0:=by simpa [h1] using hs.symm
     rw [YR h1,YR h2];omega
   ·intro h0
    by_cases h1:a<0
    ·have h2:c<0:=by simpa [h1] using hs.symm
     rw [YQ h1,YQ h2,Ef h1,Ef (by omega)]
    ·have h2:¬c<0:=by simpa [h1] using hs.symm
     rw [YR h1,YR h2,Os h1,Os (by omega)]
  ·have e:(decide (a<0)==decide (c<0))=false:=beq_eq_false_iff_ne.2 hs;rw [e,aU];have h12:(a<0∧¬c<0)∨(¬a<0∧c<0):=by
    by_cases h1:a<0<;>by_cases h2:c<0<;>simp [h1,h2] at hs ⊢
   by_cases hlt:X<Y
   ·have kk:kK (!decide (a<0)) (Y-X) b d g K:=by
     refine Xb k ?_ ?_
     ·rcases h12 with ⟨h1,h2⟩ | ⟨h1,h2⟩
      ·rw [YQ h1,YR h2];omega
      ·rw [YR h1,YQ h2];omega
     ·intro h0;rcases h12 with ⟨h1,h2⟩ | ⟨h1,h2⟩
      ·rw [YQ h1,YR h2,Ef h1,Os (by omega)];rfl
      ·rw [YR h1,YQ h2,Os h1,Ef (by omega)];rfl
    by_cases h1:X/18446744073709551616<Y/18446744073709551616
    ·rw [Ef h1,aX];refine Od X0 (by omega) (by omega) (fun c1 c2=>?_);exact Kb (by omega) (by omega) g1 (by omega) ⟨by omega,b2⟩ ⟨by omega,d2⟩ kk
    ·have e1:(X/18446744073709551616==Y/18446744073709551616)=true:=beq_iff_eq.2 (by omega);rw [Os h1,aU,e1,aX,Ef (show X%18446744073709551616<Y%18446744073709551616 by have:=beq_iff_eq.1 e1;omega),aX];refine Od X0 (by omega) (by omega) (fun c1 c2=>?_);exact Kb (by omega) (by omega) g1 (by omega) ⟨by omega,b2⟩ ⟨by omega,d2⟩ kk
   ·have kk:kK (decide (a<0)) (X-Y) b d g K:=by
     refine Xb k ?_ ?_
     ·rcases h12 with ⟨h1,h2⟩ | ⟨h1,h2⟩
      ·rw [YQ h1,YR h2];omega
      ·rw [YR h1,YQ h2];omega
     ·intro h0;rcases h12 with ⟨h1,h2⟩ | ⟨h1,h2⟩
      ·rw [YQ h1,YR h2,Ef h1,Ef (by omega)]
      ·rw [YR h1,YQ h2,Os h1,Os (by omega)]
    have h1:¬X/18446744073709551616<Y/18446744073709551616:=by omega
    rw [Os h1,aU]
    cases e1:(X/18446744073709551616==Y/18446744073709551616)
    ·rw [aU];refine Od Y0 (by omega) (by omega) (fun c1 c2=>?_);exact Kb (by omega) (by omega) g1 (by omega) ⟨by omega,b2⟩ ⟨by omega,d2⟩ kk
    ·rw [aX,Os (show ¬X%18446744073709551616<Y%18446744073709551616 by have:=beq_iff_eq.1 e1;omega),aU];refine Od Y0 (by omega) (by omega) (fun c1 c2=>?_);exact Kb (by omega) (by omega) g1 (by omega) ⟨by omega,b2⟩ ⟨by omega,d2⟩ kk
 ·rw [YR h] at k;have:(cJ a b c d !=(0:Int))=true:=by rw [bne_iff_ne];exact h
  rw [this,aX];exact k
theorem RV.neg {c d:Int} (h:RV c d):RV (-c) d:=by obtain ⟨d1,d2,c1,c2,g⟩:=h;exact ⟨d1,d2,by omega,by omega,by rw [Int.natAbs_neg];exact g⟩
theorem yQE {a b c d:Int} (ha:cB a) (hb:cB b) (hc:cB c) (hd:cB d) {K:Int→Int→Int→Prop}
  (k:if cJ a b c d=0 then kK (decide (a*(d/(Nat.gcd b.natAbs d.natAbs:Nat))+-c*(b/(Nat.gcd b.natAbs d.natAbs:Nat))<0))
    ((a*(d/(Nat.gcd b.natAbs d.natAbs:Nat))+-c*(b/(Nat.gcd b.natAbs d.natAbs:Nat))).natAbs:Int) b d (Nat.gcd b.natAbs d.natAbs) K
   else K 0 0 (cJ a b c d)):nY a b c d K:=by
 unfold nY TS;refine Ka ha hb hc hd ?_
 by_cases h:cJ a b c d=0
 ·rw [YQ h] at k;have:(cJ a b c d !=(0:Int))=false:=by rw [h];rfl
  rw [this,aU];obtain ⟨hab,hcd⟩:=tO.1 h;obtain ⟨d1,d2,c1,c2,_⟩:=id hcd;rw [fP (n:=0-c) ⟨by omega,by omega⟩,Int.zero_sub];refine mi ha hb ⟨by omega,by omega⟩ hd ?_;rw [YQ (tO.2 ⟨hab,hcd.neg⟩)];exact k
 ·rw [YR h] at k;have:(cJ a b c d !=(0:Int))=true:=by rw [bne_iff_ne];exact h
  rw [this,aX];exact k
def aA (l:List Int):List PV:=l.map (PV.int .i64)
theorem dD (l:List Int):(aA l).length=l.length:=dS ..
theorem mj {l:List Int} {i:Nat} (h:i<l.length):getD (aA l) i .nils=.int .i64 (l.getD i 0):=by unfold aA;rw [cN,cN,lK,bY h];rfl
theorem fD {l:List Int} {i:Nat} (h:i<l.length):aK (getD (aA l) i .nils)=l.getD i 0:=by rw [mj h];rfl
theorem BK {l:List Int} {i:Nat} (h:i<l.length):aG zI (getD (aA l) i .nils)=true:=by rw [mj h];rfl
theorem ymH {c:Bool} {P:Prop} (h:c=true) (p:P):asr c P:=by rw [h,cZ];exact p
theorem xS {c:Prop} [Decidable c] {P:Prop} (h:c) (p:P):asr (decide c) P:=ymH (Ef h) p
theorem Oe {c:Prop} [Decidable c] {P Q:Prop} (h:c) (p:P):aB (decide c) P Q:=by rw [Ef h,aX];exact p
theorem GT {c:Prop} [Decidable c] {P Q:Prop} (h:¬c) (q:Q):aB (decide c) P Q:=by rw [Os h,aU];exact q
def Kc (m x:Int):Int:=if x<m then x else m
theorem yMU {l:List Int} (hl:l.length<9223372036854775807) (x0:List PV→Int→Int→Bool→Prop) :
  ∀ (rest:List Int) (i:Nat) (m:Int) (n:Nat),l.drop i=rest→i≤l.length→rest.length<n→x0 (aA l) (rest.foldl Kc m) (l.length:Int) false →
   Gc x0 n (aA l) m (i:Int):=by
 intro rest;induction rest with
 | nil=>
  intro i m n hd hi hn k;have:i=l.length:=by
   have:=YS length hd;rw [lM] at this;have h2:([]:List Int).length=0:=rfl;omega
  match n,hn with
  | n+1,_ =>unfold Gc;rw [dD,this];exact GT (by omega) k
 | cons x t ih=>
  intro i m n hd hi hn k;have hlt:i<l.length:=by
   have:=YS length hd;rw [lM,iE] at this;omega
  have hx:l.getD i 0=x:=by have:=List.getElem_drop (xs:=l) (i:=i) (j:=0) (h:=by rw [hd];exact Ej _);rw [cN,bY hlt];simp only [hd,List.getElem_cons_zero,wN] at this;exact this.symm
  have ht:l.drop (i+1)=t:=by rw [← List.tail_drop,hd];rfl
  match n,hn with
  | n+1,hn =>unfold Gc;rw [dD];refine Oe (by omega) ?_;refine xS (by omega) (xS (by omega) (ymH (BK (by omega)) ?_));rw [cH,fD hlt,hx,fP (n:=(i:Int)+1) ⟨by omega,by omega⟩];exact ih (i+1) _ n ht (by omega) (by rw [iE] at hn;omega) k
theorem yQF {l:List Int} (hl:l.length<9223372036854775807) {x:Int} {t:List Int} (e:l=x::t) {K:Int→Prop} (k:K (t.foldl Kc x)):Gd (aA l) K:=by
 have h0:0<l.length:=by rw [e];exact Ej _
 unfold Gd Uj;rw [dD];refine GT (by omega) (xS (by omega) (ymH (BK h0) ⟨l.length+1,?_⟩));have e0:l.getD 0 0=x:=by rw [e];rfl
 rw [fD h0,e0];refine yMU hl _ t 1 x _ (by rw [e];rfl) (by omega) (by rw [e,iE];omega) ?_;exact k
def Av (m x:Int):Int:=if x>m then x else m
theorem yMV {l:List Int} (hl:l.length<9223372036854775807) (x0:List PV→Int→Int→Bool→Prop) :
  ∀ (rest:List Int) (i:Nat) (m:Int) (n:Nat),l.drop i=rest→i≤l.length→rest.length<n→x0 (aA l) (rest.foldl Av m) (l.length:Int) false →
   Ge x0 n (aA l) m (i:Int):=by
 intro rest;induction rest with
 | nil=>
  intro i m n hd hi hn k;have:i=l.length:=by
   have:=YS length hd;rw [lM] at this;have h2:([]:List Int).length=0:=rfl;omega
  match n,hn with
  | n+1,_ =>unfold Ge;rw [dD,this];exact GT (by omega) k
 | cons x t ih=>
  intro i m n hd hi hn k;have hlt:i<l.length:=by
   have:=YS length hd;rw [lM,iE] at this;omega
  have hx:l.getD i 0=x:=by have:=List.getElem_drop (xs:=l) (i:=i) (j:=0) (h:=by rw [hd];exact Ej _);rw [cN,bY hlt];simp only [hd,List.getElem_cons_zero,wN] at this;exact this.symm
  have ht:l.drop (i+1)=t:=by rw [← List.tail_drop,hd];rfl
  match n,hn with
  | n+1,hn =>unfold Ge;rw [dD];refine Oe (by omega) ?_;refine xS (by omega) (xS (by omega) (ymH (BK (by omega)) ?_));rw [cH,fD hlt,hx,fP (n:=(i:Int)+1) ⟨by omega,by omega⟩];exact ih (i+1) _ n ht (by omega) (by rw [iE] at hn;omega) k
theorem ml {l:List Int} (hl:l.length<9223372036854775807) {x:Int} {t:List Int} (e:l=x::t) {K:Int→Prop} (k:K (t.foldl Av x)):Gf (aA l) K:=by
 have h0:0<l.length:=by rw [e];exact Ej _
 unfold Gf Ul;rw [dD];refine GT (by omega) (xS (by omega) (ymH (BK h0) ⟨l.length+1,?_⟩));have e0:l.getD 0 0=x:=by rw [e];rfl
 rw [fD h0,e0];refine yMV hl _ t 1 x _ (by rw [e];rfl) (by omega) (by rw [e,iE];omega) ?_;exact k
def vM (l:List Int) (i:Nat):Prop:=∀ j,i≤j→j+1<l.length→l.getD j 0<l.getD (j+1) 0
theorem yIY {l:List Int} {p2:List PV} {p0:Int} (hl:l.length<9223372036854775807) (W1 W2:List PV→(Int→Prop)→Prop) (x0:Int→Prop) (x1:Int→List PV→List PV→Int→Int→Bool→Prop) :
  ∀ (r i n:Nat),i+r+1=l.length→r<n→(vM l i→x1 p0 (aA l) p2 ((l.length:Int)-1) ((l.length:Int)-1) false)→(¬vM l i→x0 8) →
   Gg W1 W2 x0 x1 n p0 (aA l) p2 ((l.length:Int)-1) (i:Int):=by
 intro r;induction r with
 | zero=>
  intro i n hi hn k _
  match n,hn with
  | n+1,_=>
   unfold Gg;have e:(i:Int)=(l.length:Int)-1:=by omega
   refine GT (by omega) ?_;rw [e];exact k (fun j h1 h2=>by omega)
 | succ r ih=>
  intro i n hi hn k k0
  match n,hn with
  | n+1,hn=>
   unfold Gg;rw [fP (n:=(i:Int)+1) ⟨by omega,by omega⟩,dD];have e1:((i:Int)+1)=((i+1:Nat):Int):=by omega
   rw [e1,cH,cH];refine Oe (by omega) (xS (by omega) (xS (by omega) (ymH (BK (by omega)) (xS (by omega) (xS (by omega) (ymH (BK (by omega)) ?_))))));rw [fD (by omega),fD (by omega)]
   by_cases h:l.getD i 0≥l.getD (i+1) 0
   ·exact Oe h (k0 fun hc=>absurd (hc i (bX _) (by omega)) (by omega))
   ·refine GT h (ih (i+1) n (by omega) (by omega) (fun hc=>k fun j h1 h2=>?_) (fun hc=>k0 fun hd=>hc fun j h1 h2=>hd j (by omega) h2))
    by_cases hj:j=i
    ·subst hj;omega
    ·exact hc j (by omega) h2
def small (q:Rat):Prop:=-1000000000000000000≤q.num∧q.num≤1000000000000000000∧(q.den:Int)≤1000000000000000000
instance (q:Rat):Decidable (small q):=by unfold small;infer_instance
theorem small.rv {q:Rat} (h:small q):RV q.num q.den:=by obtain ⟨h1,h2,h3⟩:=h;have:=q.den_pos;exact ⟨by omega,h3,h1,h2,q.reduced⟩
theorem Xc {n d:Int} (h:RV n d):∃ q:Rat,small q∧q.num=n∧(q.den:Int)=d:=by
 obtain ⟨h1,h2,h3,h4,h5⟩:=h;refine ⟨⟨n,d.toNat,by omega,?_⟩,⟨h3,h4,by show ((d.toNat:Nat):Int)≤_;omega⟩,rfl,by show ((d.toNat:Nat):Int)=_;omega⟩;have:d.natAbs=d.toNat:=by omega
 rw [this] at h5;exact h5
theorem small.i1 {q:Rat} (h:small q):cB q.num:=⟨by have:=h.1;omega,by have:=h.2.1;omega⟩
theorem small.i2 {q:Rat} (h:small q):cB (q.den:Int):=⟨by omega,by have:=h.2.2;omega⟩
theorem GU {q r:Rat} (h:small q) (k:small r):cJ q.num q.den r.num r.den=0:=tO.2 ⟨h.rv,k.rv⟩
def fitK (q:Rat) (K:Int→Int→Int→Prop):Prop:=if small q then K q.num q.den 0 else K 0 0 16
theorem Xd {q:Rat} {s:Bool} {a b:Int} (ha:a=(q.num.natAbs:Int)) (hb:b=(q.den:Int)) (hs:q.num≠0→s=decide (q.num<0)) (K:Int→Int→Int→Prop):fQ s a b K=fitK q K:=by
 unfold fQ fitK;subst ha hb
 by_cases h:small q
 ·have h':=h;obtain ⟨h1,h2,h3⟩:=h;rw [YQ (show _∧_ from ⟨by omega,h3⟩),YQ h'];have e:(if s=true then -((q.num.natAbs:Nat):Int) else ((q.num.natAbs:Nat):Int))=q.num:=by
   by_cases h0:q.num=0
   ·rw [h0];cases s<;>rfl
   ·rw [hs h0]
    by_cases h1:q.num<0
    ·rw [Ef h1,YQ rfl];omega
    ·rw [Os h1,YR (by simp)];omega
  rw [e]
 ·rw [YR h,YR];intro h2;exact h ⟨by omega,by omega,h2.2⟩
theorem mn (x:Int) (g:Nat):(Int.tdiv x g).natAbs=x.natAbs/g:=by rw [Int.natAbs_tdiv,Cd];rfl
theorem mo {x:Int} {g:Nat} (h:(g:Int)∣x) (hx:x≠0):decide (Int.tdiv x g<0)=decide (x<0):=by
 obtain ⟨k,rfl⟩:=h;have hg:(g:Int)≠0:=fun e=>hx (by rw [e,Int.zero_mul])
 rw [Int.mul_tdiv_cancel_left _ hg];have h1:(g:Int)>0:=by have:=Int.natCast_nonneg g;omega
 have:(g:Int)*k<0↔k<0:=by
  constructor
  ·intro h;refine Int.not_le.1 fun hk=>?_
   have:=lO (show 0≤(g:Int) by omega) hk;omega
  ·intro h;exact KL h1 h
 simp only [this]
theorem yLo (q r:Rat):(q*r).num=Int.tdiv q.num (Nat.gcd q.num.natAbs r.den)*Int.tdiv r.num (Nat.gcd r.num.natAbs q.den) ∧
  (q*r).den=(q.den/Nat.gcd r.num.natAbs q.den)*(r.den/Nat.gcd q.num.natAbs r.den):=by
 have e:q*r=Rat.mul q r:=rfl;rw [e]
 delta Rat.mul
 constructor
 ·simp only [Int.divExact_eq_tdiv]
 ·simp only [Nat.divExact_eq_div]
theorem Kd (x:Int) (d:Nat):((Nat.gcd x.natAbs d:Nat):Int)∣x:=by rw [← Int.dvd_natAbs,Int.ofNat_dvd];exact Nat.gcd_dvd_left _ _
theorem mq {x:Int} {g:Nat} (h:(g:Int)∣x) (hx:x≠0):Int.tdiv x g≠0:=by
 obtain ⟨k,rfl⟩:=h;have hg:(g:Int)≠0:=fun e=>hx (by rw [e,Int.zero_mul])
 rw [Int.mul_tdiv_cancel_left _ hg];intro e;rw [e,Int.mul_zero] at hx;exact hx rfl
theorem yMX {x y:Int} (hx:x≠0) (hy:y≠0):decide (x*y<0)=(decide (x<0) !=decide (y<0)):=by
 by_cases h1:x<0<;>by_cases h2:y<0
 ·have:=Int.mul_pos_of_neg_of_neg h1 h2;simp [h1,h2];omega
 ·have:=Hw h1 (show 0<y by omega);simp [h1,h2];omega
 ·have:=KL (show 0<x by omega) h2;simp [h1,h2];omega
 ·have:=Int.mul_pos (show 0<x by omega) (show 0<y by omega);simp [h1,h2];omega
theorem Xe (q r:Rat) (K:Int→Int→Int→Prop):fQ (decide (q.num<0) !=decide (r.num<0)) (iY q.num r.num q.den r.den) (lH q.num r.num q.den r.den) K=fitK (q*r) K:=by
 obtain ⟨e1,e2⟩:=yLo q r;refine Xd ?_ ?_ ?_ K
 ·rw [e1,Int.natAbs_mul,mn,mn];simp only [iY,Cd]
 ·rw [e2];simp only [lH,Cd]
 ·intro h;rw [e1] at h ⊢;have h1:q.num≠0:=fun e=>h (by rw [e,Int.zero_tdiv,Int.zero_mul])
  have h2:r.num≠0:=fun e=>h (by rw [e,Int.zero_tdiv,Int.mul_zero])
  rw [yMX (mq (Kd _ _) h1) (mq (Kd _ _) h2),mo (Kd _ _) h1,mo (Kd _ _) h2]
theorem Ke {w:(Int→Int→Int→Prop)→Prop} {q:Rat} (det:∀ r0 r1 r2,(∀ K:Int→Int→Int→Prop,K r0 r1 r2→w K)→∀ K,w K=K r0 r1 r2) (h:∀ K,fitK q K→w K) (K:Int→Int→Int→Prop):w K=fitK q K:=by
 unfold fitK at h ⊢
 by_cases hs:small q
 ·simp only [YQ hs] at h ⊢;exact det _ _ _ h K
 ·simp only [YR hs] at h ⊢;exact det _ _ _ h K
theorem DE {q r:Rat} (hq:small q) (hr:small r) (K:Int→Int→Int→Prop):lZ q.num q.den r.num r.den K=fitK (q*r) K:=
 Ke (fun r0 r1 r2 h K=>yCN _ _ _ _ r0 r1 r2 h K) (fun K k=>Xa hq.i1 hq.i2 hr.i1 hr.i2 (by rw [YQ (GU hq hr),Xe];exact k)) K
theorem yLp {r:Rat} (h:r≠0):(r⁻¹).num=(if r.num<0 then -(r.den:Int) else r.den)∧(r⁻¹).den=r.num.natAbs:=by
 have h0:r.num≠0:=fun e=>h (Rat.num_eq_zero.1 e)
 constructor
 ·rw [Rat.num_inv]
  by_cases h1:r.num<0
  ·rw [YQ h1,Int.sign_eq_neg_one_of_neg h1];omega
  ·rw [YR h1,Int.sign_eq_one_of_pos (by omega)];omega
 ·rw [Rat.den_inv,YR h0]
theorem Kf {q r:Rat} (hq:small q) (hr:small r) (h0:r≠0) (K:Int→Int→Int→Prop):iF q.num q.den r.num r.den K=fitK (q/r) K:=by
 have hn:r.num≠0:=fun e=>h0 (Rat.num_eq_zero.1 e)
 refine Ke (fun r0 r1 r2 h K=>yCO _ _ _ _ r0 r1 r2 h K) (fun K k=>yQD hq.i1 hq.i2 hr.i1 hr.i2 ?_) K;rw [YQ (GU hq hr),YR hn];rw [Rat.div_def,← Xe] at k;obtain ⟨e1,e2⟩:=yLp h0;rw [e1,e2] at k;have s:decide ((if r.num<0 then -(r.den:Int) else (r.den:Int))<0)=decide (r.num<0):=by
  have:=r.den_pos;split
  ·rename_i h;simp only [h];simp;omega
  ·rename_i h;simp only [h];simp
 rw [s] at k;have hd:(if r.num<0 then -(r.den:Int) else (r.den:Int)).natAbs=r.den:=by split<;>omega
 unfold iY lH at k ⊢;simp only [hd,Cd] at k ⊢;exact k
theorem yLq (q r:Rat):(q+r).num=(q.num*(r.den/Nat.gcd q.den r.den:Nat)+r.num*(q.den/Nat.gcd q.den r.den:Nat))/(Nat.gcd (q.num*(r.den/Nat.gcd q.den r.den:Nat)+r.num*(q.den/Nat.gcd q.den r.den:Nat)).natAbs (Nat.gcd q.den r.den):Nat) ∧
  (q+r).den=(q.den/Nat.gcd q.den r.den)*r.den/Nat.gcd (q.num*(r.den/Nat.gcd q.den r.den:Nat)+r.num*(q.den/Nat.gcd q.den r.den:Nat)).natAbs (Nat.gcd q.den r.den):=by
 have e:q+r=Rat.add q r:=rfl;rw [e]
 delta Rat.add
 by_cases hg:q.den.gcd r.den=1
 ·simp only [hg,dif_pos,Nat.div_one,Nat.gcd_one_right,Int.natCast_one,Int.ediv_one,and_self]
 ·simp only [hg,dif_neg,not_false_eq_true,Rat.maybeNormalize_eq];constructor
  ·first | rfl | simp only [Int.divExact_eq_tdiv]
  ·first | rfl | simp only []
theorem yMY {q r:Rat} {Z:Int} {g:Nat} (e1:(q+r).num=Z/(Nat.gcd Z.natAbs g:Nat)) (e2:(q+r).den=(q.den/g)*r.den/Nat.gcd Z.natAbs g) (hgp:0<g) (hgd:g∣r.den) (K:Int→Int→Int→Prop) :
  kK (decide (Z<0)) (Z.natAbs:Int) q.den r.den g K=fitK (q+r) K:=by
 unfold kK
 by_cases h0:Z=0
 ·subst h0;have:(q+r)=0:=by
   apply Rat.num_eq_zero.1;rw [e1];simp
  rw [this,YQ (by rfl)];unfold fitK;rw [YQ (by decide)];rfl
 ·have hne:¬((Z.natAbs:Nat):Int)=0:=by omega
  rw [YR hne];have hdv:((Nat.gcd Z.natAbs g:Nat):Int)∣Z:=Kd _ _;have hhp:0<Nat.gcd Z.natAbs g:=yA _ hgp;have hhg:Nat.gcd Z.natAbs g∣r.den:=Nat.dvd_trans (Cf _ _) hgd;refine Xd ?_ ?_ ?_ K
  ·rw [e1,Int.natAbs_ediv_of_dvd hdv];simp
  ·rw [e2];simp only [cH];rw [Nat.mul_div_assoc _ hhg]
  ·intro h;rw [e1];obtain ⟨k,hk⟩:=hdv;revert hhp hk;generalize Nat.gcd Z.natAbs g=h;intro hhp hk;have e:Z/(h:Int)=k:=by rw [hk,Int.mul_ediv_cancel_left _ (by omega)]
   rw [e];have:Z<0↔k<0:=by
    rw [hk];constructor
    ·intro hk;refine Int.not_le.1 fun hk2=>?_
     have:=lO (show 0≤(h:Int) by omega) hk2;omega
    ·intro hk;exact KL (by omega) hk
   simp only [this]
theorem mr (q r:Rat) (K:Int→Int→Int→Prop) :
  kK (decide (q.num*((r.den:Int)/(Nat.gcd (q.den:Int).natAbs (r.den:Int).natAbs:Nat))+r.num*((q.den:Int)/(Nat.gcd (q.den:Int).natAbs (r.den:Int).natAbs:Nat))<0))
   ((q.num*((r.den:Int)/(Nat.gcd (q.den:Int).natAbs (r.den:Int).natAbs:Nat))+r.num*((q.den:Int)/(Nat.gcd (q.den:Int).natAbs (r.den:Int).natAbs:Nat))).natAbs:Int) q.den r.den (Nat.gcd (q.den:Int).natAbs (r.den:Int).natAbs) K=fitK (q+r) K:=by
 obtain ⟨e1,e2⟩:=yLq q r;rw [rD,rD] at e1 e2;exact yMY e1 e2 (Nat.gcd_pos_of_pos_left _ q.den_pos) (Cf _ _) K
theorem DF {q r:Rat} (hq:small q) (hr:small r) (K:Int→Int→Int→Prop):ya1 q.num q.den r.num r.den K=fitK (q+r) K:=
 Ke (fun r0 r1 r2 h K=>yCL _ _ _ _ r0 r1 r2 h K) (fun K k=>mi hq.i1 hq.i2 hr.i1 hr.i2 (by rw [YQ (GU hq hr),mr];exact k)) K
theorem GV {q r:Rat} (hq:small q) (hr:small r) (K:Int→Int→Int→Prop):nY q.num q.den r.num r.den K=fitK (q-r) K:=
 Ke (fun r0 r1 r2 h K=>yCM _ _ _ _ r0 r1 r2 h K) (fun K k=>yQE hq.i1 hq.i2 hr.i1 hr.i2 (by
  rw [YQ (GU hq hr)];rw [Rat.sub_eq_add_neg,← mr] at k;exact k)) K
theorem yMZ {n d:Int} (hd:d≠0) (K:Int→Int→Int→Prop):fQ (decide (n<0) !=decide (d<0)) ((n.natAbs/Nat.gcd n.natAbs d.natAbs:Nat):Int) ((d.natAbs/Nat.gcd n.natAbs d.natAbs:Nat):Int) K=fitK ((n:Rat)/(d:Rat)) K:=by
 have e:(n:Rat)/(d:Rat)=mkRat (if d<0 then -n else n) d.natAbs:=by
  rw [Rat.mkRat_eq_div];split
  ·rename_i h;have h1:((d.natAbs:Nat):Int)=-d:=by omega
   have h2:((d.natAbs:Nat):Rat)=-(d:Rat):=by rw [← HA,h1,Rat.intCast_neg]
   rw [h2,Rat.intCast_neg];have h3:(d:Rat)≠0:=fun e=>hd (Rat.intCast_eq_zero_iff.1 e)
   grind
  ·rename_i h;have h1:((d.natAbs:Nat):Int)=d:=by omega
   have h2:((d.natAbs:Nat):Rat)=(d:Rat):=by rw [← HA,h1]
   rw [h2]
 have h0:d.natAbs≠0:=by omega
 have hab:(if d<0 then -n else n).natAbs=n.natAbs:=by split<;>omega
 rw [e];refine Xd ?_ ?_ ?_ K
 ·rw [Rat.num_mkRat,YR h0,hab,Int.natAbs_ediv_of_dvd,Cd,hab,tY];rw [← Int.dvd_natAbs,Int.ofNat_dvd,hab];exact Cf _ _
 ·rw [Rat.den_mkRat,YR h0,hab,tY]
 ·rw [Rat.num_mkRat,YR h0,hab];have hdv:((Nat.gcd d.natAbs n.natAbs:Nat):Int)∣(if d<0 then -n else n):=by
   rw [← Int.dvd_natAbs,Int.ofNat_dvd,hab];exact Cf _ _
  have hp:0<Nat.gcd d.natAbs n.natAbs:=Nat.gcd_pos_of_pos_left _ (by omega);obtain ⟨k,hk⟩:=hdv;rw [hk,Int.mul_ediv_cancel_left _ (by omega)];intro hk0;generalize Nat.gcd d.natAbs n.natAbs=g at *
  have h1:(g:Int)*k<0↔k<0:=by
   constructor
   ·intro hk;refine Int.not_le.1 fun hk2=>?_
    have:=lO (show 0≤(g:Int) by omega) hk2;omega
   ·intro hk;exact KL (by omega) hk
  have h2:(g:Int)*k≠0:=fun e=>by rcases Int.mul_eq_zero.1 e with e | e<;>omega
  by_cases hd2:d<0
  ·rw [YQ hd2] at hk
   by_cases hn:n<0
   ·have:¬k<0:=by omega
    simp [hd2,hn,this]
   ·have:k<0:=by omega
    simp [hd2,this];omega
  ·rw [YR hd2] at hk
   by_cases hn:n<0
   ·have:k<0:=by omega
    simp [hd2,hn,this]
   ·have:¬k<0:=by omega
    simp [hd2,this];omega
theorem yM0 {n d:Int} (hn:cB n) (hd:cB d) (h0:d≠0) (K:Int→Int→Int→Prop):dM n d K=fitK ((n:Rat)/(d:Rat)) K:=
 Ke (fun r0 r1 r2 h K=>yBf _ _ r0 r1 r2 h K) (fun K k=>Make_of hn hd (by rw [YR h0,yMZ h0];exact k)) K
def gP (q r:Rat):Int:=if q<r then -1 else if r<q then 1 else 0
theorem ms (q r:Rat):pO q.num q.den r.num r.den=gP q r:=by unfold pO iH gP;simp only [Rat.lt_iff]
theorem Kg {q r:Rat} (hq:small q) (hr:small r) (K:Int→Int→Prop):tG q.num q.den r.num r.den K=K (gP q r) 0:=
 yCP _ _ _ _ _ _ (fun K k=>lu hq.i1 hq.i2 hr.i1 hr.i2 (by rw [GU hq hr,YQ rfl,ms];exact k)) K
theorem Xf {n d:Int} (hn:cB n) (hd:cB d) (K:Int→Prop):nX n d K=K (lQ n d):=
 yy7 _ _ _ (fun K k=>WZ hn hd k) K
theorem Kh {p:Int} (h:cB p) (K:Int→Prop):JB p K=K (p.natAbs:Int):=by
 unfold cB at h;unfold JB Va
 by_cases hp:p<0
 ·have e0:i64.wrap (p+1)=p+1:=fP ⟨by omega,by omega⟩;have e1:i64.wrap ((0:Int)-(p+1))=-(p+1):=by rw [fP ⟨by omega,by omega⟩];omega
  have e2:u64.wrap (-(p+1))=-(p+1):=aT ⟨by omega,by omega⟩;have e3:u64.wrap (-(p+1)+1)=(p.natAbs:Int):=by rw [aT ⟨by omega,by omega⟩];omega
  rw [Ef hp,aX,e0,e1,e2,e3]
 ·rw [Os hp,aU,aT ⟨by omega,by omega⟩];congr 1;omega
theorem mu (x:Int→Int→Bool→Prop):∀ (n a b:Nat),b<n→JC x n (a:Int) (b:Int)=x ((Nat.gcd a b:Nat):Int) 0 false
 | 0,a,b,h=>by omega
 | n+1,a,b,h=>by
  unfold JC
  by_cases hb:b=0
  ·subst hb;simp [aB]
  ·have h1:((b:Int) !=0)=true:=by simp;omega
   have h2:¬((b:Int)=0):=by omega
   rw [h1,aX,Os h2,qI,cZ];have e:Int.tmod (a:Int) (b:Int)=((a%b:Nat):Int):=by rw [Int.tmod_eq_emod_of_nonneg (by omega)];omega
   rw [e,mu x n b (a%b) (by have:=Nat.mod_lt a (show b>0 by omega);omega)];rw [tY a b,Nat.gcd_rec b a,tY]
theorem Xg (a b:Nat) (K:Int→Prop):Dm (a:Int) (b:Int) K=K ((Nat.gcd a b:Nat):Int):=by refine yHa _ _ _ (fun K h=>?_) K;unfold Dm Vb;exact ⟨b+1,by rw [mu _ (b+1) a b (by omega)];exact h⟩
theorem Ki {a b:Int} (h:a=b):(a !=b)=false:=by simp [h]
theorem Kj {a b:Int} (h:a≠b):(a !=b)=true:=by simp [h]
theorem mw {a b:Int} (h:a≠b):(a==b)=false:=by simp [h]
theorem yRU {a b:Int} (h:a=b):(a==b)=true:=by simp [h]
theorem Xh {n d:Int} (hn:cB n) (hd:cB d) (K:Int→Prop):NI n d K=K (lQ n d):=by
 unfold NI Vf
 by_cases h1:d<1
 ·rw [Ef h1,aX,lQ,YR (fun h=>by have:=h.1;omega)]
 ·rw [Os h1,aU]
  by_cases h2:d>1000000000000000000
  ·rw [Ef h2,aX,lQ,YR (fun h=>by have:=h.2.1;omega)]
  ·rw [Os h2,aU]
   by_cases h3:n < -1000000000000000000
   ·rw [Ef h3,aX,lQ,YR (fun h=>by have:=h.2.2.1;omega)]
   ·rw [Os h3,aU]
    by_cases h4:n>1000000000000000000
    ·rw [Ef h4,aX,lQ,YR (fun h=>by have:=h.2.2.2.1;omega)]
    ·have ed:u64.wrap d=((d.natAbs:Nat):Int):=by rw [aT ⟨by omega,by omega⟩];omega
     rw [Os h4,aU,Kh hn,ed,Xg]
     by_cases h5:Nat.gcd n.natAbs d.natAbs=1
     ·rw [h5,Ki (by rfl),aU,lQ,YQ ⟨by omega,by omega,by omega,by omega,h5⟩]
     ·rw [Kj (by omega),aX,lQ,YR (fun h=>h5 h.2.2.2.2)]
theorem yM1 {a b c d:Int} (ha:cB a) (hb:cB b) (hc:cB c) (hd:cB d) (K:Int→Prop):NJ a b c d K=K (cJ a b c d):=by
 unfold NJ Vg;rw [Xh ha hb,Xh ha hb,Xh hc hd,cJ]
 by_cases h:lQ a b=0
 ·rw [Ki h,aU,YQ h]
 ·rw [Kj h,aX,YR h]
theorem Xi {m s:Int} (hm:0≤m) (hs:0≤s∧s<4294967296):u64.wrap (BitVec.ofInt u64.bits (u64.wrap (m*4294967296))|||BitVec.ofInt u64.bits s).toNat=m%4294967296*4294967296+s:=by
 have e:u64.wrap (m*4294967296)=m%4294967296*2 ^ 32:=by rw [As];omega
 rw [e,lz (k:=32) (by omega) ⟨hs.1,by omega⟩ ⟨by omega,by omega⟩ (by omega)];omega
theorem yM2 {a b:Int} (ha:iC a) (hb:iC b) (K:Int→Int→Prop):JD a b K=K (a*b/18446744073709551616) (a*b%18446744073709551616):=by
 unfold JD Vh;simp only [lq];rw [Au ha,Au hb];unfold iC at ha hb;have ha':=ha;have hb':=hb;obtain ⟨x1,hx1⟩:∃ x,x=a/4294967296:=⟨_,rfl⟩;obtain ⟨x0,hx0⟩:∃ x,x=a%4294967296:=⟨_,rfl⟩;obtain ⟨y1,hy1⟩:∃ x,x=b/4294967296:=⟨_,rfl⟩;obtain ⟨y0,hy0⟩:∃ x,x=b%4294967296:=⟨_,rfl⟩;rw [← hx1,← hx0,← hy1,← hy0];have b1:0≤x1∧x1≤4294967295:=by omega
 have b2:0≤x0∧x0≤4294967295:=by omega
 have b3:0≤y1∧y1≤4294967295:=by omega
 have b4:0≤y0∧y0≤4294967295:=by omega
 have pb:∀ x y:Int,0≤x∧x≤4294967295→0≤y∧y≤4294967295→0≤x*y∧x*y≤18446744065119617025:=by intro x y hx hy;refine ⟨lO hx.1 hy.1,?_⟩;have:=jZ hx.2 hy.2 hy.1 (by omega:(0:Int)≤4294967295);omega
 have p1:=pb x1 y1 b1 b3;have p2:=pb x1 y0 b1 b4;have p3:=pb x0 y1 b2 b3;have p4:=pb x0 y0 b2 b4;have ea:a=x1*4294967296+x0:=by omega
 have eb:b=y1*4294967296+y0:=by omega
 have eab:a*b=x1*y1*18446744073709551616+x1*y0*4294967296+x0*y1*4294967296+x0*y0:=by rw [ea,eb];grind
 obtain ⟨P,hP⟩:∃ x,x=x1*y1:=⟨_,rfl⟩;obtain ⟨Q,hQ⟩:∃ x,x=x1*y0:=⟨_,rfl⟩;obtain ⟨R,hR⟩:∃ x,x=x0*y1:=⟨_,rfl⟩;obtain ⟨S,hS⟩:∃ x,x=x0*y0:=⟨_,rfl⟩;rw [← hP] at p1;rw [← hQ] at p2;rw [← hR] at p3;rw [← hS] at p4;rw [← hP,← hQ,← hR,← hS] at eab ⊢;have w1:u64.wrap S=S:=aT ⟨by omega,by omega⟩;have w2:u64.wrap Q=Q:=aT ⟨by omega,by omega⟩;have w3:u64.wrap R=R:=aT ⟨by omega,by omega⟩;have w4:u64.wrap P=P:=aT ⟨by omega,by omega⟩;rw [w1,w2,w3,w4,Au (p:=Q) ⟨by omega,by omega⟩,Au (p:=S) ⟨by omega,by omega⟩];have w5:u64.wrap (Q%4294967296+R)=Q%4294967296+R:=aT ⟨by omega,by omega⟩;rw [w5];have w6:u64.wrap (Q%4294967296+R+S/4294967296)=Q%4294967296+R+S/4294967296:=aT ⟨by omega,by omega⟩;rw [w6,Xi (by omega) ⟨by omega,by omega⟩];have hab:a*b≤18446744073709551615*18446744073709551615:=jZ ha'.2 hb'.2 hb'.1 (by omega:(0:Int)≤18446744073709551615);rw [eab] at hab ⊢;have w7:u64.wrap (P+Q/4294967296)=P+Q/4294967296:=aT ⟨by omega,by omega⟩;rw [w7,aT ⟨by omega,by omega⟩];congr 1<;>omega
theorem yOT {s:Bool} {X Y:Int} (hx:0≤X) (hy:0≤Y) (K:Int→Int→Int→Prop) :
  NK s (X/18446744073709551616) (X%18446744073709551616) (Y/18446744073709551616) (Y%18446744073709551616) K=fQ s X Y K:=by
 unfold NK Vk fQ
 by_cases h:X≤1000000000000000000∧Y≤1000000000000000000
 ·have e1:i64.wrap (X%18446744073709551616)=X:=by rw [show X%18446744073709551616=X by omega,fP ⟨by omega,by omega⟩]
  have e2:i64.wrap (Y%18446744073709551616)=Y:=by rw [show Y%18446744073709551616=Y by omega,fP ⟨by omega,by omega⟩]
  rw [YQ h,Os (by omega),aU,Os (by omega),aU,Os (by omega),aU,Os (by omega),aU,e1,e2]
  cases s
  ·rw [aU];rfl
  ·rw [aX,fP ⟨by omega,by omega⟩,Int.zero_sub];rfl
 ·rw [YR h]
  by_cases h1:X/18446744073709551616>0
  ·rw [Ef h1,aX]
  ·rw [Os h1,aU]
   by_cases h2:Y/18446744073709551616>0
   ·rw [Ef h2,aX]
   ·rw [Os h2,aU]
    by_cases h3:X%18446744073709551616>1000000000000000000
    ·rw [Ef h3,aX]
    ·rw [Os h3,aU,Ef (by omega),aX]
theorem mz {g:Int} (h:g≠0) {P:Prop}:asr (!(decide (g=(0:Int)))) P=P:=by rw [Os h];rfl
theorem GW {n:Nat} (h:(n:Int)≤18446744073709551615):u64.wrap (n:Int)=n:=aT ⟨by omega,h⟩
theorem yRV (a b:Nat):Int.tdiv (a:Int) (b:Int)=((a/b:Nat):Int):=by rw [Int.tdiv_eq_ediv_of_nonneg (by omega),rD]
theorem nd {a b:Nat} (ha:a≤18446744073709551615) (hb:b≤18446744073709551615) (K:Int→Int→Prop) :
  JD (a:Int) (b:Int) K=K (((a*b:Nat):Int)/18446744073709551616) (((a*b:Nat):Int)%18446744073709551616):=by
 rw [yM2 ⟨by omega,by omega⟩ ⟨by omega,by omega⟩,Ci]
theorem yOU {q r:Rat} (hq:small q) (hr:small r) (K:Int→Int→Int→Prop):Dn q.num q.den r.num r.den K=fitK (q*r) K:=by
 unfold Dn Vm;rw [yM1 hq.i1 hq.i2 hr.i1 hr.i2,GU hq hr,Ki rfl,aU];have hq':=hq;have hr':=hr;obtain ⟨a1,a2,a3⟩:=hq;obtain ⟨b1,b2,b3⟩:=hr;have dq:=q.den_pos;have dr:=r.den_pos;have g0:0<Nat.gcd q.num.natAbs r.den:=yA _ dr;have h0:0<Nat.gcd r.num.natAbs q.den:=yA _ dq;rw [Kh hq'.i1,GW (n:=r.den) (by omega),Xg,Kh hr'.i1,GW (n:=q.den) (by omega),Xg];simp only [Kh hq'.i1,Kh hr'.i1];have q1:q.num.natAbs/Nat.gcd q.num.natAbs r.den≤q.num.natAbs:=qH _ _;have q2:r.num.natAbs/Nat.gcd r.num.natAbs q.den≤r.num.natAbs:=qH _ _;have q3:q.den/Nat.gcd r.num.natAbs q.den≤q.den:=qH _ _;have q4:r.den/Nat.gcd q.num.natAbs r.den≤r.den:=qH _ _;have e1:iY q.num r.num q.den r.den=q.num.natAbs/Nat.gcd q.num.natAbs r.den*(r.num.natAbs/Nat.gcd r.num.natAbs q.den):=rfl;have e2:lH q.num r.num q.den r.den=q.den/Nat.gcd r.num.natAbs q.den*(r.den/Nat.gcd q.num.natAbs r.den):=rfl;have z1:q.num=0→iY q.num r.num q.den r.den=0:=fun h=>by rw [e1,h,Int.natAbs_zero,Nat.zero_div,Nat.zero_mul]
 have z2:r.num=0→iY q.num r.num q.den r.den=0:=fun h=>by rw [e1,h,Int.natAbs_zero,Nat.zero_div,Nat.mul_zero]
 have n1:∀ P:Prop,asr (!(decide (((Nat.gcd q.num.natAbs r.den:Nat):Int)=(0:Int)))) P=P:=fun P=>mz (by omega)
 have n2:∀ P:Prop,asr (!(decide (((Nat.gcd r.num.natAbs q.den:Nat):Int)=(0:Int)))) P=P:=fun P=>mz (by omega)
 have w1:=GW (n:=q.num.natAbs/Nat.gcd q.num.natAbs r.den) (by omega);have w2:=GW (n:=r.num.natAbs/Nat.gcd r.num.natAbs q.den) (by omega);have w3:=GW (n:=q.den/Nat.gcd r.num.natAbs q.den) (by omega);have w4:=GW (n:=r.den/Nat.gcd q.num.natAbs r.den) (by omega);have t1:=nd (a:=q.num.natAbs/Nat.gcd q.num.natAbs r.den) (b:=r.num.natAbs/Nat.gcd r.num.natAbs q.den) (by omega) (by omega);have t2:=nd (a:=q.den/Nat.gcd r.num.natAbs q.den) (b:=r.den/Nat.gcd q.num.natAbs r.den) (by omega) (by omega);have m:=fun s=>yOT (s:=s) (X:=((iY q.num r.num q.den r.den:Nat):Int)) (Y:=((lH q.num r.num q.den r.den:Nat):Int)) (Int.natCast_nonneg _) (Int.natCast_nonneg _) K
 rw [← e1] at t1;rw [← e2] at t2;simp only [n1,n2,yRV,w1,w2,w3,w4,t1,t2,m];rw [← Xe];have zs:∀ s s':Bool,iY q.num r.num q.den r.den=0→fQ s (iY q.num r.num q.den r.den:Nat) (lH q.num r.num q.den r.den:Nat) K=fQ s' (iY q.num r.num q.den r.den:Nat) (lH q.num r.num q.den r.den:Nat) K:=by
  intro s s' h;rw [h]
  cases s<;>cases s' <;> rfl
 by_cases hs:(decide (q.num<0) !=decide (r.num<0))=true
 ·rw [hs,aX]
  by_cases n1:q.num=0
  ·rw [Ki n1,aU];exact zs _ _ (z1 n1)
  ·rw [Kj n1,aX]
   by_cases n2:r.num=0
   ·exact zs _ _ (z2 n2)
   ·rw [Kj n2]
 ·have hs':(decide (q.num<0) !=decide (r.num<0))=false:=by simpa using hs
  rw [hs',aU]
theorem bS {c:Prop} [Decidable c] {P Q:Prop} (h:c):aB (decide c) P Q=P:=by rw [Ef h,aX]
theorem bG {c:Prop} [Decidable c] {P Q:Prop} (h:¬c):aB (decide c) P Q=Q:=by rw [Os h,aU]
theorem fR {a b:Int} {P Q:Prop} (h:a≠b):aB (a !=b) P Q=P:=by rw [Kj h,aX]
theorem cV {a b:Int} {P Q:Prop} (h:a=b):aB (a !=b) P Q=Q:=by rw [Ki h,aU]
theorem nI {a b:Int} {P Q:Prop} (h:a=b):aB (a==b) P Q=P:=by rw [yRU h,aX]
theorem pP {a b:Int} {P Q:Prop} (h:a≠b):aB (a==b) P Q=Q:=by rw [mw h,aU]
theorem aI {c:Prop} [Decidable c] {P:Prop} (h:c):asr (decide c) P=P:=by rw [Ef h,cZ]
theorem fS {l:List Int} {i:Nat} {P:Prop} (h:i<l.length):asr (aG zI (getD (aA l) i .nils)) P=P:=by rw [BK h,cZ]
theorem cL {n:Int} (h1:-9223372036854775808≤n) (h2:n≤9223372036854775807):i64.wrap n=n:=fP ⟨h1,h2⟩
theorem dN (i:Nat):(i:Int)+1=((i+1:Nat):Int):=by omega
theorem rV {x:Int} (h:-1000000000000000000≤x∧x≤1000000000000000000):small (x:Rat):=by unfold small;rw [Rat.num_intCast,Rat.den_intCast];omega
def DH (dens:List Int):Prop:=∀ d∈dens,0≤d∧d≤12
def DJ (dens:List Int):Prop:=∃ d∈dens,0<d
instance (l:List Int):Decidable (DH l):=by unfold DH;infer_instance
instance (l:List Int):Decidable (DJ l):=by unfold DJ;infer_instance
def VC (len:Int) (cuts dens:List Int):Prop:=
 1≤len∧len≤1000∧2≤cuts.length∧cuts.length≤40∧dens.length+1=cuts.length∧cuts.getD 0 0=0∧cuts.getD (cuts.length-1) 0=len∧vM cuts 0∧DH dens∧DJ dens
theorem yM4 (l:List Int):vM l 0↔∀ j,j<l.length→j+1<l.length→l.getD j 0<l.getD (j+1) 0:=⟨fun h j _ h2=>h j (by omega) h2,fun h j _ h2=>h j (by omega) h2⟩
instance (l:List Int):Decidable (vM l 0):=decidable_of_iff _ (yM4 l).symm
instance (len:Int) (cuts dens:List Int):Decidable (VC len cuts dens):=by unfold VC;infer_instance
def jS (len:Int) (cuts dens:List Int):Int:=if len>1000∨cuts.length>40 then 4 else if VC len cuts dens then 0 else 8
theorem nf (l:List Int) (x:Int):(l.foldl Kc x<0)↔¬(∀ d∈x::l,0≤d):=by
 induction l generalizing x with
 | nil=>simp
 | cons y t ih=>
  rw [List.foldl_cons,ih];unfold Kc;simp only [List.forall_mem_cons];split
  ·constructor
   ·intro h h2;exact h ⟨h2.2.1,h2.2.2⟩
   ·intro h h2;exact h ⟨by omega,h2.1,h2.2⟩
  ·constructor
   ·intro h h2;exact h ⟨h2.1,h2.2.2⟩
   ·intro h h2;exact h ⟨h2.1,by omega,h2.2⟩
theorem Kk (l:List Int) (x k:Int):(l.foldl Av x>k)↔¬(∀ d∈x::l,d≤k):=by
 induction l generalizing x with
 | nil=>simp
 | cons y t ih=>
  rw [List.foldl_cons,ih];unfold Av;simp only [List.forall_mem_cons];split
  ·constructor
   ·intro h h2;exact h ⟨h2.2.1,h2.2.2⟩
   ·intro h h2;exact h ⟨by omega,h2.1,h2.2⟩
  ·constructor
   ·intro h h2;exact h ⟨h2.1,h2.2.2⟩
   ·intro h h2;exact h ⟨h2.1,by omega,h2.2⟩
theorem GX {len:Int} {cuts dens:List Int} (h1:cuts.length<4611686018427387904) (h2:dens.length<4611686018427387904) (K:Int→Prop) :
  yaI len (aA cuts) (aA dens) K=K (jS len cuts dens):=by
 refine yBg _ _ _ _ (fun K k=>?_) K;unfold yaI Un;simp only [dD];have bad:¬(len>1000∨cuts.length>40)→¬VC len cuts dens→K 8:=fun h h2=>by
  rw [jS,YR h,YR h2] at k;exact k
 by_cases a1:len>1000
 ·rw [bS a1];rw [jS,YQ (.inl a1)] at k;exact k
 rw [bG a1]
 by_cases a2:cuts.length>40
 ·rw [bS (by omega)];rw [jS,YQ (.inr a2)] at k;exact k
 have a12:¬(len>1000∨cuts.length>40):=by omega
 rw [bG (by omega)]
 by_cases a3:len<1
 ·rw [bS a3];exact bad a12 (fun h=>by have:=h.1;omega)
 rw [bG a3]
 by_cases a4:cuts.length<2
 ·rw [bS (by omega)];exact bad a12 (fun h=>by have:=h.2.2.1;omega)
 rw [bG (by omega),cL (n:=(cuts.length:Int)-1) (by omega) (by omega)]
 by_cases a5:dens.length+1=cuts.length
 case neg=>rw [fR (by omega)];exact bad a12 (fun h=>a5 h.2.2.2.2.1)
 rw [cV (by omega),aI (by omega),fS (by omega),fD (by omega)]
 by_cases a6:cuts.getD 0 0=0
 case neg=>rw [fR a6];exact bad a12 (fun h=>a6 h.2.2.2.2.2.1)
 rw [cV a6,aI (by omega),aI (by omega),fS (by omega),fD (by omega)];have en:((cuts.length:Int)-1).toNat=cuts.length-1:=by omega
 rw [en]
 by_cases a7:cuts.getD (cuts.length-1) 0=len
 case neg=>rw [fR a7];exact bad a12 (fun h=>a7 h.2.2.2.2.2.2.1)
 rw [cV a7];refine ⟨cuts.length+1,?_⟩;refine yIY (by omega) _ _ _ _ (cuts.length-1) 0 _ (by omega) (by omega) (fun hi=>?_) (fun hi=>bad a12 (fun h=>hi h.2.2.2.2.2.2.2.1));obtain ⟨x,t,e⟩:∃ x t,dens=x::t:=by
  cases dens with
  | nil=>exfalso;have:([]:List Int).length=0:=rfl;omega
  | cons x t=>exact ⟨x,t,rfl⟩
 refine yQF (by omega) e ?_
 by_cases b1:t.foldl Kc x<0
 ·rw [bS b1];rw [nf] at b1;exact bad a12 (fun h=>b1 fun d hd=>(h.2.2.2.2.2.2.2.2.1 d (by rw [e];exact hd)).1)
 rw [bG b1];refine ml (by omega) e ?_
 by_cases b2:t.foldl Av x>12
 ·rw [bS b2];rw [Kk] at b2;exact bad a12 (fun h=>b2 fun d hd=>(h.2.2.2.2.2.2.2.2.1 d (by rw [e];exact hd)).2)
 rw [bG b2];refine ml (by omega) e ?_;have c1:∀ d∈dens,0≤d:=by rw [nf,Classical.not_not,← e] at b1;exact b1
 have c2:∀ d∈dens,d≤12:=by rw [Kk,Classical.not_not,← e] at b2;exact b2
 by_cases b3:t.foldl Av x=0
 ·rw [nI b3];refine bad a12 (fun h=>?_);obtain ⟨d,hd,h0⟩:=h.2.2.2.2.2.2.2.2.2;have:¬(t.foldl Av x>0):=by omega
  rw [Kk,Classical.not_not,← e] at this;have:=this d hd;omega
 ·rw [pP b3];have b4:t.foldl Av x>0:=by
   refine Int.not_le.1 fun hle=>b3 ?_
   have:t.foldl Av x>-1:=by rw [Kk];intro h;have h1:=h x (eU ..);have h2:=c1 x (by rw [e];exact eU ..);omega
   omega
  rw [Kk,← e] at b4;have b5:DJ dens:=by
   refine Classical.byContradiction fun hn=>b4 fun d hd=>?_
   exact Int.not_lt.1 fun hlt=>hn ⟨d,hd,hlt⟩
  rw [jS,YR a12,YQ ⟨by omega,by omega,by omega,by omega,a5,a6,a7,hi,fun d hd=>⟨c1 d hd,c2 d hd⟩,b5⟩] at k;exact k
theorem Aw (n:Int) (K:Int→Int→Prop):tH n K=K (n:Rat).num (n:Rat).den:=rfl
theorem vN {q r:Rat} (hq:small q) (hr:small r) (K:Bool→Prop):rS q.num q.den r.num r.den K=K (decide (q<r)):=by
 unfold rS Uz;rw [Kg hq hr];congr 1;rw [Aaa,gP]
 by_cases h:q<r
 ·simp [h]
 ·by_cases h2:r<q<;>simp [h,h2]
def PT (len:Int) (n d:Int):Prop:=RV n d∧0≤n∧n≤len*d
instance (len n d:Int):Decidable (PT len n d):=by unfold PT;infer_instance
theorem yQG {len n d:Int} (h:PT len n d):∃ q:Rat,small q∧q.num=n∧(q.den:Int)=d∧0≤q∧q≤(len:Rat):=by
 obtain ⟨h1,h2,h3⟩:=h;obtain ⟨q,e1,e2,e3⟩:=Xc h1;refine ⟨q,e1,e2,e3,?_,?_⟩
 ·rw [← Rat.num_nonneg,e2];exact h2
 ·rw [Rat.le_iff,e2,e3,Rat.num_intCast,Rat.den_intCast];simpa using h3
theorem yI0 (x:Int) (q:Rat):((x:Rat)<q)↔x*(q.den:Int)<q.num:=by rw [Rat.lt_iff,Rat.num_intCast,Rat.den_intCast];simp
theorem Xj {len:Int} (hl:-1000000000000000000≤len∧len≤1000000000000000000) {n d:Int} (hn:cB n) (hd:cB d) (a b:List PV) (K:Bool→Prop) :
  tJ len a b n d K=K (decide (PT len n d)):=by
 unfold tJ UA;rw [Xf hn hd]
 by_cases h:RV n d
 ·obtain ⟨q,e1,e2,e3⟩:=Xc h;rw [lQ,YQ h,nI rfl]
  by_cases h0:n≥0
  ·rw [bS h0,Aw,← e2,← e3,vN (rV hl) e1];congr 1;have:((len:Rat)<q)↔len*(q.den:Int)<q.num:=yI0 _ _
   by_cases h3:(len:Rat)<q
   ·have h4:=this.1 h3;rw [Ef h3,Os];rfl;intro hp;have:=hp.2.2;omega
   ·have h4:¬_:=fun x=>h3 (this.2 x)
    rw [Os h3,Ef];rfl;exact ⟨e1.rv,by omega,by omega⟩
  ·rw [bG h0,Os];intro hp;have:=hp.2.1;omega
 ·rw [lQ,YR h,pP (by decide),Os];intro hp;exact h hp.1
section
variable {len:Int} {cuts dens:List Int}
theorem VC.step (h:VC len cuts dens) {i:Nat} (hi:i+1<cuts.length):cuts.getD i 0<cuts.getD (i+1) 0:=h.2.2.2.2.2.2.2.1 i (iL _) hi
theorem VC.mono (h:VC len cuts dens) {i:Nat}:∀ {j:Nat},i≤j→j<cuts.length→cuts.getD i 0≤cuts.getD j 0
 | 0,hij,_=>by
  have:i=0:=by omega
  subst this;exact Int.le_refl _
 | j+1,hij,hj=>by
  by_cases e:i=j+1
  ·subst e;exact Int.le_refl _
  ·have h1:=h.mono (i:=i) (j:=j) (by omega) (by omega);have h2:=h.step (i:=j) hj;omega
theorem VC.lo (h:VC len cuts dens) {i:Nat} (hi:i<cuts.length):0≤cuts.getD i 0:=by have:=h.mono (iL i) hi;rw [h.2.2.2.2.2.1] at this;exact this
theorem VC.hi (h:VC len cuts dens) {i:Nat} (hi:i<cuts.length):cuts.getD i 0≤len:=by have:=h.mono (i:=i) (j:=cuts.length-1) (by omega) (by omega);rw [h.2.2.2.2.2.2.1] at this;exact this
theorem VC.den (h:VC len cuts dens) {i:Nat} (hi:i<dens.length):0≤dens.getD i 0∧dens.getD i 0≤12:=by rw [cN,bY hi];exact h.2.2.2.2.2.2.2.2.1 _ (kQ hi)
theorem VC.l1 (h:VC len cuts dens):dens.length+1=cuts.length:=h.2.2.2.2.1
theorem VC.l2 (h:VC len cuts dens):cuts.length≤40:=h.2.2.2.1
theorem VC.len0 (h:VC len cuts dens):1≤len∧len≤1000:=⟨h.1,h.2.1⟩
theorem VC.sc (h:VC len cuts dens) {i:Nat} (hi:i<cuts.length):small ((cuts.getD i 0:Int):Rat):=rV (by have:=h.lo hi;have:=h.hi hi;have:=h.len0;omega)
theorem VC.sd (h:VC len cuts dens) {i:Nat} (hi:i<dens.length):small ((dens.getD i 0:Int):Rat):=rV (by have:=h.den hi;omega)
theorem Of (h:jS len cuts dens=0):VC len cuts dens:=by
 unfold jS at h;split at h
 ·omega
 ·split at h
  ·assumption
  ·omega
theorem VC.ck (h:VC len cuts dens):jS len cuts dens=0:=by rw [jS,YR (by have:=h.l2;have:=h.len0;omega),YQ h]
def jT (cuts dens:List Int):Nat→Nat→Int→Int
 | 0,_,s=>s
 | r+1,i,s=>jT cuts dens r (i+1) (s+dens.getD i 0*(cuts.getD (i+1) 0-cuts.getD i 0))
def totC (cuts dens:List Int):Int:=jT cuts dens dens.length 0 0
theorem Kl {d x:Int} (h:0≤d∧d≤12) (hx:0≤x):0≤d*x∧d*x≤12*x:=⟨lO h.1 hx,BZ h.2 hx⟩
theorem ng (h:VC len cuts dens):∀ (r i:Nat) (s:Int),i+r=dens.length→0≤s→s≤12*cuts.getD i 0→0≤jT cuts dens r i s∧jT cuts dens r i s≤12*len
 | 0,i,s,hi,h0,h1=>by have:=h.l1;have:=h.hi (i:=i) (by omega);unfold jT;omega
 | r+1,i,s,hi,h0,h1=>by unfold jT;have l1:=h.l1;have h2:=h.step (i:=i) (by omega);have h3:=Kl (h.den (i:=i) (by omega)) (x:=cuts.getD (i+1) 0-cuts.getD i 0) (by omega);exact ng h r (i+1) _ (by omega) (by omega) (by omega)
theorem Ax (h:VC len cuts dens):0≤totC cuts dens∧totC cuts dens≤12000:=by have l1:=h.l1;have h0:=h.lo (i:=0) (by omega);have:=ng h dens.length 0 0 (by omega) (by omega) (by omega);have h2:=h.len0;unfold totC;omega
theorem nh (h:VC len cuts dens) (W:Int→List PV→List PV→(Int→Prop)→Prop) (x0:Int→List PV→List PV→Int→List PV→Int→Int→Bool→Prop) :
  ∀ (r i n:Nat) (s:Int),i+r=dens.length→r<n→0≤s→s≤12*cuts.getD i 0 →
   Gj W x0 n len (aA cuts) (aA dens) s (aA dens) dens.length i=x0 len (aA cuts) (aA dens) (jT cuts dens r i s) (aA dens) dens.length dens.length false
 | 0,i,n+1,s,hi,hn,h0,h1=>by
  unfold Gj jT;rw [bG (by omega)];have:(i:Int)=dens.length:=by omega
  rw [this]
 | r+1,i,n+1,s,hi,hn,h0,h1=>by unfold Gj;have l1:=h.l1;have l2:=h.l2;have h2:=h.step (i:=i) (by omega);have h3:=Kl (h.den (i:=i) (by omega)) (x:=cuts.getD (i+1) 0-cuts.getD i 0) (by omega);have a1:=h.lo (i:=i) (by omega);have a2:=h.hi (i:=i+1) (by omega);have a3:=h.len0;have e1:=cL (n:=(i:Int)+1) (by omega) (by omega);have e2:=cL (n:=cuts.getD (i+1) 0-cuts.getD i 0) (by omega) (by omega);have e3:=cL (n:=dens.getD i 0*(cuts.getD (i+1) 0-cuts.getD i 0)) (by omega) (by omega);have e4:=cL (n:=s+dens.getD i 0*(cuts.getD (i+1) 0-cuts.getD i 0)) (by omega) (by omega);rw [bS (by omega),dD,dD,e1,dN,cH,cH,aI (by omega),aI (by omega),fS (by omega),aI (by omega),aI (by omega),fS (by omega),aI (by omega),aI (by omega),fS (by omega),fD (by omega),fD (by omega),fD (by omega),e2,e3,e4];exact nh h W x0 r (i+1) n _ (by omega) (by omega) (by omega) (by omega)
theorem Xk (h1:cuts.length<4611686018427387904) (h2:dens.length<4611686018427387904) (K:Int→Int→Prop) :
  cE len (aA cuts) (aA dens) K=if jS len cuts dens=0 then K (totC cuts dens) 0 else K 0 (jS len cuts dens):=by
 by_cases h:jS len cuts dens=0
 ·rw [YQ h];refine yBh _ _ _ _ _ (fun K k=>?_) K;unfold cE NC;have hv:=Of h;rw [GX h1 h2,h,cV rfl];refine ⟨dens.length+1,?_⟩;have l1:=hv.l1;have a1:=hv.lo (i:=0) (by omega);rw [dD];have:=nh hv yaI (fun b c d a e f g j=>(K a (0:Int))) dens.length 0 (dens.length+1) 0 (by omega) (by omega) (by omega) (by omega);rw [show ((0:Nat):Int)=0 from rfl] at this;rw [this];exact k
 ·rw [YR h];unfold cE NC;rw [GX h1 h2,fR h]
def exK (e:Except Int Rat) (K:Int→Int→Int→Prop):Prop:=match e with | .ok q=>K q.num q.den 0 | .error c=>K 0 0 c
def gT {α:Type} (q:Rat) (k:Rat→Except Int α):Except Int α:=if small q then k q else .error 16
def valS (cuts dens:List Int) (b:Rat):Nat→Nat→Rat→Rat→Except Int Rat
 | 0,_,_,sum=>.ok sum
 | r+1,i,p,sum=>
  let en:Rat:=if b<(cuts.getD (i+1) 0:Int) then b else (cuts.getD (i+1) 0:Int)
  if dens.getD i 0=0∨¬p<en then valS cuts dens b r (i+1) (if p<en then en else p) sum
  else gT (en-p) fun l=>gT (l*(dens.getD i 0:Int)) fun w=>gT (sum+w) fun s=>valS cuts dens b r (i+1) en s
def Ay (cuts dens:List Int) (a b:Rat):Except Int Rat:=valS cuts dens b dens.length 0 a 0
theorem rW {q:Rat} {K:Int→Int→Int→Prop}:fitK q K=if small q then K q.num q.den 0 else K 0 0 16:=rfl
theorem ni (h:VC len cuts dens) {b:Rat} (hb:small b) (an ad:Int) (W1:Int→List PV→List PV→(Int→Prop)→Prop) (W2:Int→List PV→List PV→Int→Int→(Bool→Prop)→Prop) (K:Int→Int→Int→Prop) :
  ∀ (r i n:Nat) (p sum:Rat),i+r=dens.length→r<n→small p→small sum →
   pM W1 W2 rS tH nY lZ ya1 (fun a d e=>(K a d e)) (fun j k l m o q s f g t u v w x y=>(K f g (0:Int)))
    n len (aA cuts) (aA dens) b.num b.den an ad sum.num sum.den p.num p.den (aA dens) dens.length i=exK (valS cuts dens b r i p sum) K
 | 0,i,n+1,p,sum,hi,hn,hp,hs=>by unfold pM valS;rw [bG (by omega)];rfl
 | r+1,i,n+1,p,sum,hi,hn,hp,hs=>by
  unfold pM;have l1:=h.l1;have l2:=h.l2;have sc:=h.sc (i:=i+1) (by omega);have sd:=h.sd (i:=i) (by omega);have e1:=cL (n:=(i:Int)+1) (by omega) (by omega);rw [bS (by omega),dD,dD,e1,dN,cH,cH,aI (by omega),aI (by omega),fS (by omega),aI (by omega),aI (by omega),fS (by omega),fD (by omega),fD (by omega),Aw,vN hb sc];have ih:=fun p sum hp hs=>ni h hb an ad W1 W2 K r (i+1) n p sum (by omega) (by omega) hp hs
  unfold valS
  by_cases hbc:b<((cuts.getD (i+1) 0:Int):Rat)
  ·rw [bS hbc];simp only [YQ hbc]
   by_cases hd:dens.getD i 0=0
   ·rw [nI hd,YQ (.inl hd),vN hp hb]
    by_cases hpb:p<b
    ·rw [bS hpb,YQ hpb];exact ih b sum hb hs
    ·rw [bG hpb,YR hpb];exact ih p sum hp hs
   ·rw [pP hd,vN hp hb]
    by_cases hpb:p<b
    ·have hc:¬(dens.getD i 0=0∨¬p<b):=by simp [hpb];exact hd
     rw [YR hc,Ef hpb,tW,aU,GV hb hp,rW]
     by_cases s1:small (b-p)
     ·rw [YQ s1,cV rfl,Aw,DE s1 sd,rW,gT,YQ s1]
      by_cases s2:small ((b-p)*(dens.getD i 0:Int))
      ·rw [YQ s2,cV rfl,DF hs s2,rW,gT,YQ s2]
       by_cases s3:small (sum+(b-p)*(dens.getD i 0:Int))
       ·rw [YQ s3,cV rfl,gT,YQ s3];exact ih b _ hb s3
       ·rw [YR s3,fR (by decide),gT,YR s3];rfl
      ·rw [YR s2,fR (by decide),gT,YR s2];rfl
     ·rw [YR s1,fR (by decide),gT,YR s1];rfl
    ·rw [YQ (.inr hpb),Os hpb,qI,aX,vN hp hb,bG hpb,YR hpb];exact ih p sum hp hs
  ·rw [bG hbc];simp only [YR hbc];obtain ⟨c,hc⟩:∃ c:Rat,c=((cuts.getD (i+1) 0:Int):Rat):=⟨_,rfl⟩;rw [← hc] at sc ⊢
   by_cases hd:dens.getD i 0=0
   ·rw [nI hd,YQ (.inl hd),vN hp sc]
    by_cases hpb:p<c
    ·rw [bS hpb,YQ hpb];exact ih c sum sc hs
    ·rw [bG hpb,YR hpb];exact ih p sum hp hs
   ·rw [pP hd,vN hp sc]
    by_cases hpb:p<c
    ·have hcc:¬(dens.getD i 0=0∨¬p<c):=by simp [hpb];exact hd
     rw [YR hcc,Ef hpb,tW,aU,GV sc hp,rW]
     by_cases s1:small (c-p)
     ·rw [YQ s1,cV rfl,Aw,DE s1 sd,rW,gT,YQ s1]
      by_cases s2:small ((c-p)*(dens.getD i 0:Int))
      ·rw [YQ s2,cV rfl,DF hs s2,rW,gT,YQ s2]
       by_cases s3:small (sum+(c-p)*(dens.getD i 0:Int))
       ·rw [YQ s3,cV rfl,gT,YQ s3];exact ih c _ sc s3
       ·rw [YR s3,fR (by decide),gT,YR s3];rfl
      ·rw [YR s2,fR (by decide),gT,YR s2];rfl
     ·rw [YR s1,fR (by decide),gT,YR s1];rfl
    ·rw [YQ (.inr hpb),Os hpb,qI,aX,vN hp sc,bG hpb,YR hpb];exact ih p sum hp hs
end
def rt (n d:Int):Rat:=mkRat n d.toNat
theorem rX (q:Rat):rt q.num q.den=q:=by unfold rt;rw [cH,Rat.mkRat_self]
theorem rY {n d:Int} (h:RV n d):small (rt n d)∧(rt n d).num=n∧((rt n d).den:Int)=d:=by obtain ⟨q,h1,h2,h3⟩:=Xc h;subst h2 h3;rw [rX];exact ⟨h1,rfl,rfl⟩
theorem PT.pt {len n d:Int} (h:PT len n d):small (rt n d)∧(rt n d).num=n∧((rt n d).den:Int)=d∧0≤rt n d∧rt n d≤(len:Rat):=by obtain ⟨q,h1,h2,h3,h4,h5⟩:=yQG h;subst h2 h3;rw [rX];exact ⟨h1,rfl,rfl,h4,h5⟩
theorem Km {len:Int} {q:Rat} (h:small q) (h0:0≤q) (h1:q≤(len:Rat)):PT len q.num q.den:=by refine ⟨h.rv,Rat.num_nonneg.2 h0,?_⟩;rw [Rat.le_iff,Rat.num_intCast,Rat.den_intCast] at h1;simpa using h1
section
variable {len:Int} {cuts dens:List Int}
def DL (len:Int) (cuts dens:List Int) (an ad bn bd:Int):Except Int Rat:=
 if jS len cuts dens=0 then (if PT len an ad∧PT len bn bd∧¬rt bn bd<rt an ad then Ay cuts dens (rt an ad) (rt bn bd) else .error 2) else .error (jS len cuts dens)
theorem nj {w:(Int→Int→Int→Prop)→Prop} {e:Except Int Rat} (det:∀ r0 r1 r2,(∀ K:Int→Int→Int→Prop,K r0 r1 r2→w K)→∀ K,w K=K r0 r1 r2) (h:∀ K,exK e K→w K) (K:Int→Int→Int→Prop):w K=exK e K:=by
 cases e with
 | ok q=>exact det _ _ _ h K
 | error c=>exact det _ _ _ h K
theorem yLr (h1:cuts.length<4611686018427387904) (h2:dens.length<4611686018427387904) {an ad bn bd:Int} (ha:cB an) (ha':cB ad) (hb:cB bn) (hb':cB bd) (K:Int→Int→Int→Prop) :
  ybG len (aA cuts) (aA dens) an ad bn bd K=exK (DL len cuts dens an ad bn bd) K:=by
 refine nj (fun r0 r1 r2 h K=>yBi _ _ _ _ _ _ _ r0 r1 r2 h K) (fun K k=>?_) K;unfold ybG UF;rw [GX h1 h2];unfold DL at k
 by_cases h:jS len cuts dens=0
 case neg=>rw [fR h];rw [YR h] at k;exact k
 have hv:=Of h;have hl:=hv.len0;rw [YQ h] at k;rw [cV h,Xj (by omega) ha ha']
 by_cases p1:PT len an ad
 case neg=>rw [Os p1,qI,aX];rw [YR (fun x=>p1 x.1)] at k;exact k
 rw [Ef p1,tW,aU,Xj (by omega) hb hb']
 by_cases p2:PT len bn bd
 case neg=>rw [Os p2,qI,aX];rw [YR (fun x=>p2 x.2.1)] at k;exact k
 rw [Ef p2,tW,aU];obtain ⟨s1,e1,e2,_,_⟩:=p1.pt;obtain ⟨s2,f1,f2,_,_⟩:=p2.pt;have hless:=vN s2 s1;rw [e1,e2,f1,f2] at hless;rw [hless]
 by_cases p3:rt bn bd<rt an ad
 ·rw [bS p3];rw [YR (fun x=>x.2.2 p3)] at k;exact k
 rw [bG p3];rw [YQ ⟨p1,p2,p3⟩] at k;rw [Aw,dD];refine ⟨dens.length+1,?_⟩;have:=ni hv s2 0 0 yaI tJ K dens.length 0 (dens.length+1) (rt an ad) 0 (by omega) (by omega) s1 (by decide);rw [e1,e2,f1,f2] at this;exact this.mpr k
def mrkS (cuts dens:List Int):Nat→Nat→Rat→Rat→Except Int Rat
 | 0,_,_,_=>.error 6
 | r+1,i,p,v=>
  if ¬p<(cuts.getD (i+1) 0:Int) then mrkS cuts dens r (i+1) p v
  else if dens.getD i 0=0 then mrkS cuts dens r (i+1) (cuts.getD (i+1) 0:Int) v
  else gT ((cuts.getD (i+1) 0:Int)-p) fun l=>gT (l*(dens.getD i 0:Int)) fun w=>
   if w<v then gT (v-w) fun v'=>mrkS cuts dens r (i+1) (cuts.getD (i+1) 0:Int) v'
   else gT (v/(dens.getD i 0:Int)) fun s=>gT (p+s) .ok
def mrkC (cuts dens:List Int) (a v:Rat):Except Int Rat:=if v=0 then .ok a else mrkS cuts dens dens.length 0 a v
def DM (len:Int) (cuts dens:List Int) (an ad vn vd:Int):Except Int Rat:=
 if jS len cuts dens=0 then (if PT len an ad∧RV vn vd∧0≤vn then mrkC cuts dens (rt an ad) (rt vn vd) else .error 2) else .error (jS len cuts dens)
theorem nk (h:VC len cuts dens) (W1:Int→List PV→List PV→(Int→Prop)→Prop) (W2:Int→List PV→List PV→Int→Int→(Bool→Prop)→Prop) (W3:Int→Int→(Int→Prop)→Prop) (K:Int→Int→Int→Prop) :
  ∀ (r i n:Nat) (p v:Rat) (o1 o2:Int),i+r=dens.length→r<n→small p→small v →
   tK W1 W2 W3 tH rS nY lZ iF ya1
    (fun l m b d f a=>(aB (a !=(0:Int)) (aB (a !=(0:Int)) (K (0:Int) (0:Int) a) (K b d (0:Int))) (aB (f !=(0:Int)) (K (0:Int) (0:Int) f) (K b d (0:Int)))))
    (fun o q j k g s t u w y z A B C=>(aB (g !=(0:Int)) (K (0:Int) (0:Int) g) (K j k (0:Int))))
    n v.num v.den o1 o2 6 len (aA cuts) (aA dens) p.num p.den (aA dens) dens.length i=exK (mrkS cuts dens r i p v) K
 | 0,i,n+1,p,v,o1,o2,hi,hn,hp,hs=>by unfold tK mrkS;rw [bG (by omega)];rfl
 | r+1,i,n+1,p,v,o1,o2,hi,hn,hp,hs=>by
  unfold tK;have l1:=h.l1;have l2:=h.l2;have sc:=h.sc (i:=i+1) (by omega);have sd:=h.sd (i:=i) (by omega);have hd0:=h.den (i:=i) (by omega);have e1:=cL (n:=(i:Int)+1) (by omega) (by omega);rw [bS (by omega),dD,dD,e1,dN,cH,cH,aI (by omega),aI (by omega),fS (by omega),aI (by omega),aI (by omega),fS (by omega),fD (by omega),fD (by omega),Aw,vN hp sc];have ih:=fun p v o1 o2 hp hs=>nk h W1 W2 W3 K r (i+1) n p v o1 o2 (by omega) (by omega) hp hs
  unfold mrkS;obtain ⟨c,hc⟩:∃ c:Rat,c=((cuts.getD (i+1) 0:Int):Rat):=⟨_,rfl⟩;rw [← hc] at sc ⊢
  by_cases hpc:p<c
  case neg=>rw [Os hpc,qI,aX,YQ hpc];exact ih p v o1 o2 hp hs
  rw [Ef hpc,tW,aU,YR (fun x=>x hpc),Aw]
  by_cases hd:dens.getD i 0=0
  ·rw [bG (by omega),nI hd,YQ hd];exact ih c v o1 o2 sc hs
  rw [bS (by omega),YR hd,GV sc hp,rW]
  by_cases s1:small (c-p)
  case neg=>rw [YR s1,fR (by decide),fR (by decide),fR (by decide),gT,YR s1];rfl
  rw [YQ s1,cV rfl,Aw,DE s1 sd,rW,gT,YQ s1]
  by_cases s2:small ((c-p)*(dens.getD i 0:Int))
  case neg=>rw [YR s2,fR (by decide),fR (by decide),fR (by decide),gT,YR s2];rfl
  rw [YQ s2,cV rfl,pP hd,vN s2 hs,gT,YQ s2]
  by_cases hw:(c-p)*(dens.getD i 0:Int)<v
  ·rw [bS hw,YQ hw,GV hs s2,rW,gT]
   by_cases s3:small (v-(c-p)*(dens.getD i 0:Int))
   ·rw [YQ s3,YQ s3,cV rfl,cV rfl];exact ih c _ o1 o2 sc s3
   ·rw [YR s3,YR s3,fR (by decide),fR (by decide),cV rfl,fR (by decide)];rfl
  ·have hdn:((dens.getD i 0:Int):Rat)≠0:=fun e=>hd (Rat.intCast_eq_zero_iff.1 e)
   rw [bG hw,YR hw,Aw,Kf hs sd hdn,rW,gT]
   by_cases s3:small (v/(dens.getD i 0:Int))
   ·rw [YQ s3,YQ s3,nI rfl,DF hp s3,rW,gT]
    by_cases s4:small (p+v/(dens.getD i 0:Int))
    ·rw [YQ s4,YQ s4,cV rfl,cV rfl];rfl
    ·rw [YR s4,YR s4,cV rfl,fR (by decide)];rfl
   ·rw [YR s3,YR s3,pP (by decide),cV rfl,fR (by decide)];rfl
theorem yM6 (h1:cuts.length<4611686018427387904) (h2:dens.length<4611686018427387904) {an ad vn vd:Int} (ha:cB an) (ha':cB ad) (hv:cB vn) (hv':cB vd) (K:Int→Int→Int→Prop) :
  xL len (aA cuts) (aA dens) an ad vn vd K=exK (DM len cuts dens an ad vn vd) K:=by
 refine nj (fun r0 r1 r2 h K=>yC1 _ _ _ _ _ _ _ r0 r1 r2 h K) (fun K k=>?_) K;unfold xL UC;rw [GX h1 h2];unfold DM at k
 by_cases h:jS len cuts dens=0
 case neg=>rw [fR h];rw [YR h] at k;exact k
 have hc:=Of h;have hl:=hc.len0;rw [YQ h] at k;rw [cV h,Xj (by omega) ha ha']
 by_cases p1:PT len an ad
 case neg=>rw [Os p1,qI,aX];rw [YR (fun x=>p1 x.1)] at k;exact k
 rw [Ef p1,tW,aU,Xf hv hv',lQ]
 by_cases p2:RV vn vd
 case neg=>rw [YR p2,fR (by decide)];rw [YR (fun x=>p2 x.2.1)] at k;exact k
 rw [YQ p2,cV rfl]
 by_cases p3:vn<0
 ·rw [bS p3];rw [YR (fun x=>by omega)] at k;exact k
 rw [bG p3];rw [YQ ⟨p1,p2,by omega⟩] at k;obtain ⟨s1,e1,e2,_,_⟩:=p1.pt;obtain ⟨s2,f1,f2⟩:=rY p2;unfold mrkC at k
 by_cases p4:vn=0
 ·rw [nI p4];rw [YQ (Rat.num_eq_zero.1 (f1.trans p4))] at k;have k:K (rt an ad).num (rt an ad).den 0:=k;rw [e1,e2] at k;exact k
 rw [pP p4];rw [YR (fun x=>p4 (by rw [← f1,x];rfl))] at k;rw [dD];refine ⟨dens.length+1,?_⟩;have:=nk hc yaI tJ nX K dens.length 0 (dens.length+1) (rt an ad) (rt vn vd) 0 0 (by omega) (by omega) s1 s2;rw [e1,e2,f1,f2] at this;exact this.mpr k
def nm (cuts dens:List Int) (i:Nat):Prop:=∀ j,i≤j→j<dens.length→cuts.getD j 0<cuts.getD (j+1) 0∧0≤dens.getD j 0∧dens.getD j 0≤12
theorem Xl (l1:dens.length+1=cuts.length) (l2:dens.length<4611686018427387904) (x0:Int→Prop) (x1:Int→List PV→List PV→Bool→Int→Bool→Prop) (P:Prop)
  (hbad:¬nm cuts dens 0→x0 8=P) (hgood:∀ b:Bool,nm cuts dens 0→b=decide (∃ j,j<dens.length∧0<dens.getD j 0)→x1 len (aA cuts) (aA dens) b dens.length false=P) :
  ∀ (r i n:Nat) (b:Bool),i+r=dens.length→r<n→(∀ j,j<i→cuts.getD j 0<cuts.getD (j+1) 0∧0≤dens.getD j 0∧dens.getD j 0≤12)→b=decide (∃ j,j<i∧0<dens.getD j 0) →
   Dq x0 x1 n len (aA cuts) (aA dens) b i=P
 | 0,i,n+1,b,hi,hn,hj,hb=>by unfold Dq;rw [dD,bG (by omega),show (i:Int)=dens.length by omega];refine hgood b (fun j _ h=>hj j (by omega)) ?_;rw [hb,Aaa];rw [show i=dens.length by omega]
 | r+1,i,n+1,b,hi,hn,hj,hb=>by
  unfold Dq;have e1:=cL (n:=(i:Int)+1) (by omega) (by omega);rw [dD,dD,bS (by omega),e1,dN,cH,cH,aI (by omega),aI (by omega),fS (by omega),aI (by omega),aI (by omega),fS (by omega),fD (by omega),fD (by omega)];have bad:¬(cuts.getD i 0<cuts.getD (i+1) 0∧0≤dens.getD i 0∧dens.getD i 0≤12)→x0 8=P:=fun h=>hbad fun hk=>h (hk i (by omega) (by omega))
  by_cases a1:cuts.getD (i+1) 0≤cuts.getD i 0
  ·rw [bS a1];exact bad (by omega)
  rw [bG a1,aI (by omega),aI (by omega),fS (by omega),fD (by omega)]
  by_cases a2:dens.getD i 0<0
  ·rw [bS a2];exact bad (by omega)
  rw [bG a2,aI (by omega),aI (by omega),fS (by omega)]
  by_cases a3:dens.getD i 0>12
  ·rw [bS a3];exact bad (by omega)
  rw [bG a3];have hj2:∀ j,j<i+1→cuts.getD j 0<cuts.getD (j+1) 0∧0≤dens.getD j 0∧dens.getD j 0≤12:=by
   intro j hlt
   by_cases e:j=i
   ·subst e;omega
   ·exact hj j (by omega)
  have ex:∀ c:Bool,(c=true↔(b=true∨0<dens.getD i 0))→c=decide (∃ j,j<i+1∧0<dens.getD j 0):=by
   intro c hc;rw [Cg,hc,hb,decide_eq_true_iff,decide_eq_true_iff];constructor
   ·rintro (⟨j,h1,h2⟩ | h)
    ·exact ⟨j,by omega,h2⟩
    ·exact ⟨i,by omega,h⟩
   ·rintro ⟨j,h1,h2⟩
    by_cases e:j=i
    ·subst e;exact .inr h2
    ·exact .inl ⟨j,by omega,h2⟩
  cases b with
  | true =>rw [aX];exact Xl l1 l2 x0 x1 P hbad hgood r (i+1) n true (by omega) (by omega) hj2 (ex _ (by simp))
  | false =>rw [aU,aI (by omega),aI (by omega),fS (by omega)];exact Xl l1 l2 x0 x1 P hbad hgood r (i+1) n _ (by omega) (by omega) hj2 (ex _ (by simp))
theorem nn (h1:cuts.length<4611686018427387904) (h2:dens.length<4611686018427387904) (K:Int→Prop) :
  tL len (aA cuts) (aA dens) K=K (jS len cuts dens):=by
 refine yC7 _ _ _ _ (fun K k=>?_) K;unfold tL Vo;simp only [dD];have bad:¬(len>1000∨cuts.length>40)→¬VC len cuts dens→K 8:=fun h h2=>by
  rw [jS,YR h,YR h2] at k;exact k
 by_cases a1:len>1000
 ·rw [bS a1];rw [jS,YQ (.inl a1)] at k;exact k
 rw [bG a1]
 by_cases a2:cuts.length>40
 ·rw [bS (by omega)];rw [jS,YQ (.inr a2)] at k;exact k
 have a12:¬(len>1000∨cuts.length>40):=by omega
 rw [bG (by omega)]
 by_cases a3:len<1
 ·rw [bS a3];exact bad a12 (fun h=>by have:=h.1;omega)
 rw [bG a3]
 by_cases a4:cuts.length<2
 ·rw [bS (by omega)];exact bad a12 (fun h=>by have:=h.2.2.1;omega)
 rw [bG (by omega),cL (n:=(cuts.length:Int)-1) (by omega) (by omega)]
 by_cases a5:dens.length+1=cuts.length
 case neg=>rw [fR (by omega)];exact bad a12 (fun h=>a5 h.2.2.2.2.1)
 rw [cV (by omega),aI (by omega),fS (by omega),fD (by omega)]
 by_cases a6:cuts.getD 0 0=0
 case neg=>rw [fR a6];exact bad a12 (fun h=>a6 h.2.2.2.2.2.1)
 rw [cV a6,aI (by omega),aI (by omega),fS (by omega),fD (by omega)];have en:((cuts.length:Int)-1).toNat=cuts.length-1:=by omega
 rw [en]
 by_cases a7:cuts.getD (cuts.length-1) 0=len
 case neg=>rw [fR a7];exact bad a12 (fun h=>a7 h.2.2.2.2.2.2.1)
 rw [cV a7];have mem:∀ d,d∈dens↔∃ j,j<dens.length∧dens.getD j 0=d:=by
  intro d;rw [List.mem_iff_getElem];constructor
  ·rintro ⟨j,hj,e⟩;exact ⟨j,hj,by rw [cN,bY hj];exact e⟩
  ·rintro ⟨j,hj,e⟩;exact ⟨j,hj,by rw [cN,bY hj] at e;exact e⟩
 refine ⟨dens.length+1,?_⟩;refine (Xl a5 h2 _ _ (K (jS len cuts dens)) (fun hk=>?_) (fun b hk hb=>?_) dens.length 0 (dens.length+1) false (by omega) (by omega) (fun j h=>by omega) (by simp)).mpr k
 ·have hv:¬VC len cuts dens:=fun h=>hk fun j _ hj=>⟨h.step (by omega),h.den hj⟩
  rw [jS,YR a12,YR hv]
 ·have hsome:DJ dens↔∃ j,j<dens.length∧0<dens.getD j 0:=by
   constructor
   ·rintro ⟨d,hd,h0⟩;obtain ⟨j,hj,e⟩:=(mem d).1 hd;exact ⟨j,hj,by rw [e];exact h0⟩
   ·rintro ⟨j,hj,h0⟩;exact ⟨_,(mem _).2 ⟨j,hj,rfl⟩,h0⟩
  have hv:VC len cuts dens↔DJ dens:=by refine ⟨fun h=>h.2.2.2.2.2.2.2.2.2,fun h=>⟨by omega,by omega,by omega,by omega,a5,a6,a7,fun j _ hj=>(hk j (by omega) (by omega)).1,fun d hd=>?_,h⟩⟩;obtain ⟨j,hj,e⟩:=(mem d).1 hd;rw [← e];exact (hk j (by omega) hj).2
  rw [jS,YR a12]
  by_cases hs:DJ dens
  ·rw [YQ (hv.2 hs),hb,Ef (hsome.1 hs)];rfl
  ·rw [YR (fun x=>hs (hv.1 x)),hb,Os (fun x=>hs (hsome.2 x))];rfl
theorem nq (h:VC len cuts dens) (x0:Int→List PV→List PV→Int→Int→Bool→Prop) :
  ∀ (r i n:Nat) (s:Int),i+r=dens.length→r<n→0≤s→s≤12*cuts.getD i 0 →
   Gp x0 n len (aA cuts) (aA dens) s i=x0 len (aA cuts) (aA dens) (jT cuts dens r i s) dens.length false
 | 0,i,n+1,s,hi,hn,h0,h1=>by
  unfold Gp jT;have:(i:Int)=dens.length:=by omega
  rw [dD,bG (by omega),this]
 | r+1,i,n+1,s,hi,hn,h0,h1=>by unfold Gp;have l1:=h.l1;have l2:=h.l2;have h2:=h.step (i:=i) (by omega);have h3:=Kl (h.den (i:=i) (by omega)) (x:=cuts.getD (i+1) 0-cuts.getD i 0) (by omega);have a1:=h.lo (i:=i) (by omega);have a2:=h.hi (i:=i+1) (by omega);have a3:=h.len0;have e1:=cL (n:=(i:Int)+1) (by omega) (by omega);have e2:=cL (n:=cuts.getD (i+1) 0-cuts.getD i 0) (by omega) (by omega);have e3:=cL (n:=dens.getD i 0*(cuts.getD (i+1) 0-cuts.getD i 0)) (by omega) (by omega);have e4:=cL (n:=s+dens.getD i 0*(cuts.getD (i+1) 0-cuts.getD i 0)) (by omega) (by omega);rw [dD,dD,bS (by omega),e1,dN,cH,cH,aI (by omega),aI (by omega),fS (by omega),aI (by omega),aI (by omega),fS (by omega),aI (by omega),aI (by omega),fS (by omega),fD (by omega),fD (by omega),fD (by omega),e2,e3,e4];exact nq h x0 r (i+1) n _ (by omega) (by omega) (by omega) (by omega)
theorem yLs (hv:VC len cuts dens) (K:Int→Prop):zX len (aA cuts) (aA dens) K=K (totC cuts dens):=by refine yC8 _ _ _ _ (fun K k=>?_) K;unfold zX Vs;refine ⟨dens.length+1,?_⟩;have l1:=hv.l1;have a1:=hv.lo (i:=0) (by omega);have:=nq hv (fun b c d a e f=>K a) dens.length 0 (dens.length+1) 0 (by omega) (by omega) (by omega) (by omega);rw [show ((0:Nat):Int)=0 from rfl] at this;rw [this];exact k
theorem xT {α:Type} {q:Rat} {k:Rat→Except Int α} (h:small q):gT q k=k q:=YQ h
theorem nr {q:Rat} {K:Int→Int→Int→Prop}:exK (.ok q) K=K q.num q.den 0:=rfl
theorem ns {c:Int} {K:Int→Int→Int→Prop}:exK (.error c) K=K 0 0 c:=rfl
end
structure Ck where
 len:Int
 cuts:List Int
 dens:List Int
instance:Inhabited Ck:=⟨⟨0,[],[]⟩⟩
def fT (c:Ck):PV:=.agg [.int .i64 c.len,.data (aA c.cuts),.data (aA c.dens)]
def cks (l:List Ck):List PV:=l.map fT
def Ck.fin (c:Ck):Prop:=c.cuts.length<4611686018427387904∧c.dens.length<4611686018427387904
def Ck.err (c:Ck):Int:=jS c.len c.cuts c.dens
def Ck.ok (c:Ck):Prop:=VC c.len c.cuts c.dens
instance (c:Ck):Decidable c.ok:=by unfold Ck.ok;infer_instance
theorem dW (l:List Ck):(cks l).length=l.length:=dS ..
theorem lR {l:List Ck} {i:Nat} (h:i<l.length):getD (cks l) i .nils=fT (l.getD i default):=by unfold cks;rw [cN,cN,lK,bY h];rfl
theorem mZ {α:Type} {l:List α} {i:Nat} (d:α) (h:i<l.length):l.drop i=l.getD i d::l.drop (i+1):=by rw [List.drop_eq_getElem_cons h,cN,bY h];rfl
theorem dE {c:Ck} {P:Prop}:asr (aG zK (fT c)) P=P:=rfl
theorem mQ (c:Ck):aK (aP (fT c) 0)=c.len:=rfl
theorem qU (c:Ck):bQ (aP (fT c) 1)=aA c.cuts:=rfl
theorem rZ (c:Ck):bQ (aP (fT c) 2)=aA c.dens:=rfl
def oP:List Ck→Int
 | []=>0
 | c::t=>if c.err=0 then oP t else c.err
def vQ (n:Int):List Ck→Bool
 | []=>true
 | c::t=>decide (c.len=n)&&vQ n t
def qV (l:List Ck) (m:Nat):Int:=
 if l.length>6 then 4 else if m>2000 then 4 else if l.length=0 then 8 else if oP l=0 then (if vQ (l.getD 0 default).len l then 0 else 8) else oP l
section
variable {l:List Ck}
def oC (l:List Ck):Prop:=∀ i,i<l.length→(l.getD i default).fin
theorem nu (hf:oC l) (hl:l.length<4611686018427387904) (x0:Int→Prop) (x1:List PV→List PV→List PV→Int→Int→Bool→Prop) (lg:List PV) :
  ∀ (r i n:Nat),i+r=l.length→r<n→Gm yaI x0 x1 n (cks l) lg (cks l) l.length i =
   if oP (l.drop i)=0 then x1 (cks l) lg (cks l) l.length l.length false else x0 (oP (l.drop i))
 | 0,i,n+1,hi,hn=>by unfold Gm;rw [bG (by omega),nF (by omega),show (i:Int)=l.length by omega];rfl
 | r+1,i,n+1,hi,hn=>by
  unfold Gm;have e1:=cL (n:=(i:Int)+1) (by omega) (by omega);obtain ⟨f1,f2⟩:=hf i (by omega);rw [bS (by omega),dW,cH,lR (by omega),aI (by omega),aI (by omega),dE,mQ,qU,rZ,GX (by omega) (by omega),mZ default (by omega),oP,e1,dN];show aB ((l.getD i default).err !=0) _ _=_
  by_cases h:(l.getD i default).err=0
  ·rw [cV h,YQ h];exact nu hf hl x0 x1 lg r (i+1) n (by omega) (by omega)
  ·rw [fR h,YR h,YR h];rfl
theorem nv (hl:l.length<4611686018427387904) (x0:Int→Prop) (x1:List PV→List PV→List PV→Int→Int→Bool→Prop) (lg:List PV) (W) :
  ∀ (r i n:Nat),i+r=l.length→r<n→Dl W x0 x1 n (cks l) lg (cks l) l.length i =
   if vQ (l.getD 0 default).len (l.drop i) then x1 (cks l) lg (cks l) l.length l.length false else x0 8
 | 0,i,n+1,hi,hn=>by unfold Dl;rw [bG (by omega),nF (by omega),show (i:Int)=l.length by omega];rfl
 | r+1,i,n+1,hi,hn=>by
  unfold Dl;have e1:=cL (n:=(i:Int)+1) (by omega) (by omega);rw [bS (by omega),dW,cH,lR (by omega),lR (by omega),aI (by omega),aI (by omega),dE,aI (by omega),dE,mQ,mQ,mZ default (by omega),vQ,e1,dN]
  by_cases h:(l.getD i default).len=(l.getD 0 default).len
  ·rw [cV h,Ef h,jK];exact nv hl x0 x1 lg W r (i+1) n (by omega) (by omega)
  ·rw [fR h,Os h,kU,YR (by simp)]
theorem nw (hf:oC l) (hl:l.length<4611686018427387904) (lg:List PV) (K:Int→Prop):qR (cks l) lg K=K (qV l lg.length):=by
 refine yC4 _ _ _ (fun K k=>?_) K;unfold qR UX;unfold qV at k;rw [dW]
 by_cases a1:l.length>6
 ·rw [bS (by omega)];rw [YQ a1] at k;exact k
 rw [bG (by omega)];rw [YR a1] at k
 by_cases a2:lg.length>2000
 ·rw [bS (by omega)];rw [YQ a2] at k;exact k
 rw [bG (by omega)];rw [YR a2] at k
 by_cases a3:l.length=0
 ·rw [nI (by omega)];rw [YQ a3] at k;exact k
 rw [pP (by omega)];rw [YR a3] at k;refine ⟨l.length+1,?_⟩;have h0:=nu hf hl (fun c=>K c) (fun a d o p q r=>(∃ e:Nat,Dl yaI (fun b=>(K b)) (fun f g i j m n=>(K (0:Int))) e a d a (((length a):Nat):Int) (0:Int))) lg l.length 0 (l.length+1) (by omega) (by omega);rw [show ((0:Nat):Int)=0 from rfl,kT] at h0;rw [h0]
 by_cases a4:oP l=0
 ·rw [YQ a4] at k ⊢;refine ⟨l.length+1,?_⟩;have h1:=nv hl (fun b=>(K b)) (fun f g i j m n=>(K (0:Int))) lg yaI l.length 0 (l.length+1) (by omega) (by omega);rw [show ((0:Nat):Int)=0 from rfl,kT] at h1;rw [dW,h1];split at k<;>rename_i h<;>simp only [h]<;>exact k
 ·rw [YR a4] at k ⊢;exact k
theorem ny (hf:oC l) (hl:l.length<4611686018427387904) (x0:Int→Prop) (x1:List PV→List PV→Int→Bool→Prop) (lg:List PV) :
  ∀ (r i n:Nat),i+r=l.length→r<n→Gs tL x0 x1 n (cks l) lg i =
   if oP (l.drop i)=0 then x1 (cks l) lg l.length false else x0 (oP (l.drop i))
 | 0,i,n+1,hi,hn=>by unfold Gs;rw [dW,bG (by omega),nF (by omega),show (i:Int)=l.length by omega];rfl
 | r+1,i,n+1,hi,hn=>by
  unfold Gs;have e1:=cL (n:=(i:Int)+1) (by omega) (by omega);obtain ⟨f1,f2⟩:=hf i (by omega);rw [dW,bS (by omega),cH,lR (by omega),aI (by omega),aI (by omega),dE,mQ,qU,rZ,nn (by omega) (by omega),mZ default (by omega),oP,e1,dN];show aB ((l.getD i default).err !=0) _ _=_
  by_cases h:(l.getD i default).err=0
  ·rw [cV h,YQ h];exact ny hf hl x0 x1 lg r (i+1) n (by omega) (by omega)
  ·rw [fR h,YR h,YR h,aI (by omega),aI (by omega),dE,nn (by omega) (by omega)];rfl
theorem oa (hl:l.length<4611686018427387904) (x0:Int→Prop) (x1:List PV→List PV→Int→Bool→Prop) (lg:List PV) (W) :
  ∀ (r i n:Nat),i+r=l.length→r<n→Dr W x0 x1 n (cks l) lg i =
   if vQ (l.getD 0 default).len (l.drop i) then x1 (cks l) lg l.length false else x0 8
 | 0,i,n+1,hi,hn=>by unfold Dr;rw [dW,bG (by omega),nF (by omega),show (i:Int)=l.length by omega];rfl
 | r+1,i,n+1,hi,hn=>by
  unfold Dr;have e1:=cL (n:=(i:Int)+1) (by omega) (by omega);rw [dW,bS (by omega),cH,lR (by omega),lR (by omega),aI (by omega),aI (by omega),dE,aI (by omega),dE,mQ,mQ,mZ default (by omega),vQ,e1,dN]
  by_cases h:(l.getD i default).len=(l.getD 0 default).len
  ·rw [cV h,Ef h,jK];exact oa hl x0 x1 lg W r (i+1) n (by omega) (by omega)
  ·rw [fR h,Os h,kU,YR (by simp)]
theorem yLt (hf:oC l) (hl:l.length<4611686018427387904) (lg:List PV) (K:Int→Prop):Aa (cks l) lg K=K (qV l lg.length):=by
 refine yC9 _ _ _ (fun K k=>?_) K;unfold Aa Vw;unfold qV at k;rw [dW]
 by_cases a1:l.length>6
 ·rw [bS (by omega)];rw [YQ a1] at k;exact k
 rw [bG (by omega)];rw [YR a1] at k
 by_cases a2:lg.length>2000
 ·rw [bS (by omega)];rw [YQ a2] at k;exact k
 rw [bG (by omega)];rw [YR a2] at k
 by_cases a3:l.length=0
 ·rw [nI (by omega)];rw [YQ a3] at k;exact k
 rw [pP (by omega)];rw [YR a3] at k;refine ⟨l.length+1,?_⟩;have h0:=ny hf hl (fun b=>K b) (fun c d m n=>(∃ e:Nat,Dr tL (fun a=>(K a)) (fun f g i j=>(K (0:Int))) e c d (0:Int))) lg l.length 0 (l.length+1) (by omega) (by omega);rw [show ((0:Nat):Int)=0 from rfl,kT] at h0;rw [h0]
 by_cases a4:oP l=0
 ·rw [YQ a4] at k ⊢;refine ⟨l.length+1,?_⟩;have h1:=oa hl (fun a=>(K a)) (fun f g i j=>(K (0:Int))) lg tL l.length 0 (l.length+1) (by omega) (by omega);rw [show ((0:Nat):Int)=0 from rfl,kT] at h1;rw [h1];split at k<;>rename_i h<;>simp only [h]<;>exact k
 ·rw [YR a4] at k ⊢;exact k
def Ck.low (c:Ck):Prop:=c.cuts.length≤1000∧c.dens.length≤1000
def Xm (l:List Ck):Prop:=∀ i,i<l.length→(l.getD i default).low
theorem vR {c:Bool} {P:Prop} (h:c=true):asr c P=P:=by rw [h,cZ]
theorem od:∀ (l:List Ck),oP l=0→∀ i,i<l.length→(l.getD i default).ok
 | c::t,h,0,_=>by
  unfold oP at h;split at h
  ·rename_i h1;exact Of h1
  ·rename_i h1;exact absurd h h1
 | c::t,h,i+1,hi=>by
  unfold oP at h;split at h
  ·exact od t h i (by simpa using hi)
  ·rename_i h1;exact absurd h h1
theorem oe {n:Int}:∀ (l:List Ck),vQ n l=true→∀ i,i<l.length→(l.getD i default).len=n
 | c::t,h,0,_=>by unfold vQ at h;simp only [bO,decide_eq_true_eq] at h;exact h.1
 | c::t,h,i+1,hi=>by unfold vQ at h;simp only [bO,decide_eq_true_eq] at h;exact oe t h.2 i (by simpa using hi)
structure DK (l:List Ck):Prop where
 n6:l.length≤6
 n0:1≤l.length
 ok:∀ i,i<l.length→(l.getD i default).ok
 len:∀ i,i<l.length→(l.getD i default).len=(l.getD 0 default).len
theorem yI1 {m:Nat} (h:qV l m=0):DK l∧m≤2000:=by
 unfold qV at h;split at h
 ·omega
 split at h
 ·omega
 split at h
 ·omega
 split at h
 ·rename_i h0 h1 h2 h3;split at h
  ·rename_i h4;exact ⟨⟨by omega,by omega,od l h3,oe l h4⟩,by omega⟩
  ·omega
 ·rename_i h3;exact absurd h h3
theorem DK.err {l:List Ck} (h:DK l) {m:Nat} (hm:m≤2000):qV l m=0:=by
 have f:∀ l:List Ck,(∀ i,i<l.length→(l.getD i default).ok)→oP l=0:=by
  intro l;induction l with
  | nil=>intro _;rfl
  | cons c t ih =>intro h;unfold oP;rw [YQ (show c.err=0 from (h 0 (Ej _)).ck)];exact ih fun i hi=>h (i+1) (by simpa using hi)
 have g:∀ (n:Int) (l:List Ck),(∀ i,i<l.length→(l.getD i default).len=n)→vQ n l=true:=by
  intro n l;induction l with
  | nil=>intro _;rfl
  | cons c t ih =>intro h;unfold vQ;rw [bO,decide_eq_true_eq];exact ⟨h 0 (Ej _),ih fun i hi=>h (i+1) (by simpa using hi)⟩
 have:=h.n6;have:=h.n0;unfold qV;rw [YR (by omega),YR (by omega),YR (by omega),YQ (f l h.ok),YQ (g _ l h.len)]
theorem DK.fin {l:List Ck} (h:DK l):oC l:=fun i hi=>by have h1:=(h.ok i hi).l1;have h2:=(h.ok i hi).l2;exact ⟨by omega,by omega⟩
def Og (l:List Ck):Bool:=l.any (fun c=>decide (c.cuts.length>60)||decide (c.dens.length>60))||decide (l.length>10)
theorem yLu {len:Int} {cuts dens:List Int} (K:Bool→Prop):Dp len (aA cuts) (aA dens) K=K (decide (cuts.length>60)||decide (dens.length>60)):=by
 unfold Dp Vn;rw [dD,dD]
 by_cases h:cuts.length>60
 ·rw [bS (by omega),Ef h];rfl
 ·rw [bG (by omega),Os h,tX];congr 1;rw [Aaa];omega
theorem og (hl:l.length≤9223372036854775807) (K:Bool→Prop) :
  ∀ (r i n:Nat),i+r=l.length→r<n→Gq Dp (fun a=>(K a)) (fun b d e=>(K (decide ((((length b):Nat):Int)>(10:Int))))) n (cks l) i =
   K ((l.drop i).any (fun c=>decide (c.cuts.length>60)||decide (c.dens.length>60))||decide (l.length>10))
 | 0,i,n+1,hi,hn=>by unfold Gq;rw [dW,bG (by omega),nF (by omega)];show K _=K (false||_);rw [tX];congr 1;rw [Aaa];omega
 | r+1,i,n+1,hi,hn=>by
  unfold Gq;have e1:=cL (n:=(i:Int)+1) (by omega) (by omega);rw [dW,bS (by omega),cH,lR (by omega),aI (by omega),aI (by omega),dE,mQ,qU,rZ,yLu,mZ default (by omega),List.any_cons,e1,dN]
  cases hb:(decide ((l.getD i default).cuts.length>60)||decide ((l.getD i default).dens.length>60)) with
  | true=>rw [aX];rfl
  | false=>rw [aU,tX];exact og hl K r (i+1) n (by omega) (by omega)
theorem yDn (hl:l.length≤9223372036854775807) (K:Bool→Prop):zZ (cks l) K=K (Og l):=by refine yua _ _ (fun K k=>?_) K;unfold zZ Vu;refine ⟨l.length+1,?_⟩;have:=og hl K l.length 0 (l.length+1) (by omega) (by omega);rw [show ((0:Nat):Int)=0 from rfl,kT] at this;rw [this];exact k
theorem yI2 (h:Og l=false):l.length≤10∧Xm l∧oC l:=by
 unfold Og at h;simp only [AP,decide_eq_false_iff_not,List.any_eq_false,Bool.not_eq_true,Nat.not_lt] at h;have hh:∀ i,i<l.length→(l.getD i default).cuts.length≤60∧(l.getD i default).dens.length≤60:=by
  intro i hi;have hm:l.getD i default∈l:=by rw [cN,bY hi];exact kQ hi
  have:=h.1 _ hm;omega
 exact ⟨by omega,fun i hi=>⟨by have:=hh i hi;omega,by have:=hh i hi;omega⟩,fun i hi=>⟨by have:=hh i hi;omega,by have:=hh i hi;omega⟩⟩
theorem yLv {n d:Int} (hn:-1000000000000000000≤n∧n≤1000000000000000000) (hd:1≤d∧d≤1000000000000000000):small ((n:Rat)/(d:Rat)):=by
 have e:(n:Rat)/(d:Rat)=mkRat n d.toNat:=by
  rw [Rat.mkRat_eq_div];have h1:((d.toNat:Nat):Int)=d:=by omega
  have h2:((d.toNat:Nat):Rat)=(d:Rat):=by rw [← HA,h1]
  rw [h2]
 rw [e];unfold small;rw [Rat.num_mkRat,Rat.den_mkRat,YR (by omega),YR (by omega)];have g0:0<d.toNat.gcd n.natAbs:=Nat.gcd_pos_of_pos_left _ (by omega);have h1:(n/(d.toNat.gcd n.natAbs:Nat)).natAbs≤n.natAbs:=by
  rw [Int.natAbs_ediv_of_dvd,Cd]
  ·exact qH _ _
  ·rw [← Int.dvd_natAbs,Int.ofNat_dvd];exact Cf _ _
 have h2:d.toNat/d.toNat.gcd n.natAbs≤d.toNat:=qH _ _;generalize n/(d.toNat.gcd n.natAbs:Nat)=x at *
 generalize d.toNat/d.toNat.gcd n.natAbs=y at *
 omega
end
theorem oR {D:Int} (h:1≤D):(D:Rat)≠0:=fun e=>by have:=Rat.intCast_eq_zero_iff.1 e;omega
section
variable {len:Int} {cuts dens:List Int}
def rem (cuts dens:List Int):Nat→Nat→Int
 | 0,_=>0
 | r+1,i=>dens.getD i 0*(cuts.getD (i+1) 0-cuts.getD i 0)+rem cuts dens r (i+1)
theorem Xn (cuts dens:List Int):∀ (r i:Nat) (s:Int),jT cuts dens r i s=s+rem cuts dens r i
 | 0,i,s=>by unfold jT rem;omega
 | r+1,i,s=>by unfold jT rem;rw [Xn cuts dens r (i+1)];omega
theorem oi (h:VC len cuts dens):∀ (r i:Nat),i+r=dens.length→0≤rem cuts dens r i∧rem cuts dens r i≤12*(len-cuts.getD i 0)
 | 0,i,hi=>by have:=h.l1;have:=h.hi (i:=i) (by omega);unfold rem;omega
 | r+1,i,hi=>by unfold rem;have l1:=h.l1;have h2:=h.step (i:=i) (by omega);have h3:=Kl (h.den (i:=i) (by omega)) (x:=cuts.getD (i+1) 0-cuts.getD i 0) (by omega);have:=oi h r (i+1) (by omega);omega
theorem oj (h:VC len cuts dens):∀ (r i:Nat),i+r=dens.length→(∃ j,i≤j∧j<dens.length∧0<dens.getD j 0)→0<rem cuts dens r i
 | 0,i,hi,⟨j,h1,h2,_⟩=>by omega
 | r+1,i,hi,⟨j,h1,h2,h3⟩=>by
  unfold rem;have l1:=h.l1;have s:=h.step (i:=i) (by omega);have m:=Kl (h.den (i:=i) (by omega)) (x:=cuts.getD (i+1) 0-cuts.getD i 0) (by omega);have b:=oi h r (i+1) (by omega)
  by_cases e:j=i
  ·subst e;have:=Int.mul_pos h3 (show 0<cuts.getD (j+1) 0-cuts.getD j 0 by omega);omega
  ·have:=oj h r (i+1) (by omega) ⟨j,by omega,h2,h3⟩;omega
theorem yM9 (h:VC len cuts dens):0<totC cuts dens:=by unfold totC;rw [Xn];obtain ⟨d,hd,h0⟩:=h.2.2.2.2.2.2.2.2.2;obtain ⟨j,hj,e⟩:=List.mem_iff_getElem.1 hd;have:=oj h dens.length 0 (by omega) ⟨j,by omega,hj,by rw [cN,bY hj];simpa [e] using h0⟩;omega
end
structure Sp where
 a:Int
 b:Int
 c:Int
 d:Int
 deriving DecidableEq
instance:Inhabited Sp:=⟨⟨0,0,0,0⟩⟩
def jU (s:Sp):PV:=.agg [.int .i64 s.a,.int .i64 s.b,.int .i64 s.c,.int .i64 s.d]
def oD (l:List Sp):List PV:=l.map jU
theorem GY (l:List Sp):(oD l).length=l.length:=dS ..
theorem Oh {l:List Sp} {i:Nat} (h:i<l.length):getD (oD l) i .nils=jU (l.getD i default):=by unfold oD;rw [cN,cN,lK,bY h];rfl
theorem oE {r:List PV} {P:Prop}:asr (aG zD (.data r)) P=P:=rfl
section
variable {l:List Ck}
theorem yOV (x y:Rat):decide (gP x y≥0)=!decide (x<y):=by
 unfold gP
 by_cases h:x<y
 ·simp [h]
 ·by_cases h2:y<x<;>simp [h,h2]
end
def BL:DS:=.a [.i .i64,.s (.i .i64),.s (.i .i64)]
theorem oq {n:Int} (h:jI .i64 n):cB n:=by
 have e1:i64.min=-9223372036854775808:=by decide
 have e2:i64.max=9223372036854775807:=by decide
 unfold jI at h;rw [e1,e2] at h;exact h
theorem F_i {c:List PV} (h:HasF (.i .i64) c):∃ n,c=[.int .i64 n]∧cB n:=by simp only [HasF] at h;obtain ⟨n,e,k⟩:=h;exact ⟨n,e,oq k⟩
end Go.Pf.Vc
