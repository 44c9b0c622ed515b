/- Part 4. -/
import Derived.Test.YtobbapakhillmaaGreatTpW3
noncomputable section
namespace Go.Pf.Vc
open Go Go.Pf
set_option maxRecDepth 100000
set_option maxHeartbeats 0
def ygo (a0:yam) (a1:ybz) (a2:yaD) (a3:yby) (a4:ybi) (a5:yal) (a6:yav) (a7:yaL) (a8:ybf) (p0 p1:Ls) (K:Int→Int→Int→Int→Int→Int→Int→Int→Int→Int→Int→Int→Int→Int→Int→Int→Int→Int→Int→Int→Ls→Ls→Prop):Prop :=
 (a0 (0:Int) (fun G H =>
 (asr (decide ((0:Int)<(((List.length p0):Nat):Int)))
 (lt (List.getD p0 0 .nils) (fun X =>
 (asr (conf zK X)
 (a0 (yaa (yab X 0)) (fun vF vG =>
 (a1 p0 p1 (0:Int) (fun vH vI vJ vK =>
 (a2 vJ vK (0:Int) G H vH vI (fun w x I J vL vM =>
 (∃ n:Nat,ydE a0 a1 a2 a3 a4 a5 a6 a7 a8
 (fun vN vO _ _ _ _ _ _ _ _ _ _ _ _ _ _ _ _ _ _ _ _ _ _ _ _ _=>(a1 vN vO (1:Int) (fun _ _ _ _ =>
 False)))
 (fun a vP vQ h i Y Z j k va vb l m vc vd vR vS vT vU vV ve vf vg _ _ _ _ _=>(a1 vP vQ (1:Int) (fun vW vX f g =>
 (asr (decide ((0:Int)<(((List.length a):Nat):Int)))
 (asr (decide ((List.length a)=(List.length a)))
 (asr (decide (0<(List.length a)))
 (lt (List.getD a 0 .nils) (fun L =>
 (asr (conf z2 L)
 (a5 vW vX (yaa (yab L 0)) (yaa (yab L 1)) (fun vY vZ v0 =>
 (a4 vY vZ v0 (fun v1 v2 =>
 (asr (decide ((1:Int)<(((List.length a):Nat):Int)))
 (asr (decide ((List.length a)=(List.length a)))
 (asr (decide (1<(List.length a)))
 (lt (List.getD a 1 .nils) (fun M =>
 (asr (conf z2 M)
 (a5 v1 v2 (yaa (yab M 0)) (yaa (yab M 1)) (fun v3 v4 v5 =>
 (a4 v3 v4 v5 (fun b c =>
 (asr (decide ((List.length a)=(List.length a)))
 (asr (decide ((0+(List.length a))≤(List.length a)))
 (asr (!(decide (((0+(List.length a))+1)≤(List.length a))))
 (asr (decide ((List.length a)=(List.length a)))
 (asr (decide ((((List.length a)+1)+64)*(16+1)≤room))
 (asr (decide ((List.length (a++([(.agg [(.int .i64 b),(.int .i64 c)])]:Ls)))=(List.length (a++([(.agg [(.int .i64 b),(.int .i64 c)])]:Ls)))))
 (asr (decide ((0+(List.length (a++([(.agg [(.int .i64 b),(.int .i64 c)])]:Ls))))≤(List.length (a++([(.agg [(.int .i64 b),(.int .i64 c)])]:Ls)))))
 (a6 (List.take (List.length (a++([(.agg [(.int .i64 b),(.int .i64 c)])]:Ls))) (a++([(.agg [(.int .i64 b),(.int .i64 c)])]:Ls))) ([(.int .i64 (0:Int)),(.int .i64 (1:Int)),(.int .i64 (2:Int))]:Ls) (fun d =>
 (a7 ([(.int .i64 d)]:Ls) (fun v6 =>
 (asr (decide ((List.length (a++([(.agg [(.int .i64 b),(.int .i64 c)])]:Ls)))=(List.length (a++([(.agg [(.int .i64 b),(.int .i64 c)])]:Ls)))))
 (asr (decide ((0+(List.length (a++([(.agg [(.int .i64 b),(.int .i64 c)])]:Ls))))≤(List.length (a++([(.agg [(.int .i64 b),(.int .i64 c)])]:Ls)))))
 (a6 (List.take (List.length (a++([(.agg [(.int .i64 b),(.int .i64 c)])]:Ls))) (a++([(.agg [(.int .i64 b),(.int .i64 c)])]:Ls))) v6 (fun e =>
 (jn (fun (N:Ls→Ls→Ls→Int→Int→Int→Int→Int→Int→Int→Int→Int→Int→Prop) =>
 (asr (decide ((0:Int)≤d))
 (asr (decide (d<(((List.length (a++([(.agg [(.int .i64 b),(.int .i64 c)])]:Ls))):Nat):Int)))
 (asr (decide ((List.length (a++([(.agg [(.int .i64 b),(.int .i64 c)])]:Ls)))=(List.length (a++([(.agg [(.int .i64 b),(.int .i64 c)])]:Ls)))))
 (asr (decide ((0+(d.toNat))<(List.length (a++([(.agg [(.int .i64 b),(.int .i64 c)])]:Ls)))))
 (lt (List.getD (a++([(.agg [(.int .i64 b),(.int .i64 c)])]:Ls)) (0+(d.toNat)) .nils) (fun O =>
 (asr (conf z2 O)
 (asr (decide ((0:Int)≤e))
 (asr (decide (e<(((List.length (a++([(.agg [(.int .i64 b),(.int .i64 c)])]:Ls))):Nat):Int)))
 (asr (decide ((List.length (a++([(.agg [(.int .i64 b),(.int .i64 c)])]:Ls)))=(List.length (a++([(.agg [(.int .i64 b),(.int .i64 c)])]:Ls)))))
 (asr (decide ((0+(e.toNat))<(List.length (a++([(.agg [(.int .i64 b),(.int .i64 c)])]:Ls)))))
 (lt (List.getD (a++([(.agg [(.int .i64 b),(.int .i64 c)])]:Ls)) (0+(e.toNat)) .nils) (fun Q =>
 (asr (conf z2 Q)
 (cbr (!(((yaa (yab O 0)) ==(yaa (yab Q 0)))&&(((yaa (yab O 1)) ==(yaa (yab Q 1)))&&true)))
 (asr (decide ((0:Int)≤d))
 (asr (decide (d<(((List.length (a++([(.agg [(.int .i64 b),(.int .i64 c)])]:Ls))):Nat):Int)))
 (asr (decide ((List.length (a++([(.agg [(.int .i64 b),(.int .i64 c)])]:Ls)))=(List.length (a++([(.agg [(.int .i64 b),(.int .i64 c)])]:Ls)))))
 (asr (decide ((0+(d.toNat))<(List.length (a++([(.agg [(.int .i64 b),(.int .i64 c)])]:Ls)))))
 (lt (List.getD (a++([(.agg [(.int .i64 b),(.int .i64 c)])]:Ls)) (0+(d.toNat)) .nils) (fun R =>
 (asr (conf z2 R)
 (asr (decide ((0:Int)≤e))
 (asr (decide (e<(((List.length (a++([(.agg [(.int .i64 b),(.int .i64 c)])]:Ls))):Nat):Int)))
 (asr (decide ((List.length (a++([(.agg [(.int .i64 b),(.int .i64 c)])]:Ls)))=(List.length (a++([(.agg [(.int .i64 b),(.int .i64 c)])]:Ls)))))
 (asr (decide ((0+(e.toNat))<(List.length (a++([(.agg [(.int .i64 b),(.int .i64 c)])]:Ls)))))
 (lt (List.getD (a++([(.agg [(.int .i64 b),(.int .i64 c)])]:Ls)) (0+(e.toNat)) .nils) (fun S =>
 (asr (conf z2 S)
 (a5 (yaa (yab R 0)) (yaa (yab R 1)) (yaa (yab S 0)) (yaa (yab S 1)) (fun v7 v8 v9 =>
 (a4 v7 v8 v9 (fun o p =>
 (jn (fun (q:Ls→Ls→Int→Int→Int→Int→Prop) =>
 (cbr (decide (d=(0:Int)))
 (cbr (decide (d=(0:Int)))
 (a8 f g (1:Int) h i o p (fun wa wb wc wd =>
 (q wc wd h i wa wb)))
 (cbr (decide (d=(1:Int)))
 (a8 f g (1:Int) j k o p (fun we wf wg wh =>
 (q wg wh h i we wf)))
 (cbr (decide (d=(2:Int)))
 (a8 f g (1:Int) l m o p (fun wi wj wk wl =>
 (q wk wl h i wi wj)))
 False)))
 (cbr (decide (d=(1:Int)))
 (cbr (decide (d=(0:Int)))
 (a8 f g (1:Int) h i o p (fun wm wn wo wp =>
 (q wo wp j k wm wn)))
 (cbr (decide (d=(1:Int)))
 (a8 f g (1:Int) j k o p (fun wq wr ws wt =>
 (q ws wt j k wq wr)))
 (cbr (decide (d=(2:Int)))
 (a8 f g (1:Int) l m o p (fun wu wv ww wx =>
 (q ww wx j k wu wv)))
 False)))
 (cbr (decide (d=(2:Int)))
 (cbr (decide (d=(0:Int)))
 (a8 f g (1:Int) h i o p (fun wy wz wA wB =>
 (q wA wB l m wy wz)))
 (cbr (decide (d=(1:Int)))
 (a8 f g (1:Int) j k o p (fun wC wD wE wF =>
 (q wE wF l m wC wD)))
 (cbr (decide (d=(2:Int)))
 (a8 f g (1:Int) l m o p (fun wG wH wI wJ =>
 (q wI wJ l m wG wH)))
 False)))
 False))))
 (fun T U V W s t=>(asr (decide ((0:Int)≤e))
 (asr (decide (e<(((List.length (a++([(.agg [(.int .i64 b),(.int .i64 c)])]:Ls))):Nat):Int)))
 (asr (decide ((List.length (a++([(.agg [(.int .i64 b),(.int .i64 c)])]:Ls)))=(List.length (a++([(.agg [(.int .i64 b),(.int .i64 c)])]:Ls)))))
 (asr (decide ((0+(e.toNat))<(List.length (a++([(.agg [(.int .i64 b),(.int .i64 c)])]:Ls)))))
 (lt (List.getD (a++([(.agg [(.int .i64 b),(.int .i64 c)])]:Ls)) (0+(e.toNat)) .nils) (fun r =>
 (asr (conf z2 r)
 (cbr (decide (d=(0:Int)))
 (asr (decide ((0:Int)≤d))
 (asr (decide (d<(((List.length (a++([(.agg [(.int .i64 b),(.int .i64 c)])]:Ls))):Nat):Int)))
 (asr (decide ((List.length (a++([(.agg [(.int .i64 b),(.int .i64 c)])]:Ls)))=(List.length (a++([(.agg [(.int .i64 b),(.int .i64 c)])]:Ls)))))
 (asr (decide ((0+(d.toNat))<(List.length (a++([(.agg [(.int .i64 b),(.int .i64 c)])]:Ls)))))
 (lt (List.getD (a++([(.agg [(.int .i64 b),(.int .i64 c)])]:Ls)) (0+(d.toNat)) .nils) (fun wK =>
 (asr (conf z2 wK)
 (N (List.set (a++([(.agg [(.int .i64 b),(.int .i64 c)])]:Ls)) (0+(d.toNat)) (.agg [(.int .i64 (yaa (yab r 0))),(.int .i64 (yaa (yab r 1)))])) T U s t j k l m V W s t))))))))
 (cbr (decide (d=(1:Int)))
 (asr (decide ((0:Int)≤d))
 (asr (decide (d<(((List.length (a++([(.agg [(.int .i64 b),(.int .i64 c)])]:Ls))):Nat):Int)))
 (asr (decide ((List.length (a++([(.agg [(.int .i64 b),(.int .i64 c)])]:Ls)))=(List.length (a++([(.agg [(.int .i64 b),(.int .i64 c)])]:Ls)))))
 (asr (decide ((0+(d.toNat))<(List.length (a++([(.agg [(.int .i64 b),(.int .i64 c)])]:Ls)))))
 (lt (List.getD (a++([(.agg [(.int .i64 b),(.int .i64 c)])]:Ls)) (0+(d.toNat)) .nils) (fun wL =>
 (asr (conf z2 wL)
 (N (List.set (a++([(.agg [(.int .i64 b),(.int .i64 c)])]:Ls)) (0+(d.toNat)) (.agg [(.int .i64 (yaa (yab r 0))),(.int .i64 (yaa (yab r 1)))])) T U h i s t l m V W s t))))))))
 (cbr (decide (d=(2:Int)))
 (asr (decide ((0:Int)≤d))
 (asr (decide (d<(((List.length (a++([(.agg [(.int .i64 b),(.int .i64 c)])]:Ls))):Nat):Int)))
 (asr (decide ((List.length (a++([(.agg [(.int .i64 b),(.int .i64 c)])]:Ls)))=(List.length (a++([(.agg [(.int .i64 b),(.int .i64 c)])]:Ls)))))
 (asr (decide ((0+(d.toNat))<(List.length (a++([(.agg [(.int .i64 b),(.int .i64 c)])]:Ls)))))
 (lt (List.getD (a++([(.agg [(.int .i64 b),(.int .i64 c)])]:Ls)) (0+(d.toNat)) .nils) (fun wM =>
 (asr (conf z2 wM)
 (N (List.set (a++([(.agg [(.int .i64 b),(.int .i64 c)])]:Ls)) (0+(d.toNat)) (.agg [(.int .i64 (yaa (yab r 0))),(.int .i64 (yaa (yab r 1)))])) T U h i j k s t V W s t))))))))
 False))))))))))))))))))))))))))))))
 (∃ n:Nat,ycO a0 a1 a2 a3 a4 a5 a6 a7 a8
 (fun vh wN wO wP wQ wR wS wT wU wV wW wX wY wZ w0 y w1 w2 w3 w4 _ _ _ _ _ _ _=>(a6 ([]:Ls) ([(.int .i64 (0:Int)),(.int .i64 (1:Int)),(.int .i64 (2:Int))]:Ls) (fun z =>
 (a7 ([(.int .i64 z)]:Ls) (fun w5 =>
 (asr (decide ((List.length vh)=(List.length (a++([(.agg [(.int .i64 b),(.int .i64 c)])]:Ls)))))
 (asr (decide ((0+(List.length (a++([(.agg [(.int .i64 b),(.int .i64 c)])]:Ls))))≤(List.length (a++([(.agg [(.int .i64 b),(.int .i64 c)])]:Ls)))))
 (a6 (List.take (List.length (a++([(.agg [(.int .i64 b),(.int .i64 c)])]:Ls))) vh) w5 (fun w6 =>
 (jn (fun (vi:Int→Prop) =>
 (jn (fun (vj:Bool→Prop) =>
 (cbr (decide (y≥(0:Int)))
 (vj (y != z))
 (vj false)))
 (fun w7=>(cbr w7
 (vi y)
 (vi w6)))))
 (fun vk=>(a7 ([(.int .i64 vk),(.int .i64 z)]:Ls) (fun vl =>
 (asr (decide ((0:Int)<(((List.length vl):Nat):Int)))
 (lt (List.getD vl 0 .nils) (fun vm =>
 (asr (conf zI vm)
 (K wP wQ wR wS wT wU wV wW wX wY wZ w0 y w1 w2 w3 w4 (yaa vm) vk z wN wO))))))))))))))))))
 (fun vn u w8 w9 vaa vab vac vad vae vaf vag vah vai vaj vak val A vam van vao vap _ _ _ _ _ _ _=>(asr (decide ((List.length u)=(List.length u)))
 (asr (decide ((0+(List.length u))≤(List.length u)))
 (a6 (List.take (List.length u) u) ([(.int .i64 (0:Int)),(.int .i64 (1:Int)),(.int .i64 (2:Int))]:Ls) (fun B =>
 (a7 ([(.int .i64 B)]:Ls) (fun vaq =>
 (asr (decide ((List.length vn)=(List.length (a++([(.agg [(.int .i64 b),(.int .i64 c)])]:Ls)))))
 (asr (decide ((0+(List.length (a++([(.agg [(.int .i64 b),(.int .i64 c)])]:Ls))))≤(List.length (a++([(.agg [(.int .i64 b),(.int .i64 c)])]:Ls)))))
 (a6 (List.take (List.length (a++([(.agg [(.int .i64 b),(.int .i64 c)])]:Ls))) vn) vaq (fun var =>
 (jn (fun (vo:Int→Prop) =>
 (jn (fun (vp:Bool→Prop) =>
 (cbr (decide (A≥(0:Int)))
 (vp (A != B))
 (vp false)))
 (fun vas=>(cbr vas
 (vo A)
 (vo var)))))
 (fun vq=>(a7 ([(.int .i64 vq),(.int .i64 B)]:Ls) (fun vr =>
 (asr (decide ((0:Int)<(((List.length vr):Nat):Int)))
 (lt (List.getD vr 0 .nils) (fun vs =>
 (asr (conf zI vs)
 (K vaa vab vac vad vae vaf vag vah vai vaj vak val A vam van vao vap (yaa vs) vq B w8 w9))))))))))))))))))))
 n (a++([(.agg [(.int .i64 b),(.int .i64 c)])]:Ls)) f g h i Y Z j k va vb l m vc vd vR vS vT vU vV ve vf vg (2:Int) (3:Int) (0:Int))))))))))))))))))
 (fun vat vau vav vaw vax vay vaz vaA vaB vaC vaD vaE vaF=>(∃ n:Nat,ycO a0 a1 a2 a3 a4 a5 a6 a7 a8
 (fun vt vaG vaH vaI vaJ vaK vaL vaM vaN vaO vaP vaQ vaR vaS vaT C vaU vaV vaW vaX _ _ _ _ _ _ _=>(a6 ([]:Ls) ([(.int .i64 (0:Int)),(.int .i64 (1:Int)),(.int .i64 (2:Int))]:Ls) (fun D =>
 (a7 ([(.int .i64 D)]:Ls) (fun vaY =>
 (asr (decide ((List.length vt)=(List.length (a++([(.agg [(.int .i64 b),(.int .i64 c)])]:Ls)))))
 (asr (decide ((0+(List.length (a++([(.agg [(.int .i64 b),(.int .i64 c)])]:Ls))))≤(List.length (a++([(.agg [(.int .i64 b),(.int .i64 c)])]:Ls)))))
 (a6 (List.take (List.length (a++([(.agg [(.int .i64 b),(.int .i64 c)])]:Ls))) vt) vaY (fun vaZ =>
 (jn (fun (vu:Int→Prop) =>
 (jn (fun (vv:Bool→Prop) =>
 (cbr (decide (C≥(0:Int)))
 (vv (C != D))
 (vv false)))
 (fun va0=>(cbr va0
 (vu C)
 (vu vaZ)))))
 (fun vw=>(a7 ([(.int .i64 vw),(.int .i64 D)]:Ls) (fun vx =>
 (asr (decide ((0:Int)<(((List.length vx):Nat):Int)))
 (lt (List.getD vx 0 .nils) (fun vy =>
 (asr (conf zI vy)
 (K vaI vaJ vaK vaL vaM vaN vaO vaP vaQ vaR vaS vaT C vaU vaV vaW vaX (yaa vy) vw D vaG vaH))))))))))))))))))
 (fun vz v va1 va2 va3 va4 va5 va6 va7 va8 va9 vba vbb vbc vbd vbe E vbf vbg vbh vbi _ _ _ _ _ _ _=>(asr (decide ((List.length v)=(List.length v)))
 (asr (decide ((0+(List.length v))≤(List.length v)))
 (a6 (List.take (List.length v) v) ([(.int .i64 (0:Int)),(.int .i64 (1:Int)),(.int .i64 (2:Int))]:Ls) (fun F =>
 (a7 ([(.int .i64 F)]:Ls) (fun vbj =>
 (asr (decide ((List.length vz)=(List.length (a++([(.agg [(.int .i64 b),(.int .i64 c)])]:Ls)))))
 (asr (decide ((0+(List.length (a++([(.agg [(.int .i64 b),(.int .i64 c)])]:Ls))))≤(List.length (a++([(.agg [(.int .i64 b),(.int .i64 c)])]:Ls)))))
 (a6 (List.take (List.length (a++([(.agg [(.int .i64 b),(.int .i64 c)])]:Ls))) vz) vbj (fun vbk =>
 (jn (fun (vA:Int→Prop) =>
 (jn (fun (vB:Bool→Prop) =>
 (cbr (decide (E≥(0:Int)))
 (vB (E != F))
 (vB false)))
 (fun vbl=>(cbr vbl
 (vA E)
 (vA vbk)))))
 (fun vC=>(a7 ([(.int .i64 vC),(.int .i64 F)]:Ls) (fun vD =>
 (asr (decide ((0:Int)<(((List.length vD):Nat):Int)))
 (lt (List.getD vD 0 .nils) (fun vE =>
 (asr (conf zI vE)
 (K va3 va4 va5 va6 va7 va8 va9 vba vbb vbc vbd vbe E vbf vbg vbh vbi (yaa vE) vC F va1 va2))))))))))))))))))))
 n vat vau vav vaw vax Y Z vay vaz va vb vaA vaB vc vd d vaC vaD vaE vaF ve vf vg (2:Int) (3:Int) (0:Int))))))))))))))))))))))))))))))))))))))))))
 n vL vM G H w x w x I J I J vF vG (-1:Int) (0:Int) (0:Int) (0:Int) (0:Int) (0:Int) (0:Int) (0:Int) (1:Int) ([(.agg [(.int .i64 G),(.int .i64 H),(.int .i64 w),(.int .i64 x)]),(.agg [(.int .i64 w),(.int .i64 x),(.int .i64 I),(.int .i64 J)])]:Ls) (2:Int) (0:Int))))))))))))))
def yak:yaX:=ygo yaZ yaC yae yat yac yaQ yaq yai yaz
def yeA (w:yaX) (az:Ls) (b:HB) (K:PV→Ls→Prop):Prop :=
 match az,b with
 | [(.ptr 0 1 0 0)],⟨false,true,2,[(.agg [(.data p0),(.data p1)])]⟩=>w p0 p1 (fun r0 r1 r2 r3 r4 r5 r6 r7 r8 r9 r10 r11 r12 r13 r14 r15 r16 r17 r18 r19 r20 r21=>K (.agg [(.int .i64 r0),(.int .i64 r1),(.int .i64 r2),(.int .i64 r3),(.int .i64 r4),(.int .i64 r5),(.int .i64 r6),(.int .i64 r7),(.int .i64 r8),(.int .i64 r9),(.int .i64 r10),(.int .i64 r11),(.int .i64 r12),(.int .i64 r13),(.int .i64 r14),(.int .i64 r15),(.int .i64 r16),(.int .i64 r17),(.int .i64 r18),(.int .i64 r19)]) [(.agg [(.data r20),(.data r21)])])
 | _,_=>False
def yjr (az:Ls) (b:HB) (K:PV→Ls→Prop):Prop:=yeA yak az b K
def yn2 (Q:Qx):Ls→Ls→Int→Int→Int→Int→Int→Int→Int→Int→Int→Int→Int→Int→Int→Int→Int→Int→Int→Int→Int→Int→Int→Ls→Int→Int→Bool→Prop:=(fun l0 l1 i2 i3 i4 i5 i6 i7 i8 i9 i10 i11 i12 i13 i14 i15 i16 i17 i18 i19 i20 i21 i22 l23 i24 i25 b26=>Q (.exit 0) [(0,.v (.ptr 0 1 0 0)),(1,.v (.int .i64 i22)),(7,.v .nils),(13,.v (.data l23)),(14,.v (.int .i64 i24)),(15,.v (.int .i64 i25)),(16,.v (.bool b26))] [⟨false,true,2,([(.agg [(.data l0),(.data l1)])]:Ls)⟩,⟨false,true,20,([(.agg [(.int .i64 i2),(.int .i64 i3),(.int .i64 i4),(.int .i64 i5),(.int .i64 i6),(.int .i64 i7),(.int .i64 i8),(.int .i64 i9),(.int .i64 i10),(.int .i64 i11),(.int .i64 i12),(.int .i64 i13),(.int .i64 i14),(.int .i64 i15),(.int .i64 i16),(.int .i64 i17),(.int .i64 i18),(.int .i64 i19),(.int .i64 i20),(.int .i64 i21)])]:Ls)⟩])
def yhK (Q:Qx):Ls→Ls→Ls→Int→Int→Int→Int→Int→Int→Int→Int→Int→Int→Int→Int→Int→Int→Int→Int→Int→Int→Int→Int→Int→Ls→Int→Int→Bool→Prop:=(fun l0 l1 l2 i3 i4 i5 i6 i7 i8 i9 i10 i11 i12 i13 i14 i15 i16 i17 i18 i19 i20 i21 i22 i23 l26 i27 i28 b29=>Q (.exit 0) [(0,.v (.ptr 0 1 0 0)),(1,.v (.int .i64 i23)),(7,.v (.own 2 0 (List.length l0) (List.length l0) none)),(13,.v (.data l26)),(14,.v (.int .i64 i27)),(15,.v (.int .i64 i28)),(16,.v (.bool b29))] [⟨false,true,2,([(.agg [(.data l1),(.data l2)])]:Ls)⟩,⟨false,true,20,([(.agg [(.int .i64 i3),(.int .i64 i4),(.int .i64 i5),(.int .i64 i6),(.int .i64 i7),(.int .i64 i8),(.int .i64 i9),(.int .i64 i10),(.int .i64 i11),(.int .i64 i12),(.int .i64 i13),(.int .i64 i14),(.int .i64 i15),(.int .i64 i16),(.int .i64 i17),(.int .i64 i18),(.int .i64 i19),(.int .i64 i20),(.int .i64 i21),(.int .i64 i22)])]:Ls)⟩,⟨false,true,2,l0⟩])
def yn3 (Q:Qx):Ls→Ls→Ls→Int→Int→Int→Int→Int→Int→Int→Int→Int→Int→Int→Int→Int→Int→Int→Int→Int→Int→Int→Int→Int→Int→Int→Bool→Prop:=(fun l0 l1 l2 i3 i4 i5 i6 i7 i8 i9 i10 i11 i12 i13 i14 i15 i16 i17 i18 i19 i20 i21 i22 i23 i24 i25 b26=>Q (.exit 0) [(0,.v (.ptr 0 1 0 0)),(1,.v (.int .i64 i23)),(7,.v .nils),(13,.v (.sub 1 1 0 0 3 4)),(14,.v (.int .i64 i24)),(15,.v (.int .i64 i25)),(16,.v (.bool b26))] [⟨false,true,2,([(.agg [(.data l1),(.data l2)])]:Ls)⟩,⟨false,true,20,([(.agg [(.int .i64 i3),(.int .i64 i4),(.int .i64 i5),(.int .i64 i6),(.int .i64 i7),(.int .i64 i8),(.int .i64 i9),(.int .i64 i10),(.int .i64 i11),(.int .i64 i12),(.int .i64 i13),(.int .i64 i14),(.int .i64 i15),(.int .i64 i16),(.int .i64 i17),(.int .i64 i18),(.int .i64 i19),(.int .i64 i20),(.int .i64 i21),(.int .i64 i22)])]:Ls)⟩,⟨false,true,2,l0⟩])
def yhL (Q:Qx):Ls→Ls→Ls→Ls→Int→Int→Int→Int→Int→Int→Int→Int→Int→Int→Int→Int→Int→Int→Int→Int→Int→Int→Int→Int→Int→Int→Int→Bool→Prop:=(fun l0 l1 l2 l3 i4 i5 i6 i7 i8 i9 i10 i11 i12 i13 i14 i15 i16 i17 i18 i19 i20 i21 i22 i23 i24 i27 i28 b29=>Q (.exit 0) [(0,.v (.ptr 0 1 0 0)),(1,.v (.int .i64 i24)),(7,.v (.own 3 0 (List.length l1) (List.length l1) none)),(13,.v (.sub 1 1 0 0 3 4)),(14,.v (.int .i64 i27)),(15,.v (.int .i64 i28)),(16,.v (.bool b29))] [⟨false,true,2,([(.agg [(.data l2),(.data l3)])]:Ls)⟩,⟨false,true,20,([(.agg [(.int .i64 i4),(.int .i64 i5),(.int .i64 i6),(.int .i64 i7),(.int .i64 i8),(.int .i64 i9),(.int .i64 i10),(.int .i64 i11),(.int .i64 i12),(.int .i64 i13),(.int .i64 i14),(.int .i64 i15),(.int .i64 i16),(.int .i64 i17),(.int .i64 i18),(.int .i64 i19),(.int .i64 i20),(.int .i64 i21),(.int .i64 i22),(.int .i64 i23)])]:Ls)⟩,⟨false,true,2,l0⟩,⟨false,true,2,l1⟩])
def pt55:RPt:=rC pt28 rN
def pt56:LPt:=lC pt0 (lC pt0 (lC pt0 (lC pt0 (lC pt0 (lC pt0 (lC pt0 (lC pt0 (lC pt0 (lC pt0 pt5)))))))))
def pt57:RPt:=rC (vA (lC pt0 (lC pt0 (lC pt0 (lC pt0 (lC pt0 (lC pt0 (lC pt0 (lC pt0 pt56))))))))) rN
def pt58:Pat Frm:=fV 0 pt19 (fV 1 pt0 (fV 7 vNs pt52))
def pt59:HPt:=hB false true 2 pt55 (hB false true 20 pt57 pt45)
def pt60:Pat Frm:=fV 13 (vSub 1 0 3 4 (nK 1) (nK 0)) pt51
def pt61:VPt:=vW 3 (nK 0) (nT 3) (nT 3)
def yii (a0:yam) (a1:ybz) (a2:yaD) (a3:yby) (a4:ybi) (a5:yal) (a6:yav) (a7:yaL) (a8:ybf) (Q:Qx):List St:=[⟨(pS (hB false true 2 pt55 (hB false true 20 pt57 hN)) pt58 fN),ydE a0 a1 a2 a3 a4 a5 a6 a7 a8 (yn2 Q) (yhK Q)⟩,⟨(pS pt59 (fV 0 pt19 (fV 1 pt0 (fV 7 (vW 2 (nK 0) (nT 2) (nT 2)) pt52))) fN),fun n l1 l2 i3 i4 i5 i6 i7 i8 i9 i10 i11 i12 i13 i14 i15 i16 i17 i18 i19 i20 i21 i22 l0 i23 l26 i27 i28=>ybF a0 a1 a2 a3 a4 a5 a6 a7 a8 (yhK Q) n l0 l1 l2 i3 i4 i5 i6 i7 i8 i9 i10 i11 i12 i13 i14 i15 i16 i17 i18 i19 i20 i21 i22 i23 l26 i27 i28⟩,⟨(pS pt59 (fV 0 pt19 (fV 1 pt0 (fV 7 vNs pt60))) fN),fun n l1 l2 i3 i4 i5 i6 i7 i8 i9 i10 i11 i12 i13 i14 i15 i16 i17 i18 i19 i20 i21 i22 l0 i23 i24 i25=>ycO a0 a1 a2 a3 a4 a5 a6 a7 a8 (yn3 Q) (yhL Q) n l0 l1 l2 i3 i4 i5 i6 i7 i8 i9 i10 i11 i12 i13 i14 i15 i16 i17 i18 i19 i20 i21 i22 i23 i24 i25⟩,⟨(pS (hB false true 2 pt55 (hB false true 20 pt57 (hB false true 2 rA pt45))) (fV 0 pt19 (fV 1 pt0 (fV 7 pt61 pt60))) fN),fun n l2 l3 i4 i5 i6 i7 i8 i9 i10 i11 i12 i13 i14 i15 i16 i17 i18 i19 i20 i21 i22 i23 l0 l1 i24 i27 i28=>ya7 a0 a1 a2 a3 a4 a5 a6 a7 a8 (yhL Q) n l0 l1 l2 l3 i4 i5 i6 i7 i8 i9 i10 i11 i12 i13 i14 i15 i16 i17 i18 i19 i20 i21 i22 i23 i24 i27 i28⟩]
def ygp (a0:yam) (a1:ybz) (a2:yaD) (a3:yby) (a4:ybi) (a5:yal) (a6:yav) (a7:yaL) (a8:ybf):LP:=lpS [(38310000,yii a0 a1 a2 a3 a4 a5 a6 a7 a8)]
def yjs (e:Es) (a0:yam) (a1:ybz) (a2:yaD) (a3:yby) (a4:ybi) (a5:yal) (a6:yav) (a7:yaL) (a8:ybf):SE:=⟨(E e),ydO [(yfp,yhI.pw a0),(ygD,yzy.pw a3),(ybA,ynX.pw a4),(yfG,yla.pw a5),(ye6,yCu.pw a6),(ydY,ykK.pw a7)],ydP [],ygp a0 a1 a2 a3 a4 a5 a6 a7 a8,yqa [(ydH,yez a1),(ycl,ycC a2),(yc8,ydK a8)]⟩
def yjt (e:Es) (a0:yam) (a1:ybz) (a2:yaD) (a3:yby) (a4:ybi) (a5:yal) (a6:yav) (a7:yaL) (a8:ybf):SE:=⟨(E e),ydO [(yfp,yhI.pw a0),(ygD,yzy.pw a3),(ybA,ynX.pw a4),(yfG,yla.pw a5),(ye6,yCu.pw a6),(ydY,ykK.pw a7)],ydP [(ygE,ygH)],ygp a0 a1 a2 a3 a4 a5 a6 a7 a8,yqa [(ydH,yez a1),(ycl,ycC a2),(yc8,ydK a8)]⟩
theorem ypS (e:Es) (he:EG e):SEOk (Uni (E e)) (yjs e yaZ yaC yae yat yac yaQ yaq yai yaz):=ylE (Sub.uni _) ⟨(ykO e he),(yiQ e he),(ycf e he),(yg8 e he),(ygU e he),(yfx e he),trivial⟩ trivial he.ok ⟨(yjq e he),(yd8 e he),(ygT e he),trivial⟩
theorem ymB (e:Es) (a0 a1 a2 a3 a4 a5 a6 a7 a8):ycr (yjs e a0 a1 a2 a3 a4 a5 a6 a7 a8) 5 a yjJ false (yii a0 a1 a2 a3 a4 a5 a6 a7 a8):=fun _=>⟨fun _=>by kernel_rfl,fun _ _=>by kernel_rfl,fun _=>by kernel_rfl,fun _ _=>by kernel_rfl,fun _=>by kernel_rfl,fun _ _=>by kernel_rfl,fun _=>by kernel_rfl,fun _ _=>by kernel_rfl,trivial⟩
theorem ymC (e:Es) (he:EG e):LpT (Uni (E e)) (ygp yaZ yaC yae yat yac yaQ yaq yai yaz) [] 38310000 (.loop 38310000 yjJ):=fun _ _ _=>yp8.st (Sub.uni _) (yaW (ypS e he) 5) (YOk.no _ _) (yar (by kernel_rfl)) (ymB e _ _ _ _ _ _ _ _ _ _)
theorem ypT (e:Es) (he:EG e):SEOk (Uni (E e)) (yjt e yaZ yaC yae yat yac yaQ yaq yai yaz):=ylE (Sub.uni _) ⟨(ykO e he),(yiQ e he),(ycf e he),(yg8 e he),(ygU e he),(yfx e he),trivial⟩ ⟨⟨by kernel_rfl,by kernel_rfl,rfl,fun az=>yaN (by kernel_rfl) az,he.num _ (by kernel_rfl),by kernel_rfl,(ybg (l:=[(38310000,.loop 38310000 yjJ)]) ⟨ymC e he,trivial⟩ (by kernel_rfl))⟩,trivial⟩ he.ok ⟨(yjq e he),(yd8 e he),(ygT e he),trivial⟩
theorem yqV (e:Es) (a0 a1 a2 a3 a4 a5 a6 a7 a8 p0 p1 K):WPL (yjt e a0 a1 a2 a3 a4 a5 a6 a7 a8) 6 yrg [(.ptr 0 1 0 0)] ⟨false,true,2,[(.agg [(.data p0),(.data p1)])]⟩ K=ygo a0 a1 a2 a3 a4 a5 a6 a7 a8 p0 p1 (fun r0 r1 r2 r3 r4 r5 r6 r7 r8 r9 r10 r11 r12 r13 r14 r15 r16 r17 r18 r19 r20 r21=>K (.agg [(.int .i64 r0),(.int .i64 r1),(.int .i64 r2),(.int .i64 r3),(.int .i64 r4),(.int .i64 r5),(.int .i64 r6),(.int .i64 r7),(.int .i64 r8),(.int .i64 r9),(.int .i64 r10),(.int .i64 r11),(.int .i64 r12),(.int .i64 r13),(.int .i64 r14),(.int .i64 r15),(.int .i64 r16),(.int .i64 r17),(.int .i64 r18),(.int .i64 r19)]) [(.agg [(.data r20),(.data r21)])]):=by kernel_rfl
theorem yju (e:Es) (he:EG e):OkL (E e) yjr ydI:=by
 intro az b K h
 unfold yjr yeA at h
 split at h
 ·exact yBH (ypT e he) yp9.flat (yar (by kernel_rfl)) (by kernel_rfl) (he.num _ (by kernel_rfl)) ((yqV ..).mpr h)
 ·exact h.elim
abbrev yaT:Type:=Ls→Ls→Int→Int→Int→Int→Int→Int→Int→Int→Int→Int→Int→Int→Int→Int→Int→Int→Int→Int→Int→Int→(Int→Int→Int→Int→Int→Int→Int→Int→Int→Int→Int→Int→Ls→Ls→Prop)→Prop
def ycE (a0:yby) (a1:ybi) (a2:yaD) (a3:yav) (a4:yaL) (x1:Ls→Ls→Ls→Int→Ls→Int→Int→Bool→Prop):Nat→Ls→Ls→Ls→Int→Ls→Int→Int→Prop
 | 0,_,_,_,_,_,_,_=>False
 | n+1,l0,l1,l2,i3,l6,i7,i8 =>
 (cbr (decide (i8<i7))
 (asr (decide ((0:Int)≤i8))
 (asr (decide (i8<(((List.length l6):Nat):Int)))
 (lt (List.getD l6 (i8.toNat) .nils) (fun a =>
 (asr (conf z4 a)
 (a0 l1 l2 i3 (yaa (yab a 0)) (yaa (yab a 1)) (yaa (yab a 2)) (yaa (yab a 3)) (fun d e f g h =>
 (a1 f g h (fun b c =>
 (asr (decide ((List.length l0)=(List.length l0)))
 (asr (decide ((0+(List.length l0))≤(List.length l0)))
 (asr (!(decide (((0+(List.length l0))+1)≤(List.length l0))))
 (asr (decide ((List.length l0)=(List.length l0)))
 (asr (decide ((((List.length l0)+1)+64)*(16+1)≤room))
 (lt (IntKind.i64.wrap (i8+(1:Int))) (fun i =>
 (asr (decide ((List.length (l0++([(.agg [(.int .i64 b),(.int .i64 c)])]:Ls)))=List.length (l0++([(.agg [(.int .i64 b),(.int .i64 c)])]:Ls)))&&decide ((List.length (l0++([(.agg [(.int .i64 b),(.int .i64 c)])]:Ls)))=List.length (l0++([(.agg [(.int .i64 b),(.int .i64 c)])]:Ls))))
 (ycE a0 a1 a2 a3 a4 x1 n (l0++([(.agg [(.int .i64 b),(.int .i64 c)])]:Ls)) d e i3 l6 i7 i))))))))))))))))))
 (x1 l0 l1 l2 i3 l6 i7 i8 false))
def ydm (a0:yby) (a1:ybi) (a2:yaD) (a3:yav) (a4:yaL) (x0:Ls→Ls→Int→Ls→Int→Int→Bool→Prop) (x1:Ls→Ls→Ls→Int→Ls→Int→Int→Bool→Prop):Nat→Ls→Ls→Int→Ls→Int→Int→Prop
 | 0,_,_,_,_,_,_=>False
 | n+1,l0,l1,i2,l3,i4,i5 =>
 (cbr (decide (i5<i4))
 (asr (decide ((0:Int)≤i5))
 (asr (decide (i5<(((List.length l3):Nat):Int)))
 (lt (List.getD l3 (i5.toNat) .nils) (fun a =>
 (asr (conf z4 a)
 (a0 l0 l1 i2 (yaa (yab a 0)) (yaa (yab a 1)) (yaa (yab a 2)) (yaa (yab a 3)) (fun d e f g h =>
 (a1 f g h (fun b c =>
 (lt (IntKind.i64.wrap (i5+(1:Int))) (fun i =>
 (asr (decide (1=List.length ([(.agg [(.int .i64 b),(.int .i64 c)])]:Ls))&&decide (1=List.length ([(.agg [(.int .i64 b),(.int .i64 c)])]:Ls)))
 (ycE a0 a1 a2 a3 a4 x1 n ([(.agg [(.int .i64 b),(.int .i64 c)])]:Ls) d e i2 l3 i4 i)))))))))))))
 (x0 l0 l1 i2 l3 i4 i5 false))
def ya2 (a0:yby) (a1:ybi) (a2:yaD) (a3:yav) (a4:yaL) (x3:Ls→Ls→Ls→Ls→Ls→Int→Int→Int→Bool→Prop):Nat→Ls→Ls→Ls→Ls→Ls→Int→Int→Int→Prop
 | 0,_,_,_,_,_,_,_,_=>False
 | n+1,l0,l1,l2,l3,l4,i5,i11,i12 =>
 (cbr (decide (i12<i11))
 (asr (decide ((0:Int)≤i12))
 (asr (decide (i12<(((List.length l1):Nat):Int)))
 (asr (decide ((List.length l1)=(List.length l1)))
 (asr (decide ((0+(i12.toNat))<(List.length l1)))
 (lt (List.getD l1 (0+(i12.toNat)) .nils) (fun a =>
 (asr (conf z4 a)
 (a0 l3 l4 i5 (yaa (yab a 0)) (yaa (yab a 1)) (yaa (yab a 2)) (yaa (yab a 3)) (fun d e f g h =>
 (a1 f g h (fun b c =>
 (asr (decide ((List.length l2)=(List.length l2)))
 (asr (decide ((0+(List.length l2))≤(List.length l2)))
 (asr (!(decide (((0+(List.length l2))+1)≤(List.length l2))))
 (asr (decide ((List.length l2)=(List.length l2)))
 (asr (decide ((((List.length l2)+1)+64)*(16+1)≤room))
 (lt (IntKind.i64.wrap (i12+(1:Int))) (fun i =>
 (asr (decide ((List.length (l2++([(.agg [(.int .i64 b),(.int .i64 c)])]:Ls)))=List.length (l2++([(.agg [(.int .i64 b),(.int .i64 c)])]:Ls)))&&decide ((List.length (l2++([(.agg [(.int .i64 b),(.int .i64 c)])]:Ls)))=List.length (l2++([(.agg [(.int .i64 b),(.int .i64 c)])]:Ls)))&&decide ((List.length l1)=List.length l1)&&decide ((List.length l1)=List.length l1)&&decide ((List.length l1)=List.length l1))
 (ya2 a0 a1 a2 a3 a4 x3 n l0 l1 (l2++([(.agg [(.int .i64 b),(.int .i64 c)])]:Ls)) d e i5 i11 i))))))))))))))))))))
 (x3 l0 l1 l2 l3 l4 i5 i11 i12 false))
def ydn (a0:yby) (a1:ybi) (a2:yaD) (a3:yav) (a4:yaL) (x2:Ls→Ls→Ls→Ls→Int→Int→Int→Bool→Prop) (x3:Ls→Ls→Ls→Ls→Ls→Int→Int→Int→Bool→Prop):Nat→Ls→Ls→Ls→Ls→Int→Int→Int→Prop
 | 0,_,_,_,_,_,_,_=>False
 | n+1,l0,l1,l2,l3,i4,i8,i9 =>
 (cbr (decide (i9<i8))
 (asr (decide ((0:Int)≤i9))
 (asr (decide (i9<(((List.length l1):Nat):Int)))
 (asr (decide ((List.length l1)=(List.length l1)))
 (asr (decide ((0+(i9.toNat))<(List.length l1)))
 (lt (List.getD l1 (0+(i9.toNat)) .nils) (fun a =>
 (asr (conf z4 a)
 (a0 l2 l3 i4 (yaa (yab a 0)) (yaa (yab a 1)) (yaa (yab a 2)) (yaa (yab a 3)) (fun d e f g h =>
 (a1 f g h (fun b c =>
 (lt (IntKind.i64.wrap (i9+(1:Int))) (fun i =>
 (asr (decide (1=List.length ([(.agg [(.int .i64 b),(.int .i64 c)])]:Ls))&&decide (1=List.length ([(.agg [(.int .i64 b),(.int .i64 c)])]:Ls))&&decide ((List.length l1)=List.length l1)&&decide ((List.length l1)=List.length l1)&&decide ((List.length l1)=List.length l1))
 (ya2 a0 a1 a2 a3 a4 x3 n l0 l1 ([(.agg [(.int .i64 b),(.int .i64 c)])]:Ls) d e i4 i8 i)))))))))))))))
 (x2 l0 l1 l2 l3 i4 i8 i9 false))
def yeD (a0:yby) (a1:ybi) (a2:yaD) (a3:yav) (a4:yaL) (x5:Ls→Ls→Ls→Ls→Ls→Int→Ls→Int→Int→Bool→Prop):Nat→Ls→Ls→Ls→Ls→Ls→Int→Ls→Int→Int→Prop
 | 0,_,_,_,_,_,_,_,_,_=>False
 | n+1,l0,l1,l2,l3,l4,i5,l8,i9,i10 =>
 (cbr (decide (i10<i9))
 (asr (decide ((0:Int)≤i10))
 (asr (decide (i10<(((List.length l8):Nat):Int)))
 (lt (List.getD l8 (i10.toNat) .nils) (fun a =>
 (asr (conf z4 a)
 (a0 l3 l4 i5 (yaa (yab a 0)) (yaa (yab a 1)) (yaa (yab a 2)) (yaa (yab a 3)) (fun d e f g h =>
 (a1 f g h (fun b c =>
 (asr (decide ((List.length l2)=(List.length l2)))
 (asr (decide ((0+(List.length l2))≤(List.length l2)))
 (asr (!(decide (((0+(List.length l2))+1)≤(List.length l2))))
 (asr (decide ((List.length l2)=(List.length l2)))
 (asr (decide ((((List.length l2)+1)+64)*(16+1)≤room))
 (lt (IntKind.i64.wrap (i10+(1:Int))) (fun i =>
 (asr (decide ((List.length (l2++([(.agg [(.int .i64 b),(.int .i64 c)])]:Ls)))=List.length (l2++([(.agg [(.int .i64 b),(.int .i64 c)])]:Ls)))&&decide ((List.length (l2++([(.agg [(.int .i64 b),(.int .i64 c)])]:Ls)))=List.length (l2++([(.agg [(.int .i64 b),(.int .i64 c)])]:Ls))))
 (yeD a0 a1 a2 a3 a4 x5 n l0 l1 (l2++([(.agg [(.int .i64 b),(.int .i64 c)])]:Ls)) d e i5 l8 i9 i))))))))))))))))))
 (x5 l0 l1 l2 l3 l4 i5 l8 i9 i10 false))
def yhi (a0:yby) (a1:ybi) (a2:yaD) (a3:yav) (a4:yaL) (x4:Ls→Ls→Ls→Ls→Int→Ls→Int→Int→Bool→Prop) (x5:Ls→Ls→Ls→Ls→Ls→Int→Ls→Int→Int→Bool→Prop):Nat→Ls→Ls→Ls→Ls→Int→Ls→Int→Int→Prop
 | 0,_,_,_,_,_,_,_,_=>False
 | n+1,l0,l1,l2,l3,i4,l5,i6,i7 =>
 (cbr (decide (i7<i6))
 (asr (decide ((0:Int)≤i7))
 (asr (decide (i7<(((List.length l5):Nat):Int)))
 (lt (List.getD l5 (i7.toNat) .nils) (fun a =>
 (asr (conf z4 a)
 (a0 l2 l3 i4 (yaa (yab a 0)) (yaa (yab a 1)) (yaa (yab a 2)) (yaa (yab a 3)) (fun d e f g h =>
 (a1 f g h (fun b c =>
 (lt (IntKind.i64.wrap (i7+(1:Int))) (fun i =>
 (asr (decide (1=List.length ([(.agg [(.int .i64 b),(.int .i64 c)])]:Ls))&&decide (1=List.length ([(.agg [(.int .i64 b),(.int .i64 c)])]:Ls)))
 (yeD a0 a1 a2 a3 a4 x5 n l0 l1 ([(.agg [(.int .i64 b),(.int .i64 c)])]:Ls) d e i4 l5 i6 i)))))))))))))
 (x4 l0 l1 l2 l3 i4 l5 i6 i7 false))
def ybD (a0:yby) (a1:ybi) (a2:yaD) (a3:yav) (a4:yaL) (x7:Ls→Ls→Ls→Ls→Ls→Ls→Int→Ls→Int→Int→Bool→Prop):Nat→Ls→Ls→Ls→Ls→Ls→Ls→Int→Ls→Int→Int→Prop
 | 0,_,_,_,_,_,_,_,_,_,_=>False
 | n+1,l0,l1,l2,l3,l4,l5,i6,l9,i10,i11 =>
 (cbr (decide (i11<i10))
 (asr (decide ((0:Int)≤i11))
 (asr (decide (i11<(((List.length l9):Nat):Int)))
 (lt (List.getD l9 (i11.toNat) .nils) (fun a =>
 (asr (conf z4 a)
 (a0 l4 l5 i6 (yaa (yab a 0)) (yaa (yab a 1)) (yaa (yab a 2)) (yaa (yab a 3)) (fun d e f g h =>
 (a1 f g h (fun b c =>
 (asr (decide ((List.length l3)=(List.length l3)))
 (asr (decide ((0+(List.length l3))≤(List.length l3)))
 (asr (!(decide (((0+(List.length l3))+1)≤(List.length l3))))
 (asr (decide ((List.length l3)=(List.length l3)))
 (asr (decide ((((List.length l3)+1)+64)*(16+1)≤room))
 (lt (IntKind.i64.wrap (i11+(1:Int))) (fun i =>
 (asr (decide ((List.length (l3++([(.agg [(.int .i64 b),(.int .i64 c)])]:Ls)))=List.length (l3++([(.agg [(.int .i64 b),(.int .i64 c)])]:Ls)))&&decide ((List.length (l3++([(.agg [(.int .i64 b),(.int .i64 c)])]:Ls)))=List.length (l3++([(.agg [(.int .i64 b),(.int .i64 c)])]:Ls))))
 (ybD a0 a1 a2 a3 a4 x7 n l0 l1 l2 (l3++([(.agg [(.int .i64 b),(.int .i64 c)])]:Ls)) d e i6 l9 i10 i))))))))))))))))))
 (x7 l0 l1 l2 l3 l4 l5 i6 l9 i10 i11 false))
def ydo (a0:yby) (a1:ybi) (a2:yaD) (a3:yav) (a4:yaL) (x6:Ls→Ls→Ls→Ls→Ls→Int→Ls→Int→Int→Bool→Prop) (x7:Ls→Ls→Ls→Ls→Ls→Ls→Int→Ls→Int→Int→Bool→Prop):Nat→Ls→Ls→Ls→Ls→Ls→Int→Ls→Int→Int→Prop
 | 0,_,_,_,_,_,_,_,_,_=>False
 | n+1,l0,l1,l2,l3,l4,i5,l6,i7,i8 =>
 (cbr (decide (i8<i7))
 (asr (decide ((0:Int)≤i8))
 (asr (decide (i8<(((List.length l6):Nat):Int)))
 (lt (List.getD l6 (i8.toNat) .nils) (fun a =>
 (asr (conf z4 a)
 (a0 l3 l4 i5 (yaa (yab a 0)) (yaa (yab a 1)) (yaa (yab a 2)) (yaa (yab a 3)) (fun d e f g h =>
 (a1 f g h (fun b c =>
 (lt (IntKind.i64.wrap (i8+(1:Int))) (fun i =>
 (asr (decide (1=List.length ([(.agg [(.int .i64 b),(.int .i64 c)])]:Ls))&&decide (1=List.length ([(.agg [(.int .i64 b),(.int .i64 c)])]:Ls)))
 (ybD a0 a1 a2 a3 a4 x7 n l0 l1 l2 ([(.agg [(.int .i64 b),(.int .i64 c)])]:Ls) d e i5 l6 i7 i)))))))))))))
 (x6 l0 l1 l2 l3 l4 i5 l6 i7 i8 false))
def yf0 (a0:yby) (a1:ybi) (a2:yaD) (a3:yav) (a4:yaL) (p0 p1:Ls) (_ _ _ _ _ _ _ _ _ _ _ _ p14 p15 p16 p17 p18 _ _ p21:Int) (K:Int→Int→Int→Int→Int→Int→Int→Int→Int→Int→Int→Int→Ls→Ls→Prop):Prop :=
 (jn (fun (vm:Int→Int→Prop) =>
 (cbr (p21 == p14)
 (vm (2:Int) (1:Int))
 (vm (1:Int) (2:Int))))
 (fun o a=>(∃ n:Nat,ydm a0 a1 a2 a3 a4
 (fun _ _ _ _ _ _ _=>False)
 (fun I vn vo _ _ _ _ _=>(asr (decide ((0:Int)<(((List.length I):Nat):Int)))
 (asr (decide ((List.length I)=(List.length I)))
 (asr (decide (0<(List.length I)))
 (lt (List.getD I 0 .nils) (fun vh =>
 (asr (conf z2 vh)
 (a2 vn vo a p15 p16 (yaa (yab vh 0)) (yaa (yab vh 1)) (fun B C D E vp vq =>
 (asr (decide (3=List.length ([(.agg [(.int .i64 p15),(.int .i64 p16),(.int .i64 B),(.int .i64 C)]),(.agg [(.int .i64 B),(.int .i64 C),(.int .i64 D),(.int .i64 E)]),(.agg [(.int .i64 D),(.int .i64 E),(.int .i64 p17),(.int .i64 p18)])]:Ls))&&decide (3=List.length ([(.agg [(.int .i64 p15),(.int .i64 p16),(.int .i64 B),(.int .i64 C)]),(.agg [(.int .i64 B),(.int .i64 C),(.int .i64 D),(.int .i64 E)]),(.agg [(.int .i64 D),(.int .i64 E),(.int .i64 p17),(.int .i64 p18)])]:Ls))&&decide (3=List.length ([(.agg [(.int .i64 p15),(.int .i64 p16),(.int .i64 B),(.int .i64 C)]),(.agg [(.int .i64 B),(.int .i64 C),(.int .i64 D),(.int .i64 E)]),(.agg [(.int .i64 D),(.int .i64 E),(.int .i64 p17),(.int .i64 p18)])]:Ls)))
 (∃ n:Nat,ydn a0 a1 a2 a3 a4
 (fun vr F vs vt _ _ _ _=>(a3 ([]:Ls) ([(.int .i64 (0:Int)),(.int .i64 (1:Int)),(.int .i64 (2:Int))]:Ls) (fun r =>
 (a4 ([(.int .i64 r)]:Ls) (fun p =>
 (asr (decide ((0:Int)<(((List.length p):Nat):Int)))
 (lt (List.getD p 0 .nils) (fun M =>
 (asr (conf zI M)
 (asr (decide ((0:Int)≤(yaa M)))
 (asr (decide ((yaa M)<(3:Int)))
 (asr (decide ((List.length F)=3))
 (asr (decide ((0+((yaa M).toNat))<(List.length F)))
 (lt (List.getD F (0+((yaa M).toNat)) .nils) (fun N =>
 (asr (conf z4 N)
 (asr (decide ((1:Int)<(((List.length p):Nat):Int)))
 (lt (List.getD p 1 .nils) (fun O =>
 (asr (conf zI O)
 (asr (decide ((0:Int)≤(yaa O)))
 (asr (decide ((yaa O)<(3:Int)))
 (asr (decide ((List.length F)=3))
 (asr (decide ((0+((yaa O).toNat))<(List.length F)))
 (lt (List.getD F (0+((yaa O).toNat)) .nils) (fun Q =>
 (asr (conf z4 Q)
 (∃ n:Nat,yhi a0 a1 a2 a3 a4
 (fun _ s vu vv _ _ _ _ _=>(a3 ([]:Ls) ([(.int .i64 (0:Int)),(.int .i64 (1:Int))]:Ls) (fun vd =>
 (jn (fun (t:Int→Int→Int→Int→Int→Int→Int→Int→Int→Int→Int→Int→Prop) =>
 (asr (decide ((0:Int)≤r))
 (asr (decide (r<(3:Int)))
 (asr (decide ((List.length s)=3))
 (asr (decide ((0+(r.toNat))<(List.length s)))
 (lt (List.getD s (0+(r.toNat)) .nils) (fun j =>
 (asr (conf z4 j)
 (asr (decide ((0:Int)≤vd))
 (asr (decide (vd<(((List.length p):Nat):Int)))
 (lt (List.getD p (vd.toNat) .nils) (fun R =>
 (asr (conf zI R)
 (asr (decide ((0:Int)≤(yaa R)))
 (asr (decide ((yaa R)<(3:Int)))
 (asr (decide ((List.length s)=3))
 (asr (decide ((0+((yaa R).toNat))<(List.length s)))
 (lt (List.getD s (0+((yaa R).toNat)) .nils) (fun f =>
 (asr (conf z4 f)
 (lt (IntKind.i64.wrap ((1:Int)-vd)) (fun vi =>
 (asr (decide ((0:Int)≤vi))
 (asr (decide (vi<(((List.length p):Nat):Int)))
 (lt (List.getD p (vi.toNat) .nils) (fun S =>
 (asr (conf zI S)
 (asr (decide ((0:Int)≤(yaa S)))
 (asr (decide ((yaa S)<(3:Int)))
 (asr (decide ((List.length s)=3))
 (asr (decide ((0+((yaa S).toNat))<(List.length s)))
 (lt (List.getD s (0+((yaa S).toNat)) .nils) (fun b =>
 (asr (conf z4 b)
 (cbr (decide (o=(0:Int)))
 (cbr (decide (a=(0:Int)))
 (t (yaa (yab b 0)) (yaa (yab b 1)) (yaa (yab b 2)) (yaa (yab b 3)) (0:Int) (0:Int) (0:Int) (0:Int) (0:Int) (0:Int) (0:Int) (0:Int))
 (cbr (decide (a=(1:Int)))
 (t (yaa (yab f 0)) (yaa (yab f 1)) (yaa (yab f 2)) (yaa (yab f 3)) (yaa (yab b 0)) (yaa (yab b 1)) (yaa (yab b 2)) (yaa (yab b 3)) (0:Int) (0:Int) (0:Int) (0:Int))
 (cbr (decide (a=(2:Int)))
 (t (yaa (yab f 0)) (yaa (yab f 1)) (yaa (yab f 2)) (yaa (yab f 3)) (0:Int) (0:Int) (0:Int) (0:Int) (yaa (yab b 0)) (yaa (yab b 1)) (yaa (yab b 2)) (yaa (yab b 3)))
 False)))
 (cbr (decide (o=(1:Int)))
 (cbr (decide (a=(0:Int)))
 (t (yaa (yab b 0)) (yaa (yab b 1)) (yaa (yab b 2)) (yaa (yab b 3)) (yaa (yab j 0)) (yaa (yab j 1)) (yaa (yab j 2)) (yaa (yab j 3)) (0:Int) (0:Int) (0:Int) (0:Int))
 (cbr (decide (a=(1:Int)))
 (t (yaa (yab f 0)) (yaa (yab f 1)) (yaa (yab f 2)) (yaa (yab f 3)) (yaa (yab b 0)) (yaa (yab b 1)) (yaa (yab b 2)) (yaa (yab b 3)) (0:Int) (0:Int) (0:Int) (0:Int))
 (cbr (decide (a=(2:Int)))
 (t (yaa (yab f 0)) (yaa (yab f 1)) (yaa (yab f 2)) (yaa (yab f 3)) (yaa (yab j 0)) (yaa (yab j 1)) (yaa (yab j 2)) (yaa (yab j 3)) (yaa (yab b 0)) (yaa (yab b 1)) (yaa (yab b 2)) (yaa (yab b 3)))
 False)))
 (cbr (decide (o=(2:Int)))
 (cbr (decide (a=(0:Int)))
 (t (yaa (yab b 0)) (yaa (yab b 1)) (yaa (yab b 2)) (yaa (yab b 3)) (0:Int) (0:Int) (0:Int) (0:Int) (yaa (yab j 0)) (yaa (yab j 1)) (yaa (yab j 2)) (yaa (yab j 3)))
 (cbr (decide (a=(1:Int)))
 (t (yaa (yab f 0)) (yaa (yab f 1)) (yaa (yab f 2)) (yaa (yab f 3)) (yaa (yab b 0)) (yaa (yab b 1)) (yaa (yab b 2)) (yaa (yab b 3)) (yaa (yab j 0)) (yaa (yab j 1)) (yaa (yab j 2)) (yaa (yab j 3)))
 (cbr (decide (a=(2:Int)))
 (t (yaa (yab f 0)) (yaa (yab f 1)) (yaa (yab f 2)) (yaa (yab f 3)) (0:Int) (0:Int) (0:Int) (0:Int) (yaa (yab b 0)) (yaa (yab b 1)) (yaa (yab b 2)) (yaa (yab b 3)))
 False)))
 False)))))))))))))))))))))))))))))))))))))
 (fun vw vx vy vz vA vB vC vD vE vF vG vH=>(K vw vx vy vz vA vB vC vD vE vF vG vH vu vv))))))
 (fun _ u J vI vJ _ _ _ _ _=>(asr (decide ((List.length J)=(List.length J)))
 (asr (decide ((0+(List.length J))≤(List.length J)))
 (a3 (List.take (List.length J) J) ([(.int .i64 (0:Int)),(.int .i64 (1:Int))]:Ls) (fun ve =>
 (jn (fun (v:Int→Int→Int→Int→Int→Int→Int→Int→Int→Int→Int→Int→Prop) =>
 (asr (decide ((0:Int)≤r))
 (asr (decide (r<(3:Int)))
 (asr (decide ((List.length u)=3))
 (asr (decide ((0+(r.toNat))<(List.length u)))
 (lt (List.getD u (0+(r.toNat)) .nils) (fun k =>
 (asr (conf z4 k)
 (asr (decide ((0:Int)≤ve))
 (asr (decide (ve<(((List.length p):Nat):Int)))
 (lt (List.getD p (ve.toNat) .nils) (fun T =>
 (asr (conf zI T)
 (asr (decide ((0:Int)≤(yaa T)))
 (asr (decide ((yaa T)<(3:Int)))
 (asr (decide ((List.length u)=3))
 (asr (decide ((0+((yaa T).toNat))<(List.length u)))
 (lt (List.getD u (0+((yaa T).toNat)) .nils) (fun g =>
 (asr (conf z4 g)
 (lt (IntKind.i64.wrap ((1:Int)-ve)) (fun vj =>
 (asr (decide ((0:Int)≤vj))
 (asr (decide (vj<(((List.length p):Nat):Int)))
 (lt (List.getD p (vj.toNat) .nils) (fun U =>
 (asr (conf zI U)
 (asr (decide ((0:Int)≤(yaa U)))
 (asr (decide ((yaa U)<(3:Int)))
 (asr (decide ((List.length u)=3))
 (asr (decide ((0+((yaa U).toNat))<(List.length u)))
 (lt (List.getD u (0+((yaa U).toNat)) .nils) (fun c =>
 (asr (conf z4 c)
 (cbr (decide (o=(0:Int)))
 (cbr (decide (a=(0:Int)))
 (v (yaa (yab c 0)) (yaa (yab c 1)) (yaa (yab c 2)) (yaa (yab c 3)) (0:Int) (0:Int) (0:Int) (0:Int) (0:Int) (0:Int) (0:Int) (0:Int))
 (cbr (decide (a=(1:Int)))
 (v (yaa (yab g 0)) (yaa (yab g 1)) (yaa (yab g 2)) (yaa (yab g 3)) (yaa (yab c 0)) (yaa (yab c 1)) (yaa (yab c 2)) (yaa (yab c 3)) (0:Int) (0:Int) (0:Int) (0:Int))
 (cbr (decide (a=(2:Int)))
 (v (yaa (yab g 0)) (yaa (yab g 1)) (yaa (yab g 2)) (yaa (yab g 3)) (0:Int) (0:Int) (0:Int) (0:Int) (yaa (yab c 0)) (yaa (yab c 1)) (yaa (yab c 2)) (yaa (yab c 3)))
 False)))
 (cbr (decide (o=(1:Int)))
 (cbr (decide (a=(0:Int)))
 (v (yaa (yab c 0)) (yaa (yab c 1)) (yaa (yab c 2)) (yaa (yab c 3)) (yaa (yab k 0)) (yaa (yab k 1)) (yaa (yab k 2)) (yaa (yab k 3)) (0:Int) (0:Int) (0:Int) (0:Int))
 (cbr (decide (a=(1:Int)))
 (v (yaa (yab g 0)) (yaa (yab g 1)) (yaa (yab g 2)) (yaa (yab g 3)) (yaa (yab c 0)) (yaa (yab c 1)) (yaa (yab c 2)) (yaa (yab c 3)) (0:Int) (0:Int) (0:Int) (0:Int))
 (cbr (decide (a=(2:Int)))
 (v (yaa (yab g 0)) (yaa (yab g 1)) (yaa (yab g 2)) (yaa (yab g 3)) (yaa (yab k 0)) (yaa (yab k 1)) (yaa (yab k 2)) (yaa (yab k 3)) (yaa (yab c 0)) (yaa (yab c 1)) (yaa (yab c 2)) (yaa (yab c 3)))
 False)))
 (cbr (decide (o=(2:Int)))
 (cbr (decide (a=(0:Int)))
 (v (yaa (yab c 0)) (yaa (yab c 1)) (yaa (yab c 2)) (yaa (yab c 3)) (0:Int) (0:Int) (0:Int) (0:Int) (yaa (yab k 0)) (yaa (yab k 1)) (yaa (yab k 2)) (yaa (yab k 3)))
 (cbr (decide (a=(1:Int)))
 (v (yaa (yab g 0)) (yaa (yab g 1)) (yaa (yab g 2)) (yaa (yab g 3)) (yaa (yab c 0)) (yaa (yab c 1)) (yaa (yab c 2)) (yaa (yab c 3)) (yaa (yab k 0)) (yaa (yab k 1)) (yaa (yab k 2)) (yaa (yab k 3)))
 (cbr (decide (a=(2:Int)))
 (v (yaa (yab g 0)) (yaa (yab g 1)) (yaa (yab g 2)) (yaa (yab g 3)) (0:Int) (0:Int) (0:Int) (0:Int) (yaa (yab c 0)) (yaa (yab c 1)) (yaa (yab c 2)) (yaa (yab c 3)))
 False)))
 False)))))))))))))))))))))))))))))))))))))
 (fun vK vL vM vN vO vP vQ vR vS vT vU vV=>(K vK vL vM vN vO vP vQ vR vS vT vU vV vI vJ))))))))
 n vr F vs vt (0:Int) ([(.agg [(.int .i64 (yaa (yab N 0))),(.int .i64 (yaa (yab N 1))),(.int .i64 (yaa (yab N 2))),(.int .i64 (yaa (yab N 3)))]),(.agg [(.int .i64 (yaa (yab Q 0))),(.int .i64 (yaa (yab Q 1))),(.int .i64 (yaa (yab Q 2))),(.int .i64 (yaa (yab Q 3)))])]:Ls) (2:Int) (0:Int)))))))))))))))))))))))))))))
 (fun vW G H vX vY _ _ _ _=>(asr (decide ((List.length H)=(List.length H)))
 (asr (decide ((0+(List.length H))≤(List.length H)))
 (a3 (List.take (List.length H) H) ([(.int .i64 (0:Int)),(.int .i64 (1:Int)),(.int .i64 (2:Int))]:Ls) (fun w =>
 (a4 ([(.int .i64 w)]:Ls) (fun q =>
 (asr (decide ((0:Int)<(((List.length q):Nat):Int)))
 (lt (List.getD q 0 .nils) (fun V =>
 (asr (conf zI V)
 (asr (decide ((0:Int)≤(yaa V)))
 (asr (decide ((yaa V)<(3:Int)))
 (asr (decide ((List.length G)=3))
 (asr (decide ((0+((yaa V).toNat))<(List.length G)))
 (lt (List.getD G (0+((yaa V).toNat)) .nils) (fun W =>
 (asr (conf z4 W)
 (asr (decide ((1:Int)<(((List.length q):Nat):Int)))
 (lt (List.getD q 1 .nils) (fun X =>
 (asr (conf zI X)
 (asr (decide ((0:Int)≤(yaa X)))
 (asr (decide ((yaa X)<(3:Int)))
 (asr (decide ((List.length G)=3))
 (asr (decide ((0+((yaa X).toNat))<(List.length G)))
 (lt (List.getD G (0+((yaa X).toNat)) .nils) (fun Y =>
 (asr (conf z4 Y)
 (∃ n:Nat,ydo a0 a1 a2 a3 a4
 (fun _ x _ vZ v0 _ _ _ _ _=>(a3 ([]:Ls) ([(.int .i64 (0:Int)),(.int .i64 (1:Int))]:Ls) (fun vf =>
 (jn (fun (y:Int→Int→Int→Int→Int→Int→Int→Int→Int→Int→Int→Int→Prop) =>
 (asr (decide ((0:Int)≤w))
 (asr (decide (w<(3:Int)))
 (asr (decide ((List.length x)=3))
 (asr (decide ((0+(w.toNat))<(List.length x)))
 (lt (List.getD x (0+(w.toNat)) .nils) (fun l =>
 (asr (conf z4 l)
 (asr (decide ((0:Int)≤vf))
 (asr (decide (vf<(((List.length q):Nat):Int)))
 (lt (List.getD q (vf.toNat) .nils) (fun Z =>
 (asr (conf zI Z)
 (asr (decide ((0:Int)≤(yaa Z)))
 (asr (decide ((yaa Z)<(3:Int)))
 (asr (decide ((List.length x)=3))
 (asr (decide ((0+((yaa Z).toNat))<(List.length x)))
 (lt (List.getD x (0+((yaa Z).toNat)) .nils) (fun h =>
 (asr (conf z4 h)
 (lt (IntKind.i64.wrap ((1:Int)-vf)) (fun vk =>
 (asr (decide ((0:Int)≤vk))
 (asr (decide (vk<(((List.length q):Nat):Int)))
 (lt (List.getD q (vk.toNat) .nils) (fun va =>
 (asr (conf zI va)
 (asr (decide ((0:Int)≤(yaa va)))
 (asr (decide ((yaa va)<(3:Int)))
 (asr (decide ((List.length x)=3))
 (asr (decide ((0+((yaa va).toNat))<(List.length x)))
 (lt (List.getD x (0+((yaa va).toNat)) .nils) (fun d =>
 (asr (conf z4 d)
 (cbr (decide (o=(0:Int)))
 (cbr (decide (a=(0:Int)))
 (y (yaa (yab d 0)) (yaa (yab d 1)) (yaa (yab d 2)) (yaa (yab d 3)) (0:Int) (0:Int) (0:Int) (0:Int) (0:Int) (0:Int) (0:Int) (0:Int))
 (cbr (decide (a=(1:Int)))
 (y (yaa (yab h 0)) (yaa (yab h 1)) (yaa (yab h 2)) (yaa (yab h 3)) (yaa (yab d 0)) (yaa (yab d 1)) (yaa (yab d 2)) (yaa (yab d 3)) (0:Int) (0:Int) (0:Int) (0:Int))
 (cbr (decide (a=(2:Int)))
 (y (yaa (yab h 0)) (yaa (yab h 1)) (yaa (yab h 2)) (yaa (yab h 3)) (0:Int) (0:Int) (0:Int) (0:Int) (yaa (yab d 0)) (yaa (yab d 1)) (yaa (yab d 2)) (yaa (yab d 3)))
 False)))
 (cbr (decide (o=(1:Int)))
 (cbr (decide (a=(0:Int)))
 (y (yaa (yab d 0)) (yaa (yab d 1)) (yaa (yab d 2)) (yaa (yab d 3)) (yaa (yab l 0)) (yaa (yab l 1)) (yaa (yab l 2)) (yaa (yab l 3)) (0:Int) (0:Int) (0:Int) (0:Int))
 (cbr (decide (a=(1:Int)))
 (y (yaa (yab h 0)) (yaa (yab h 1)) (yaa (yab h 2)) (yaa (yab h 3)) (yaa (yab d 0)) (yaa (yab d 1)) (yaa (yab d 2)) (yaa (yab d 3)) (0:Int) (0:Int) (0:Int) (0:Int))
 (cbr (decide (a=(2:Int)))
 (y (yaa (yab h 0)) (yaa (yab h 1)) (yaa (yab h 2)) (yaa (yab h 3)) (yaa (yab l 0)) (yaa (yab l 1)) (yaa (yab l 2)) (yaa (yab l 3)) (yaa (yab d 0)) (yaa (yab d 1)) (yaa (yab d 2)) (yaa (yab d 3)))
 False)))
 (cbr (decide (o=(2:Int)))
 (cbr (decide (a=(0:Int)))
 (y (yaa (yab d 0)) (yaa (yab d 1)) (yaa (yab d 2)) (yaa (yab d 3)) (0:Int) (0:Int) (0:Int) (0:Int) (yaa (yab l 0)) (yaa (yab l 1)) (yaa (yab l 2)) (yaa (yab l 3)))
 (cbr (decide (a=(1:Int)))
 (y (yaa (yab h 0)) (yaa (yab h 1)) (yaa (yab h 2)) (yaa (yab h 3)) (yaa (yab d 0)) (yaa (yab d 1)) (yaa (yab d 2)) (yaa (yab d 3)) (yaa (yab l 0)) (yaa (yab l 1)) (yaa (yab l 2)) (yaa (yab l 3)))
 (cbr (decide (a=(2:Int)))
 (y (yaa (yab h 0)) (yaa (yab h 1)) (yaa (yab h 2)) (yaa (yab h 3)) (0:Int) (0:Int) (0:Int) (0:Int) (yaa (yab d 0)) (yaa (yab d 1)) (yaa (yab d 2)) (yaa (yab d 3)))
 False)))
 False)))))))))))))))))))))))))))))))))))))
 (fun v1 v2 v3 v4 v5 v6 v7 v8 v9 wa wb wc=>(K v1 v2 v3 v4 v5 v6 v7 v8 v9 wa wb wc vZ v0))))))
 (fun _ z _ L wd we _ _ _ _ _=>(asr (decide ((List.length L)=(List.length L)))
 (asr (decide ((0+(List.length L))≤(List.length L)))
 (a3 (List.take (List.length L) L) ([(.int .i64 (0:Int)),(.int .i64 (1:Int))]:Ls) (fun vg =>
 (jn (fun (A:Int→Int→Int→Int→Int→Int→Int→Int→Int→Int→Int→Int→Prop) =>
 (asr (decide ((0:Int)≤w))
 (asr (decide (w<(3:Int)))
 (asr (decide ((List.length z)=3))
 (asr (decide ((0+(w.toNat))<(List.length z)))
 (lt (List.getD z (0+(w.toNat)) .nils) (fun m =>
 (asr (conf z4 m)
 (asr (decide ((0:Int)≤vg))
 (asr (decide (vg<(((List.length q):Nat):Int)))
 (lt (List.getD q (vg.toNat) .nils) (fun vb =>
 (asr (conf zI vb)
 (asr (decide ((0:Int)≤(yaa vb)))
 (asr (decide ((yaa vb)<(3:Int)))
 (asr (decide ((List.length z)=3))
 (asr (decide ((0+((yaa vb).toNat))<(List.length z)))
 (lt (List.getD z (0+((yaa vb).toNat)) .nils) (fun i =>
 (asr (conf z4 i)
 (lt (IntKind.i64.wrap ((1:Int)-vg)) (fun vl =>
 (asr (decide ((0:Int)≤vl))
 (asr (decide (vl<(((List.length q):Nat):Int)))
 (lt (List.getD q (vl.toNat) .nils) (fun vc =>
 (asr (conf zI vc)
 (asr (decide ((0:Int)≤(yaa vc)))
 (asr (decide ((yaa vc)<(3:Int)))
 (asr (decide ((List.length z)=3))
 (asr (decide ((0+((yaa vc).toNat))<(List.length z)))
 (lt (List.getD z (0+((yaa vc).toNat)) .nils) (fun e =>
 (asr (conf z4 e)
 (cbr (decide (o=(0:Int)))
 (cbr (decide (a=(0:Int)))
 (A (yaa (yab e 0)) (yaa (yab e 1)) (yaa (yab e 2)) (yaa (yab e 3)) (0:Int) (0:Int) (0:Int) (0:Int) (0:Int) (0:Int) (0:Int) (0:Int))
 (cbr (decide (a=(1:Int)))
 (A (yaa (yab i 0)) (yaa (yab i 1)) (yaa (yab i 2)) (yaa (yab i 3)) (yaa (yab e 0)) (yaa (yab e 1)) (yaa (yab e 2)) (yaa (yab e 3)) (0:Int) (0:Int) (0:Int) (0:Int))
 (cbr (decide (a=(2:Int)))
 (A (yaa (yab i 0)) (yaa (yab i 1)) (yaa (yab i 2)) (yaa (yab i 3)) (0:Int) (0:Int) (0:Int) (0:Int) (yaa (yab e 0)) (yaa (yab e 1)) (yaa (yab e 2)) (yaa (yab e 3)))
 False)))
 (cbr (decide (o=(1:Int)))
 (cbr (decide (a=(0:Int)))
 (A (yaa (yab e 0)) (yaa (yab e 1)) (yaa (yab e 2)) (yaa (yab e 3)) (yaa (yab m 0)) (yaa (yab m 1)) (yaa (yab m 2)) (yaa (yab m 3)) (0:Int) (0:Int) (0:Int) (0:Int))
 (cbr (decide (a=(1:Int)))
 (A (yaa (yab i 0)) (yaa (yab i 1)) (yaa (yab i 2)) (yaa (yab i 3)) (yaa (yab e 0)) (yaa (yab e 1)) (yaa (yab e 2)) (yaa (yab e 3)) (0:Int) (0:Int) (0:Int) (0:Int))
 (cbr (decide (a=(2:Int)))
 (A (yaa (yab i 0)) (yaa (yab i 1)) (yaa (yab i 2)) (yaa (yab i 3)) (yaa (yab m 0)) (yaa (yab m 1)) (yaa (yab m 2)) (yaa (yab m 3)) (yaa (yab e 0)) (yaa (yab e 1)) (yaa (yab e 2)) (yaa (yab e 3)))
 False)))
 (cbr (decide (o=(2:Int)))
 (cbr (decide (a=(0:Int)))
 (A (yaa (yab e 0)) (yaa (yab e 1)) (yaa (yab e 2)) (yaa (yab e 3)) (0:Int) (0:Int) (0:Int) (0:Int) (yaa (yab m 0)) (yaa (yab m 1)) (yaa (yab m 2)) (yaa (yab m 3)))
 (cbr (decide (a=(1:Int)))
 (A (yaa (yab i 0)) (yaa (yab i 1)) (yaa (yab i 2)) (yaa (yab i 3)) (yaa (yab e 0)) (yaa (yab e 1)) (yaa (yab e 2)) (yaa (yab e 3)) (yaa (yab m 0)) (yaa (yab m 1)) (yaa (yab m 2)) (yaa (yab m 3)))
 (cbr (decide (a=(2:Int)))
 (A (yaa (yab i 0)) (yaa (yab i 1)) (yaa (yab i 2)) (yaa (yab i 3)) (0:Int) (0:Int) (0:Int) (0:Int) (yaa (yab e 0)) (yaa (yab e 1)) (yaa (yab e 2)) (yaa (yab e 3)))
 False)))
 False)))))))))))))))))))))))))))))))))))))
 (fun wf wg wh wi wj wk wl wm wn wo wp wq=>(K wf wg wh wi wj wk wl wm wn wo wp wq wd we))))))))
 n vW G H vX vY (0:Int) ([(.agg [(.int .i64 (yaa (yab W 0))),(.int .i64 (yaa (yab W 1))),(.int .i64 (yaa (yab W 2))),(.int .i64 (yaa (yab W 3)))]),(.agg [(.int .i64 (yaa (yab Y 0))),(.int .i64 (yaa (yab Y 1))),(.int .i64 (yaa (yab Y 2))),(.int .i64 (yaa (yab Y 3)))])]:Ls) (2:Int) (0:Int)))))))))))))))))))))))))))))))
 n I ([(.agg [(.int .i64 p15),(.int .i64 p16),(.int .i64 B),(.int .i64 C)]),(.agg [(.int .i64 B),(.int .i64 C),(.int .i64 D),(.int .i64 E)]),(.agg [(.int .i64 D),(.int .i64 E),(.int .i64 p17),(.int .i64 p18)])]:Ls) vp vq o (3:Int) (0:Int))))))))))))
 n p0 p1 a ([(.agg [(.int .i64 p15),(.int .i64 p16),(.int .i64 p17),(.int .i64 p18)])]:Ls) (1:Int) (0:Int))))
def yah:yaT:=yf0 yat yac yae yaq yai
def yd9 (w:yaT) (az:Ls) (b:HB) (K:PV→Ls→Prop):Prop :=
 match az,b with
 | [(.ptr 0 1 0 0),(.agg [(.int .i64 p2),(.int .i64 p3),(.int .i64 p4),(.int .i64 p5),(.int .i64 p6),(.int .i64 p7),(.int .i64 p8),(.int .i64 p9),(.int .i64 p10),(.int .i64 p11),(.int .i64 p12),(.int .i64 p13),(.int .i64 p14),(.int .i64 p15),(.int .i64 p16),(.int .i64 p17),(.int .i64 p18),(.int .i64 p19),(.int .i64 p20),(.int .i64 p21)])],⟨false,true,2,[(.agg [(.data p0),(.data p1)])]⟩=>w p0 p1 p2 p3 p4 p5 p6 p7 p8 p9 p10 p11 p12 p13 p14 p15 p16 p17 p18 p19 p20 p21 (fun r0 r1 r2 r3 r4 r5 r6 r7 r8 r9 r10 r11 r12 r13=>K (.agg [(.int .i64 r0),(.int .i64 r1),(.int .i64 r2),(.int .i64 r3),(.int .i64 r4),(.int .i64 r5),(.int .i64 r6),(.int .i64 r7),(.int .i64 r8),(.int .i64 r9),(.int .i64 r10),(.int .i64 r11)]) [(.agg [(.data r12),(.data r13)])])
 | _,_=>False
def yiZ (az:Ls) (b:HB) (K:PV→Ls→Prop):Prop:=yd9 yah az b K
def ymD (Q:Qx):Ls→Ls→Int→Ls→Int→Int→Bool→Prop:=(fun l0 l1 i2 l3 i4 i5 b6=>Q (.exit 0) [(0,.v (.ptr 0 1 0 0)),(1,.v (.int .i64 i2)),(7,.v .nils),(13,.v (.data l3)),(14,.v (.int .i64 i4)),(15,.v (.int .i64 i5)),(16,.v (.bool b6))] [⟨false,true,2,([(.agg [(.data l0),(.data l1)])]:Ls)⟩])
def yhj (Q:Qx):Ls→Ls→Ls→Int→Ls→Int→Int→Bool→Prop:=(fun l0 l1 l2 i3 l6 i7 i8 b9=>Q (.exit 0) [(0,.v (.ptr 0 1 0 0)),(1,.v (.int .i64 i3)),(7,.v (.own 1 0 (List.length l0) (List.length l0) none)),(13,.v (.data l6)),(14,.v (.int .i64 i7)),(15,.v (.int .i64 i8)),(16,.v (.bool b9))] [⟨false,true,2,([(.agg [(.data l1),(.data l2)])]:Ls)⟩,⟨false,true,2,l0⟩])
def ymE (Q:Qx):Ls→Ls→Ls→Ls→Int→Int→Int→Bool→Prop:=(fun l0 l1 l2 l3 i4 i8 i9 b10=>Q (.exit 0) [(0,.v (.ptr 0 1 0 0)),(1,.v (.int .i64 i4)),(7,.v .nils),(13,.v (.own 2 0 (List.length l1) (List.length l1) (some (List.length l1)))),(14,.v (.int .i64 i8)),(15,.v (.int .i64 i9)),(16,.v (.bool b10))] [⟨false,true,2,([(.agg [(.data l2),(.data l3)])]:Ls)⟩,⟨false,true,2,l0⟩,⟨false,true,4,l1⟩])
def yhk (Q:Qx):Ls→Ls→Ls→Ls→Ls→Int→Int→Int→Bool→Prop:=(fun l0 l1 l2 l3 l4 i5 i11 i12 b13=>Q (.exit 0) [(0,.v (.ptr 0 1 0 0)),(1,.v (.int .i64 i5)),(7,.v (.own 3 0 (List.length l2) (List.length l2) none)),(13,.v (.own 2 0 (List.length l1) (List.length l1) (some (List.length l1)))),(14,.v (.int .i64 i11)),(15,.v (.int .i64 i12)),(16,.v (.bool b13))] [⟨false,true,2,([(.agg [(.data l3),(.data l4)])]:Ls)⟩,⟨false,true,2,l0⟩,⟨false,true,4,l1⟩,⟨false,true,2,l2⟩])
def ymF (Q:Qx):Ls→Ls→Ls→Ls→Int→Ls→Int→Int→Bool→Prop:=(fun l0 l1 l2 l3 i4 l5 i6 i7 b8=>Q (.exit 0) [(0,.v (.ptr 0 1 0 0)),(1,.v (.int .i64 i4)),(7,.v .nils),(13,.v (.data l5)),(14,.v (.int .i64 i6)),(15,.v (.int .i64 i7)),(16,.v (.bool b8))] [⟨false,true,2,([(.agg [(.data l2),(.data l3)])]:Ls)⟩,⟨false,true,2,l0⟩,⟨false,true,4,l1⟩])
def yhl (Q:Qx):Ls→Ls→Ls→Ls→Ls→Int→Ls→Int→Int→Bool→Prop:=(fun l0 l1 l2 l3 l4 i5 l8 i9 i10 b11=>Q (.exit 0) [(0,.v (.ptr 0 1 0 0)),(1,.v (.int .i64 i5)),(7,.v (.own 3 0 (List.length l2) (List.length l2) none)),(13,.v (.data l8)),(14,.v (.int .i64 i9)),(15,.v (.int .i64 i10)),(16,.v (.bool b11))] [⟨false,true,2,([(.agg [(.data l3),(.data l4)])]:Ls)⟩,⟨false,true,2,l0⟩,⟨false,true,4,l1⟩,⟨false,true,2,l2⟩])
def ymG (Q:Qx):Ls→Ls→Ls→Ls→Ls→Int→Ls→Int→Int→Bool→Prop:=(fun l0 l1 l2 l3 l4 i5 l6 i7 i8 b9=>Q (.exit 0) [(0,.v (.ptr 0 1 0 0)),(1,.v (.int .i64 i5)),(7,.v .nils),(13,.v (.data l6)),(14,.v (.int .i64 i7)),(15,.v (.int .i64 i8)),(16,.v (.bool b9))] [⟨false,true,2,([(.agg [(.data l3),(.data l4)])]:Ls)⟩,⟨false,true,2,l0⟩,⟨false,true,4,l1⟩,⟨false,true,2,l2⟩])
def yhm (Q:Qx):Ls→Ls→Ls→Ls→Ls→Ls→Int→Ls→Int→Int→Bool→Prop:=(fun l0 l1 l2 l3 l4 l5 i6 l9 i10 i11 b12=>Q (.exit 0) [(0,.v (.ptr 0 1 0 0)),(1,.v (.int .i64 i6)),(7,.v (.own 4 0 (List.length l3) (List.length l3) none)),(13,.v (.data l9)),(14,.v (.int .i64 i10)),(15,.v (.int .i64 i11)),(16,.v (.bool b12))] [⟨false,true,2,([(.agg [(.data l4),(.data l5)])]:Ls)⟩,⟨false,true,2,l0⟩,⟨false,true,4,l1⟩,⟨false,true,2,l2⟩,⟨false,true,2,l3⟩])
def pt62:HPt:=hB false true 2 pt55 (hB false true 2 rA pt23)
def pt63:Pat Frm:=fV 13 (vO 2 (nK 0) (nT 2) (nT 2) (nT 2)) pt51
def pt64:HPt:=hB false true 2 pt55 (hB false true 2 rA (hB false true 4 rA pt45))
def pt65:VPt:=vW 4 (nK 0) (nT 4) (nT 4)
def yhM (a0:yby) (a1:ybi) (a2:yaD) (a3:yav) (a4:yaL) (Q:Qx):List St:=[⟨(pS (hB false true 2 pt55 hN) pt58 fN),ydm a0 a1 a2 a3 a4 (ymD Q) (yhj Q)⟩,⟨(pS (hB false true 2 pt55 pt45) (fV 0 pt19 (fV 1 pt0 (fV 7 pt25 pt52))) fN),fun n l1 l2 l0 i3 l6 i7 i8=>ycE a0 a1 a2 a3 a4 (yhj Q) n l0 l1 l2 i3 l6 i7 i8⟩,⟨(pS pt62 (fV 0 pt19 (fV 1 pt0 (fV 7 vNs pt63))) fN),fun n l2 l3 l0 l1 i4 i8 i9=>ydn a0 a1 a2 a3 a4 (ymE Q) (yhk Q) n l0 l1 l2 l3 i4 i8 i9⟩,⟨(pS pt64 (fV 0 pt19 (fV 1 pt0 (fV 7 pt61 pt63))) fN),fun n l3 l4 l0 l1 l2 i5 i11 i12=>ya2 a0 a1 a2 a3 a4 (yhk Q) n l0 l1 l2 l3 l4 i5 i11 i12⟩,⟨(pS pt62 pt58 fN),fun n l2 l3 l0 l1 i4 l5 i6 i7=>yhi a0 a1 a2 a3 a4 (ymF Q) (yhl Q) n l0 l1 l2 l3 i4 l5 i6 i7⟩,⟨(pS pt64 (fV 0 pt19 (fV 1 pt0 (fV 7 pt61 pt52))) fN),fun n l3 l4 l0 l1 l2 i5 l8 i9 i10=>yeD a0 a1 a2 a3 a4 (yhl Q) n l0 l1 l2 l3 l4 i5 l8 i9 i10⟩,⟨(pS pt64 pt58 fN),fun n l3 l4 l0 l1 l2 i5 l6 i7 i8=>ydo a0 a1 a2 a3 a4 (ymG Q) (yhm Q) n l0 l1 l2 l3 l4 i5 l6 i7 i8⟩,⟨(pS (hB false true 2 pt55 (hB false true 2 rA (hB false true 4 rA (hB false true 2 rA pt45)))) (fV 0 pt19 (fV 1 pt0 (fV 7 pt65 pt52))) fN),fun n l4 l5 l0 l1 l2 l3 i6 l9 i10 i11=>ybD a0 a1 a2 a3 a4 (yhm Q) n l0 l1 l2 l3 l4 l5 i6 l9 i10 i11⟩]
def yf1 (a0:yby) (a1:ybi) (a2:yaD) (a3:yav) (a4:yaL):LP:=lpS [(38310000,yhM a0 a1 a2 a3 a4)]
def yja (e:Es) (a0:yby) (a1:ybi) (a2:yaD) (a3:yav) (a4:yaL):SE:=⟨(E e),ydO [(ygD,yzy.pw a0),(ybA,ynX.pw a1),(ye6,yCu.pw a3),(ydY,ykK.pw a4)],ydP [],yf1 a0 a1 a2 a3 a4,yqa [(ycl,ycC a2)]⟩
def yjb (e:Es) (a0:yby) (a1:ybi) (a2:yaD) (a3:yav) (a4:yaL):SE:=⟨(E e),ydO [(ygD,yzy.pw a0),(ybA,ynX.pw a1),(ye6,yCu.pw a3),(ydY,ykK.pw a4)],ydP [(ygE,ygH)],yf1 a0 a1 a2 a3 a4,yqa [(ycl,ycC a2)]⟩
theorem yoP (e:Es) (he:EG e):SEOk (Uni (E e)) (yja e yat yac yae yaq yai):=ylE (Sub.uni _) ⟨(yiQ e he),(ycf e he),(ygU e he),(yfx e he),trivial⟩ trivial he.ok ⟨(yd8 e he),trivial⟩
theorem yml (e:Es) (a0 a1 a2 a3 a4):ycr (yja e a0 a1 a2 a3 a4) 5 a yjJ false (yhM a0 a1 a2 a3 a4):=fun _=>⟨fun _=>by kernel_rfl,fun _ _=>by kernel_rfl,fun _=>by kernel_rfl,fun _ _=>by kernel_rfl,fun _=>by kernel_rfl,fun _ _=>by kernel_rfl,fun _=>by kernel_rfl,fun _ _=>by kernel_rfl,fun _=>by kernel_rfl,fun _ _=>by kernel_rfl,fun _=>by kernel_rfl,fun _ _=>by kernel_rfl,fun _=>by kernel_rfl,fun _ _=>by kernel_rfl,fun _=>by kernel_rfl,fun _ _=>by kernel_rfl,trivial⟩
theorem ymm (e:Es) (he:EG e):LpT (Uni (E e)) (yf1 yat yac yae yaq yai) [] 38310000 (.loop 38310000 yjJ):=fun _ _ _=>yp8.st (Sub.uni _) (yaW (yoP e he) 5) (YOk.no _ _) (yar (by kernel_rfl)) (yml e _ _ _ _ _ _)
theorem yoQ (e:Es) (he:EG e):SEOk (Uni (E e)) (yjb e yat yac yae yaq yai):=ylE (Sub.uni _) ⟨(yiQ e he),(ycf e he),(ygU e he),(yfx e he),trivial⟩ ⟨⟨by kernel_rfl,by kernel_rfl,rfl,fun az=>yaN (by kernel_rfl) az,he.num _ (by kernel_rfl),by kernel_rfl,(ybg (l:=[(38310000,.loop 38310000 yjJ)]) ⟨ymm e he,trivial⟩ (by kernel_rfl))⟩,trivial⟩ he.ok ⟨(yd8 e he),trivial⟩
theorem ypU (e:Es) (a0 a1 a2 a3 a4 p0 p1 p2 p3 p4 p5 p6 p7 p8 p9 p10 p11 p12 p13 p14 p15 p16 p17 p18 p19 p20 p21 K):WPL (yjb e a0 a1 a2 a3 a4) 6 yqE [(.ptr 0 1 0 0),(.agg [(.int .i64 p2),(.int .i64 p3),(.int .i64 p4),(.int .i64 p5),(.int .i64 p6),(.int .i64 p7),(.int .i64 p8),(.int .i64 p9),(.int .i64 p10),(.int .i64 p11),(.int .i64 p12),(.int .i64 p13),(.int .i64 p14),(.int .i64 p15),(.int .i64 p16),(.int .i64 p17),(.int .i64 p18),(.int .i64 p19),(.int .i64 p20),(.int .i64 p21)])] ⟨false,true,2,[(.agg [(.data p0),(.data p1)])]⟩ K=yf0 a0 a1 a2 a3 a4 p0 p1 p2 p3 p4 p5 p6 p7 p8 p9 p10 p11 p12 p13 p14 p15 p16 p17 p18 p19 p20 p21 (fun r0 r1 r2 r3 r4 r5 r6 r7 r8 r9 r10 r11 r12 r13=>K (.agg [(.int .i64 r0),(.int .i64 r1),(.int .i64 r2),(.int .i64 r3),(.int .i64 r4),(.int .i64 r5),(.int .i64 r6),(.int .i64 r7),(.int .i64 r8),(.int .i64 r9),(.int .i64 r10),(.int .i64 r11)]) [(.agg [(.data r12),(.data r13)])]):=by kernel_rfl
theorem yjc (e:Es) (he:EG e):OkL (E e) yiZ ydp:=by
 intro az b K h
 unfold yiZ yd9 at h
 split at h
 ·exact yBH (yoQ e he) yp9.flat (yar (by kernel_rfl)) (by kernel_rfl) (he.num _ (by kernel_rfl)) ((ypU ..).mpr h)
 ·exact h.elim
abbrev yaV:Type:=Ls→Int→(Ls→Prop)→Prop
def yij (p0:Ls) (p1:Int) (K:Ls→Prop):Prop :=
 (cbr (p1 !=(0:Int))
 False
 (K p0))
def yag:yaV:=yij
def yoR:Sg:=⟨(lC vD pt1),Ls→Prop,fun K=>(fun r0=>K (.data r0))⟩
def yoS (e:Es):SE:=sE (E e) [] lp0
theorem yoT (e:Es):EqW (yoS e) 6 ypf yoR yij:=fun _ _=>by kernel_rfl
theorem yik (e:Es) (he:EG e):OkF (E e) (yoR.pw yag) yc2:=okU he (yoT e) (yaE (Sub.uni _) trivial trivial he.ok) yp9.flat (yar (by kernel_rfl))
abbrev ye2:Type:=Ls→(Ls→Int→Int→Int→Int→Int→Int→Int→Int→Int→Int→Int→Int→Int→Int→Int→Int→Int→Int→Int→Int→Ls→Int→Prop)→Prop
def yhe (a0:yav) (a1:yaX) (a2:yaT) (a3:ybP) (a4:yaV) (c:Ls→Int→Int→Int→Int→Int→Int→Int→Int→Int→Int→Int→Int→Int→Int→Int→Int→Int→Int→Int→Int→Int→Ls→Ls→Int→Int→Int→Int→Int→Int→Int→Int→Int→Int→Int→Int→Int→Ls→Int→Int→Bool→Prop):Nat→Ls→Int→Int→Int→Int→Int→Int→Int→Int→Int→Int→Int→Int→Int→Int→Int→Int→Int→Int→Int→Int→Int→Ls→Ls→Int→Int→Int→Int→Int→Int→Int→Int→Int→Int→Int→Int→Int→Ls→Int→Int→Prop
 | 0,_,_,_,_,_,_,_,_,_,_,_,_,_,_,_,_,_,_,_,_,_,_,_,_,_,_,_,_,_,_,_,_,_,_,_,_,_,_,_,_=>False
 | e+1,l0,i1,i2,i3,i4,i5,i6,i7,i8,i9,i10,i11,i12,i13,i14,i15,i16,i17,i18,i19,i20,i21,l22,l23,i24,i25,i26,i27,i28,i29,i30,i31,i32,i33,i34,i35,i38,l39,i40,i41 =>
 (cbr (decide (i41<i40))
 (jn (fun (d:Ls→Prop) =>
 (asr (decide ((0:Int)≤i41))
 (asr (decide (i41<(((List.length l39):Nat):Int)))
 (lt (List.getD l39 (i41.toNat) .nils) (fun a =>
 (asr (conf z4 a)
 (cbr (!(((yaa (yab a 0)) ==(yaa (yab a 2)))&&(((yaa (yab a 1)) ==(yaa (yab a 3)))&&true)))
 (asr (decide ((List.length l0)=(List.length l0)))
 (asr (decide ((0+(List.length l0))≤(List.length l0)))
 (asr (!(decide (((0+(List.length l0))+1)≤(List.length l0))))
 (asr (decide ((List.length l0)=(List.length l0)))
 (asr (decide ((((List.length l0)+1)+64)*(32+1)≤room))
 (d (l0++([(.agg [(.int .i64 (yaa (yab a 0))),(.int .i64 (yaa (yab a 1))),(.int .i64 (yaa (yab a 2))),(.int .i64 (yaa (yab a 3)))])]:Ls))))))))
 (d l0))))))))
 (fun b=>(lt (IntKind.i64.wrap (i41+(1:Int))) (fun f =>
 (asr (decide ((List.length b)=List.length b)&&decide ((List.length b)=List.length b))
 (yhe a0 a1 a2 a3 a4 c e b i1 i2 i3 i4 i5 i6 i7 i8 i9 i10 i11 i12 i13 i14 i15 i16 i17 i18 i19 i20 i21 l22 l23 i24 i25 i26 i27 i28 i29 i30 i31 i32 i33 i34 i35 i38 l39 i40 f))))))
 (c l0 i1 i2 i3 i4 i5 i6 i7 i8 i9 i10 i11 i12 i13 i14 i15 i16 i17 i18 i19 i20 i21 l22 l23 i24 i25 i26 i27 i28 i29 i30 i31 i32 i33 i34 i35 i38 l39 i40 i41 false))
def yfy (a0:yav) (a1:yaX) (a2:yaT) (a3:ybP) (a4:yaV) (b:Int→Int→Int→Int→Int→Int→Int→Int→Int→Int→Int→Int→Int→Int→Int→Int→Int→Int→Int→Int→Int→Ls→Ls→Int→Int→Int→Int→Int→Int→Int→Int→Int→Int→Int→Int→Int→Ls→Int→Int→Bool→Prop) (c:Ls→Int→Int→Int→Int→Int→Int→Int→Int→Int→Int→Int→Int→Int→Int→Int→Int→Int→Int→Int→Int→Int→Ls→Ls→Int→Int→Int→Int→Int→Int→Int→Int→Int→Int→Int→Int→Int→Ls→Int→Int→Bool→Prop):Nat→Int→Int→Int→Int→Int→Int→Int→Int→Int→Int→Int→Int→Int→Int→Int→Int→Int→Int→Int→Int→Int→Ls→Ls→Int→Int→Int→Int→Int→Int→Int→Int→Int→Int→Int→Int→Int→Ls→Int→Int→Prop
 | 0,_,_,_,_,_,_,_,_,_,_,_,_,_,_,_,_,_,_,_,_,_,_,_,_,_,_,_,_,_,_,_,_,_,_,_,_,_,_,_=>False
 | d+1,i0,i1,i2,i3,i4,i5,i6,i7,i8,i9,i10,i11,i12,i13,i14,i15,i16,i17,i18,i19,i20,l21,l22,i23,i24,i25,i26,i27,i28,i29,i30,i31,i32,i33,i34,i35,l36,i37,i38 =>
 (cbr (decide (i38<i37))
 (asr (decide ((0:Int)≤i38))
 (asr (decide (i38<(((List.length l36):Nat):Int)))
 (lt (List.getD l36 (i38.toNat) .nils) (fun a =>
 (asr (conf z4 a)
 (cbr (!(((yaa (yab a 0)) ==(yaa (yab a 2)))&&(((yaa (yab a 1)) ==(yaa (yab a 3)))&&true)))
 (lt (IntKind.i64.wrap (i38+(1:Int))) (fun e =>
 (asr (decide (1=List.length ([(.agg [(.int .i64 (yaa (yab a 0))),(.int .i64 (yaa (yab a 1))),(.int .i64 (yaa (yab a 2))),(.int .i64 (yaa (yab a 3)))])]:Ls))&&decide (1=List.length ([(.agg [(.int .i64 (yaa (yab a 0))),(.int .i64 (yaa (yab a 1))),(.int .i64 (yaa (yab a 2))),(.int .i64 (yaa (yab a 3)))])]:Ls)))
 (yhe a0 a1 a2 a3 a4 c d ([(.agg [(.int .i64 (yaa (yab a 0))),(.int .i64 (yaa (yab a 1))),(.int .i64 (yaa (yab a 2))),(.int .i64 (yaa (yab a 3)))])]:Ls) i0 i1 i2 i3 i4 i5 i6 i7 i8 i9 i10 i11 i12 i13 i14 i15 i16 i17 i18 i19 i20 l21 l22 i23 i24 i25 i26 i27 i28 i29 i30 i31 i32 i33 i34 i35 l36 i37 e))))
 (lt (IntKind.i64.wrap (i38+(1:Int))) (fun f =>
 (yfy a0 a1 a2 a3 a4 b c d i0 i1 i2 i3 i4 i5 i6 i7 i8 i9 i10 i11 i12 i13 i14 i15 i16 i17 i18 i19 i20 l21 l22 i23 i24 i25 i26 i27 i28 i29 i30 i31 i32 i33 i34 i35 l36 i37 f)))))))))
 (b i0 i1 i2 i3 i4 i5 i6 i7 i8 i9 i10 i11 i12 i13 i14 i15 i16 i17 i18 i19 i20 l21 l22 i23 i24 i25 i26 i27 i28 i29 i30 i31 i32 i33 i34 i35 l36 i37 i38 false))
def yj1 (a0:yav) (a1:yaX) (a2:yaT) (a3:ybP) (a4:yaV) (c:Ls→Ls→Int→Int→Int→Int→Int→Int→Int→Int→Int→Int→Int→Int→Int→Int→Int→Int→Int→Int→Int→Int→Int→Ls→Ls→Int→Int→Int→Int→Int→Int→Int→Int→Int→Int→Int→Int→Int→Ls→Int→Int→Bool→Prop):Nat→Ls→Ls→Int→Int→Int→Int→Int→Int→Int→Int→Int→Int→Int→Int→Int→Int→Int→Int→Int→Int→Int→Int→Int→Ls→Ls→Int→Int→Int→Int→Int→Int→Int→Int→Int→Int→Int→Int→Int→Ls→Int→Int→Prop
 | 0,_,_,_,_,_,_,_,_,_,_,_,_,_,_,_,_,_,_,_,_,_,_,_,_,_,_,_,_,_,_,_,_,_,_,_,_,_,_,_,_,_=>False
 | e+1,l0,l1,i4,i5,i6,i7,i8,i9,i10,i11,i12,i13,i14,i15,i16,i17,i18,i19,i20,i21,i22,i23,i24,l25,l26,i27,i28,i29,i30,i31,i32,i33,i34,i35,i36,i37,i38,i41,l42,i43,i44 =>
 (cbr (decide (i44<i43))
 (jn (fun (d:Ls→Prop) =>
 (asr (decide ((0:Int)≤i44))
 (asr (decide (i44<(((List.length l42):Nat):Int)))
 (lt (List.getD l42 (i44.toNat) .nils) (fun a =>
 (asr (conf z4 a)
 (cbr (!(((yaa (yab a 0)) ==(yaa (yab a 2)))&&(((yaa (yab a 1)) ==(yaa (yab a 3)))&&true)))
 (asr (decide ((List.length l1)=(List.length l1)))
 (asr (decide ((0+(List.length l1))≤(List.length l1)))
 (asr (!(decide (((0+(List.length l1))+1)≤(List.length l1))))
 (asr (decide ((List.length l1)=(List.length l1)))
 (asr (decide ((((List.length l1)+1)+64)*(32+1)≤room))
 (d (l1++([(.agg [(.int .i64 (yaa (yab a 0))),(.int .i64 (yaa (yab a 1))),(.int .i64 (yaa (yab a 2))),(.int .i64 (yaa (yab a 3)))])]:Ls))))))))
 (d l1))))))))
 (fun b=>(lt (IntKind.i64.wrap (i44+(1:Int))) (fun f =>
 (asr (decide ((List.length l0)=List.length l0)&&decide ((List.length l0)=List.length l0)&&decide ((List.length b)=List.length b)&&decide ((List.length b)=List.length b))
 (yj1 a0 a1 a2 a3 a4 c e l0 b i4 i5 i6 i7 i8 i9 i10 i11 i12 i13 i14 i15 i16 i17 i18 i19 i20 i21 i22 i23 i24 l25 l26 i27 i28 i29 i30 i31 i32 i33 i34 i35 i36 i37 i38 i41 l42 i43 f))))))
 (c l0 l1 i4 i5 i6 i7 i8 i9 i10 i11 i12 i13 i14 i15 i16 i17 i18 i19 i20 i21 i22 i23 i24 l25 l26 i27 i28 i29 i30 i31 i32 i33 i34 i35 i36 i37 i38 i41 l42 i43 i44 false))
def yj4 (a0:yav) (a1:yaX) (a2:yaT) (a3:ybP) (a4:yaV) (b:Ls→Int→Int→Int→Int→Int→Int→Int→Int→Int→Int→Int→Int→Int→Int→Int→Int→Int→Int→Int→Int→Int→Ls→Ls→Int→Int→Int→Int→Int→Int→Int→Int→Int→Int→Int→Int→Int→Ls→Int→Int→Bool→Prop) (c:Ls→Ls→Int→Int→Int→Int→Int→Int→Int→Int→Int→Int→Int→Int→Int→Int→Int→Int→Int→Int→Int→Int→Int→Ls→Ls→Int→Int→Int→Int→Int→Int→Int→Int→Int→Int→Int→Int→Int→Ls→Int→Int→Bool→Prop):Nat→Ls→Int→Int→Int→Int→Int→Int→Int→Int→Int→Int→Int→Int→Int→Int→Int→Int→Int→Int→Int→Int→Int→Ls→Ls→Int→Int→Int→Int→Int→Int→Int→Int→Int→Int→Int→Int→Int→Ls→Int→Int→Prop
 | 0,_,_,_,_,_,_,_,_,_,_,_,_,_,_,_,_,_,_,_,_,_,_,_,_,_,_,_,_,_,_,_,_,_,_,_,_,_,_,_,_=>False
 | d+1,l0,i3,i4,i5,i6,i7,i8,i9,i10,i11,i12,i13,i14,i15,i16,i17,i18,i19,i20,i21,i22,i23,l24,l25,i26,i27,i28,i29,i30,i31,i32,i33,i34,i35,i36,i37,i38,l39,i40,i41 =>
 (cbr (decide (i41<i40))
 (asr (decide ((0:Int)≤i41))
 (asr (decide (i41<(((List.length l39):Nat):Int)))
 (lt (List.getD l39 (i41.toNat) .nils) (fun a =>
 (asr (conf z4 a)
 (cbr (!(((yaa (yab a 0)) ==(yaa (yab a 2)))&&(((yaa (yab a 1)) ==(yaa (yab a 3)))&&true)))
 (lt (IntKind.i64.wrap (i41+(1:Int))) (fun e =>
 (asr (decide ((List.length l0)=List.length l0)&&decide ((List.length l0)=List.length l0)&&decide (1=List.length ([(.agg [(.int .i64 (yaa (yab a 0))),(.int .i64 (yaa (yab a 1))),(.int .i64 (yaa (yab a 2))),(.int .i64 (yaa (yab a 3)))])]:Ls))&&decide (1=List.length ([(.agg [(.int .i64 (yaa (yab a 0))),(.int .i64 (yaa (yab a 1))),(.int .i64 (yaa (yab a 2))),(.int .i64 (yaa (yab a 3)))])]:Ls)))
 (yj1 a0 a1 a2 a3 a4 c d l0 ([(.agg [(.int .i64 (yaa (yab a 0))),(.int .i64 (yaa (yab a 1))),(.int .i64 (yaa (yab a 2))),(.int .i64 (yaa (yab a 3)))])]:Ls) i3 i4 i5 i6 i7 i8 i9 i10 i11 i12 i13 i14 i15 i16 i17 i18 i19 i20 i21 i22 i23 l24 l25 i26 i27 i28 i29 i30 i31 i32 i33 i34 i35 i36 i37 i38 l39 i40 e))))
 (lt (IntKind.i64.wrap (i41+(1:Int))) (fun f =>
 (asr (decide ((List.length l0)=List.length l0)&&decide ((List.length l0)=List.length l0))
 (yj4 a0 a1 a2 a3 a4 b c d l0 i3 i4 i5 i6 i7 i8 i9 i10 i11 i12 i13 i14 i15 i16 i17 i18 i19 i20 i21 i22 i23 l24 l25 i26 i27 i28 i29 i30 i31 i32 i33 i34 i35 i36 i37 i38 l39 i40 f))))))))))
 (b l0 i3 i4 i5 i6 i7 i8 i9 i10 i11 i12 i13 i14 i15 i16 i17 i18 i19 i20 i21 i22 i23 l24 l25 i26 i27 i28 i29 i30 i31 i32 i33 i34 i35 i36 i37 i38 l39 i40 i41 false))
def yfz (a0:yav) (a1:yaX) (a2:yaT) (a3:ybP) (a4:yaV) (c:Ls→Ls→Int→Int→Int→Int→Int→Int→Int→Int→Int→Int→Int→Int→Int→Int→Int→Int→Int→Int→Int→Int→Int→Ls→Ls→Int→Int→Int→Int→Int→Int→Int→Int→Int→Int→Int→Int→Int→Ls→Int→Int→Bool→Prop):Nat→Ls→Ls→Int→Int→Int→Int→Int→Int→Int→Int→Int→Int→Int→Int→Int→Int→Int→Int→Int→Int→Int→Int→Int→Ls→Ls→Int→Int→Int→Int→Int→Int→Int→Int→Int→Int→Int→Int→Int→Ls→Int→Int→Prop
 | 0,_,_,_,_,_,_,_,_,_,_,_,_,_,_,_,_,_,_,_,_,_,_,_,_,_,_,_,_,_,_,_,_,_,_,_,_,_,_,_,_,_=>False
 | e+1,l0,l1,i4,i5,i6,i7,i8,i9,i10,i11,i12,i13,i14,i15,i16,i17,i18,i19,i20,i21,i22,i23,i24,l25,l26,i27,i28,i29,i30,i31,i32,i33,i34,i35,i36,i37,i38,i41,l42,i43,i44 =>
 (cbr (decide (i44<i43))
 (jn (fun (d:Ls→Prop) =>
 (asr (decide ((0:Int)≤i44))
 (asr (decide (i44<(((List.length l42):Nat):Int)))
 (lt (List.getD l42 (i44.toNat) .nils) (fun a =>
 (asr (conf z4 a)
 (cbr (!(((yaa (yab a 0)) ==(yaa (yab a 2)))&&(((yaa (yab a 1)) ==(yaa (yab a 3)))&&true)))
 (asr (decide ((List.length l1)=(List.length l1)))
 (asr (decide ((0+(List.length l1))≤(List.length l1)))
 (asr (!(decide (((0+(List.length l1))+1)≤(List.length l1))))
 (asr (decide ((List.length l1)=(List.length l1)))
 (asr (decide ((((List.length l1)+1)+64)*(32+1)≤room))
 (d (l1++([(.agg [(.int .i64 (yaa (yab a 0))),(.int .i64 (yaa (yab a 1))),(.int .i64 (yaa (yab a 2))),(.int .i64 (yaa (yab a 3)))])]:Ls))))))))
 (d l1))))))))
 (fun b=>(lt (IntKind.i64.wrap (i44+(1:Int))) (fun f =>
 (asr (decide ((List.length l0)=List.length l0)&&decide ((List.length l0)=List.length l0)&&decide ((List.length b)=List.length b)&&decide ((List.length b)=List.length b))
 (yfz a0 a1 a2 a3 a4 c e l0 b i4 i5 i6 i7 i8 i9 i10 i11 i12 i13 i14 i15 i16 i17 i18 i19 i20 i21 i22 i23 i24 l25 l26 i27 i28 i29 i30 i31 i32 i33 i34 i35 i36 i37 i38 i41 l42 i43 f))))))
 (c l0 l1 i4 i5 i6 i7 i8 i9 i10 i11 i12 i13 i14 i15 i16 i17 i18 i19 i20 i21 i22 i23 i24 l25 l26 i27 i28 i29 i30 i31 i32 i33 i34 i35 i36 i37 i38 i41 l42 i43 i44 false))
def ydz (a0:yav) (a1:yaX) (a2:yaT) (a3:ybP) (a4:yaV) (b:Ls→Int→Int→Int→Int→Int→Int→Int→Int→Int→Int→Int→Int→Int→Int→Int→Int→Int→Int→Int→Int→Int→Ls→Ls→Int→Int→Int→Int→Int→Int→Int→Int→Int→Int→Int→Int→Int→Ls→Int→Int→Bool→Prop) (c:Ls→Ls→Int→Int→Int→Int→Int→Int→Int→Int→Int→Int→Int→Int→Int→Int→Int→Int→Int→Int→Int→Int→Int→Ls→Ls→Int→Int→Int→Int→Int→Int→Int→Int→Int→Int→Int→Int→Int→Ls→Int→Int→Bool→Prop):Nat→Ls→Int→Int→Int→Int→Int→Int→Int→Int→Int→Int→Int→Int→Int→Int→Int→Int→Int→Int→Int→Int→Int→Ls→Ls→Int→Int→Int→Int→Int→Int→Int→Int→Int→Int→Int→Int→Int→Ls→Int→Int→Prop
 | 0,_,_,_,_,_,_,_,_,_,_,_,_,_,_,_,_,_,_,_,_,_,_,_,_,_,_,_,_,_,_,_,_,_,_,_,_,_,_,_,_=>False
 | d+1,l0,i3,i4,i5,i6,i7,i8,i9,i10,i11,i12,i13,i14,i15,i16,i17,i18,i19,i20,i21,i22,i23,l24,l25,i26,i27,i28,i29,i30,i31,i32,i33,i34,i35,i36,i37,i38,l39,i40,i41 =>
 (cbr (decide (i41<i40))
 (asr (decide ((0:Int)≤i41))
 (asr (decide (i41<(((List.length l39):Nat):Int)))
 (lt (List.getD l39 (i41.toNat) .nils) (fun a =>
 (asr (conf z4 a)
 (cbr (!(((yaa (yab a 0)) ==(yaa (yab a 2)))&&(((yaa (yab a 1)) ==(yaa (yab a 3)))&&true)))
 (lt (IntKind.i64.wrap (i41+(1:Int))) (fun e =>
 (asr (decide ((List.length l0)=List.length l0)&&decide ((List.length l0)=List.length l0)&&decide (1=List.length ([(.agg [(.int .i64 (yaa (yab a 0))),(.int .i64 (yaa (yab a 1))),(.int .i64 (yaa (yab a 2))),(.int .i64 (yaa (yab a 3)))])]:Ls))&&decide (1=List.length ([(.agg [(.int .i64 (yaa (yab a 0))),(.int .i64 (yaa (yab a 1))),(.int .i64 (yaa (yab a 2))),(.int .i64 (yaa (yab a 3)))])]:Ls)))
 (yfz a0 a1 a2 a3 a4 c d l0 ([(.agg [(.int .i64 (yaa (yab a 0))),(.int .i64 (yaa (yab a 1))),(.int .i64 (yaa (yab a 2))),(.int .i64 (yaa (yab a 3)))])]:Ls) i3 i4 i5 i6 i7 i8 i9 i10 i11 i12 i13 i14 i15 i16 i17 i18 i19 i20 i21 i22 i23 l24 l25 i26 i27 i28 i29 i30 i31 i32 i33 i34 i35 i36 i37 i38 l39 i40 e))))
 (lt (IntKind.i64.wrap (i41+(1:Int))) (fun f =>
 (asr (decide ((List.length l0)=List.length l0)&&decide ((List.length l0)=List.length l0))
 (ydz a0 a1 a2 a3 a4 b c d l0 i3 i4 i5 i6 i7 i8 i9 i10 i11 i12 i13 i14 i15 i16 i17 i18 i19 i20 i21 i22 i23 l24 l25 i26 i27 i28 i29 i30 i31 i32 i33 i34 i35 i36 i37 i38 l39 i40 f))))))))))
 (b l0 i3 i4 i5 i6 i7 i8 i9 i10 i11 i12 i13 i14 i15 i16 i17 i18 i19 i20 i21 i22 i23 l24 l25 i26 i27 i28 i29 i30 i31 i32 i33 i34 i35 i36 i37 i38 l39 i40 i41 false))
def yhf (a0:yav) (a1:yaX) (a2:yaT) (a3:ybP) (a4:yaV) (g:Ls→Int→Int→Int→Int→Int→Int→Int→Int→Int→Int→Int→Int→Int→Int→Int→Int→Int→Int→Int→Int→Int→Ls→Ls→Int→Int→Int→Int→Int→Int→Int→Int→Int→Int→Int→Int→Int→Bool→Prop):Nat→Ls→Int→Int→Int→Int→Int→Int→Int→Int→Int→Int→Int→Int→Int→Int→Int→Int→Int→Int→Int→Int→Int→Ls→Ls→Int→Int→Int→Int→Int→Int→Int→Int→Int→Int→Int→Int→Int→Prop
 | 0,_,_,_,_,_,_,_,_,_,_,_,_,_,_,_,_,_,_,_,_,_,_,_,_,_,_,_,_,_,_,_,_,_,_,_,_,_=>False
 | h+1,l0,i3,i4,i5,i6,i7,i8,i9,i10,i11,i12,i13,i14,i15,i16,i17,i18,i19,i20,i21,i22,i23,l24,l25,i26,i27,i28,i29,i30,i31,i32,i33,i34,i35,i36,i37,i38 =>
 (cbr (decide (i38<(3:Int)))
 (jn (fun (a:Ls→Prop) =>
 (cbr (decide (i38=(0:Int)))
 (cbr (decide (i20=(0:Int)))
 (cbr (decide (i38=(0:Int)))
 (a ([(.agg [(.int .i64 i3),(.int .i64 i4),(.int .i64 i5),(.int .i64 i6)]),(.agg [(.int .i64 i26),(.int .i64 i27),(.int .i64 i28),(.int .i64 i29)])]:Ls))
 (cbr (decide (i38=(1:Int)))
 (a ([(.agg [(.int .i64 i3),(.int .i64 i4),(.int .i64 i5),(.int .i64 i6)]),(.agg [(.int .i64 i30),(.int .i64 i31),(.int .i64 i32),(.int .i64 i33)])]:Ls))
 (cbr (decide (i38=(2:Int)))
 (a ([(.agg [(.int .i64 i3),(.int .i64 i4),(.int .i64 i5),(.int .i64 i6)]),(.agg [(.int .i64 i34),(.int .i64 i35),(.int .i64 i36),(.int .i64 i37)])]:Ls))
 False)))
 (cbr (decide (i20=(1:Int)))
 (cbr (decide (i38=(0:Int)))
 (a ([(.agg [(.int .i64 i7),(.int .i64 i8),(.int .i64 i9),(.int .i64 i10)]),(.agg [(.int .i64 i26),(.int .i64 i27),(.int .i64 i28),(.int .i64 i29)])]:Ls))
 (cbr (decide (i38=(1:Int)))
 (a ([(.agg [(.int .i64 i7),(.int .i64 i8),(.int .i64 i9),(.int .i64 i10)]),(.agg [(.int .i64 i30),(.int .i64 i31),(.int .i64 i32),(.int .i64 i33)])]:Ls))
 (cbr (decide (i38=(2:Int)))
 (a ([(.agg [(.int .i64 i7),(.int .i64 i8),(.int .i64 i9),(.int .i64 i10)]),(.agg [(.int .i64 i34),(.int .i64 i35),(.int .i64 i36),(.int .i64 i37)])]:Ls))
 False)))
 (cbr (decide (i20=(2:Int)))
 (cbr (decide (i38=(0:Int)))
 (a ([(.agg [(.int .i64 i11),(.int .i64 i12),(.int .i64 i13),(.int .i64 i14)]),(.agg [(.int .i64 i26),(.int .i64 i27),(.int .i64 i28),(.int .i64 i29)])]:Ls))
 (cbr (decide (i38=(1:Int)))
 (a ([(.agg [(.int .i64 i11),(.int .i64 i12),(.int .i64 i13),(.int .i64 i14)]),(.agg [(.int .i64 i30),(.int .i64 i31),(.int .i64 i32),(.int .i64 i33)])]:Ls))
 (cbr (decide (i38=(2:Int)))
 (a ([(.agg [(.int .i64 i11),(.int .i64 i12),(.int .i64 i13),(.int .i64 i14)]),(.agg [(.int .i64 i34),(.int .i64 i35),(.int .i64 i36),(.int .i64 i37)])]:Ls))
 False)))
 False)))
 (cbr (decide (i38=(1:Int)))
 (cbr (decide (i21=(0:Int)))
 (cbr (decide (i38=(0:Int)))
 (a ([(.agg [(.int .i64 i3),(.int .i64 i4),(.int .i64 i5),(.int .i64 i6)]),(.agg [(.int .i64 i26),(.int .i64 i27),(.int .i64 i28),(.int .i64 i29)])]:Ls))
 (cbr (decide (i38=(1:Int)))
 (a ([(.agg [(.int .i64 i3),(.int .i64 i4),(.int .i64 i5),(.int .i64 i6)]),(.agg [(.int .i64 i30),(.int .i64 i31),(.int .i64 i32),(.int .i64 i33)])]:Ls))
 (cbr (decide (i38=(2:Int)))
 (a ([(.agg [(.int .i64 i3),(.int .i64 i4),(.int .i64 i5),(.int .i64 i6)]),(.agg [(.int .i64 i34),(.int .i64 i35),(.int .i64 i36),(.int .i64 i37)])]:Ls))
 False)))
 (cbr (decide (i21=(1:Int)))
 (cbr (decide (i38=(0:Int)))
 (a ([(.agg [(.int .i64 i7),(.int .i64 i8),(.int .i64 i9),(.int .i64 i10)]),(.agg [(.int .i64 i26),(.int .i64 i27),(.int .i64 i28),(.int .i64 i29)])]:Ls))
 (cbr (decide (i38=(1:Int)))
 (a ([(.agg [(.int .i64 i7),(.int .i64 i8),(.int .i64 i9),(.int .i64 i10)]),(.agg [(.int .i64 i30),(.int .i64 i31),(.int .i64 i32),(.int .i64 i33)])]:Ls))
 (cbr (decide (i38=(2:Int)))
 (a ([(.agg [(.int .i64 i7),(.int .i64 i8),(.int .i64 i9),(.int .i64 i10)]),(.agg [(.int .i64 i34),(.int .i64 i35),(.int .i64 i36),(.int .i64 i37)])]:Ls))
 False)))
 (cbr (decide (i21=(2:Int)))
 (cbr (decide (i38=(0:Int)))
 (a ([(.agg [(.int .i64 i11),(.int .i64 i12),(.int .i64 i13),(.int .i64 i14)]),(.agg [(.int .i64 i26),(.int .i64 i27),(.int .i64 i28),(.int .i64 i29)])]:Ls))
 (cbr (decide (i38=(1:Int)))
 (a ([(.agg [(.int .i64 i11),(.int .i64 i12),(.int .i64 i13),(.int .i64 i14)]),(.agg [(.int .i64 i30),(.int .i64 i31),(.int .i64 i32),(.int .i64 i33)])]:Ls))
 (cbr (decide (i38=(2:Int)))
 (a ([(.agg [(.int .i64 i11),(.int .i64 i12),(.int .i64 i13),(.int .i64 i14)]),(.agg [(.int .i64 i34),(.int .i64 i35),(.int .i64 i36),(.int .i64 i37)])]:Ls))
 False)))
 False)))
 (cbr (decide (i38=(2:Int)))
 (cbr (decide (i22=(0:Int)))
 (cbr (decide (i38=(0:Int)))
 (a ([(.agg [(.int .i64 i3),(.int .i64 i4),(.int .i64 i5),(.int .i64 i6)]),(.agg [(.int .i64 i26),(.int .i64 i27),(.int .i64 i28),(.int .i64 i29)])]:Ls))
 (cbr (decide (i38=(1:Int)))
 (a ([(.agg [(.int .i64 i3),(.int .i64 i4),(.int .i64 i5),(.int .i64 i6)]),(.agg [(.int .i64 i30),(.int .i64 i31),(.int .i64 i32),(.int .i64 i33)])]:Ls))
 (cbr (decide (i38=(2:Int)))
 (a ([(.agg [(.int .i64 i3),(.int .i64 i4),(.int .i64 i5),(.int .i64 i6)]),(.agg [(.int .i64 i34),(.int .i64 i35),(.int .i64 i36),(.int .i64 i37)])]:Ls))
 False)))
 (cbr (decide (i22=(1:Int)))
 (cbr (decide (i38=(0:Int)))
 (a ([(.agg [(.int .i64 i7),(.int .i64 i8),(.int .i64 i9),(.int .i64 i10)]),(.agg [(.int .i64 i26),(.int .i64 i27),(.int .i64 i28),(.int .i64 i29)])]:Ls))
 (cbr (decide (i38=(1:Int)))
 (a ([(.agg [(.int .i64 i7),(.int .i64 i8),(.int .i64 i9),(.int .i64 i10)]),(.agg [(.int .i64 i30),(.int .i64 i31),(.int .i64 i32),(.int .i64 i33)])]:Ls))
 (cbr (decide (i38=(2:Int)))
 (a ([(.agg [(.int .i64 i7),(.int .i64 i8),(.int .i64 i9),(.int .i64 i10)]),(.agg [(.int .i64 i34),(.int .i64 i35),(.int .i64 i36),(.int .i64 i37)])]:Ls))
 False)))
 (cbr (decide (i22=(2:Int)))
 (cbr (decide (i38=(0:Int)))
 (a ([(.agg [(.int .i64 i11),(.int .i64 i12),(.int .i64 i13),(.int .i64 i14)]),(.agg [(.int .i64 i26),(.int .i64 i27),(.int .i64 i28),(.int .i64 i29)])]:Ls))
 (cbr (decide (i38=(1:Int)))
 (a ([(.agg [(.int .i64 i11),(.int .i64 i12),(.int .i64 i13),(.int .i64 i14)]),(.agg [(.int .i64 i30),(.int .i64 i31),(.int .i64 i32),(.int .i64 i33)])]:Ls))
 (cbr (decide (i38=(2:Int)))
 (a ([(.agg [(.int .i64 i11),(.int .i64 i12),(.int .i64 i13),(.int .i64 i14)]),(.agg [(.int .i64 i34),(.int .i64 i35),(.int .i64 i36),(.int .i64 i37)])]:Ls))
 False)))
 False)))
 False))))
 (fun i=>(asr (decide ((List.length l0)=List.length l0)&&decide ((List.length l0)=List.length l0))
 (∃ j:Nat,yj4 a0 a1 a2 a3 a4
 (fun b k l m n o p q r s t u v w x y z A B C D E F G H I J K L M N O Q R S T U _ _ _ _=>(a3 ([]:Ls) (fun V W =>
 (a4 V W (fun e =>
 (asr (decide ((List.length b)=(List.length b)))
 (asr (decide ((0+(List.length b))≤(List.length b)))
 (asr (!(decide (((0+(List.length b))+1)≤(List.length b))))
 (asr (decide ((List.length b)=(List.length b)))
 (asr (decide ((((List.length b)+1)+64)*(24+1)≤room))
 (lt (IntKind.i64.wrap (U+(1:Int))) (fun X =>
 (asr (decide ((List.length (b++([(.data e)]:Ls)))=List.length (b++([(.data e)]:Ls)))&&decide ((List.length (b++([(.data e)]:Ls)))=List.length (b++([(.data e)]:Ls))))
 (yhf a0 a1 a2 a3 a4 g h (b++([(.data e)]:Ls)) k l m n o p q r s t u v w x y z A B C D E F G H I J K L M N O Q R S T X))))))))))))))
 (fun c d Y Z va vb vc vd ve vf vg vh vi vj vk vl vm vn vo vp vq vr vs vt vu vv vw vx vy vz vA vB vC vD vE vF vG vH _ _ _ _=>(asr (decide ((List.length d)=(List.length d)))
 (asr (decide ((0+(List.length d))≤(List.length d)))
 (a3 (List.take (List.length d) d) (fun vI vJ =>
 (a4 vI vJ (fun f =>
 (asr (decide ((List.length c)=(List.length c)))
 (asr (decide ((0+(List.length c))≤(List.length c)))
 (asr (!(decide (((0+(List.length c))+1)≤(List.length c))))
 (asr (decide ((List.length c)=(List.length c)))
 (asr (decide ((((List.length c)+1)+64)*(24+1)≤room))
 (lt (IntKind.i64.wrap (vH+(1:Int))) (fun vK =>
 (asr (decide ((List.length (c++([(.data f)]:Ls)))=List.length (c++([(.data f)]:Ls)))&&decide ((List.length (c++([(.data f)]:Ls)))=List.length (c++([(.data f)]:Ls))))
 (yhf a0 a1 a2 a3 a4 g h (c++([(.data f)]:Ls)) Y Z va vb vc vd ve vf vg vh vi vj vk vl vm vn vo vp vq vr vs vt vu vv vw vx vy vz vA vB vC vD vE vF vG vK))))))))))))))))
 j l0 i3 i4 i5 i6 i7 i8 i9 i10 i11 i12 i13 i14 i15 i16 i17 i18 i19 i20 i21 i22 i23 l24 l25 i26 i27 i28 i29 i30 i31 i32 i33 i34 i35 i36 i37 i38 i (2:Int) (0:Int)))))
 (g l0 i3 i4 i5 i6 i7 i8 i9 i10 i11 i12 i13 i14 i15 i16 i17 i18 i19 i20 i21 i22 i23 l24 l25 i26 i27 i28 i29 i30 i31 i32 i33 i34 i35 i36 i37 i38 false))
def yaF (a0:yav) (a1:yaX) (a2:yaT) (a3:ybP) (a4:yaV) (g:Ls→Int→Int→Int→Int→Int→Int→Int→Int→Int→Int→Int→Int→Int→Int→Int→Int→Int→Int→Int→Int→Int→Ls→Ls→Int→Int→Int→Int→Int→Int→Int→Int→Int→Int→Int→Int→Int→Bool→Prop):Nat→Ls→Int→Int→Int→Int→Int→Int→Int→Int→Int→Int→Int→Int→Int→Int→Int→Int→Int→Int→Int→Int→Int→Ls→Ls→Int→Int→Int→Int→Int→Int→Int→Int→Int→Int→Int→Int→Int→Prop
 | 0,_,_,_,_,_,_,_,_,_,_,_,_,_,_,_,_,_,_,_,_,_,_,_,_,_,_,_,_,_,_,_,_,_,_,_,_,_=>False
 | h+1,l0,i3,i4,i5,i6,i7,i8,i9,i10,i11,i12,i13,i14,i15,i16,i17,i18,i19,i20,i21,i22,i23,l24,l25,i26,i27,i28,i29,i30,i31,i32,i33,i34,i35,i36,i37,i38 =>
 (cbr (decide (i38<(3:Int)))
 (jn (fun (a:Ls→Prop) =>
 (cbr (decide (i38=(0:Int)))
 (cbr (decide (i20=(0:Int)))
 (cbr (decide (i38=(0:Int)))
 (a ([(.agg [(.int .i64 i3),(.int .i64 i4),(.int .i64 i5),(.int .i64 i6)]),(.agg [(.int .i64 i26),(.int .i64 i27),(.int .i64 i28),(.int .i64 i29)])]:Ls))
 (cbr (decide (i38=(1:Int)))
 (a ([(.agg [(.int .i64 i3),(.int .i64 i4),(.int .i64 i5),(.int .i64 i6)]),(.agg [(.int .i64 i30),(.int .i64 i31),(.int .i64 i32),(.int .i64 i33)])]:Ls))
 (cbr (decide (i38=(2:Int)))
 (a ([(.agg [(.int .i64 i3),(.int .i64 i4),(.int .i64 i5),(.int .i64 i6)]),(.agg [(.int .i64 i34),(.int .i64 i35),(.int .i64 i36),(.int .i64 i37)])]:Ls))
 False)))
 (cbr (decide (i20=(1:Int)))
 (cbr (decide (i38=(0:Int)))
 (a ([(.agg [(.int .i64 i7),(.int .i64 i8),(.int .i64 i9),(.int .i64 i10)]),(.agg [(.int .i64 i26),(.int .i64 i27),(.int .i64 i28),(.int .i64 i29)])]:Ls))
 (cbr (decide (i38=(1:Int)))
 (a ([(.agg [(.int .i64 i7),(.int .i64 i8),(.int .i64 i9),(.int .i64 i10)]),(.agg [(.int .i64 i30),(.int .i64 i31),(.int .i64 i32),(.int .i64 i33)])]:Ls))
 (cbr (decide (i38=(2:Int)))
 (a ([(.agg [(.int .i64 i7),(.int .i64 i8),(.int .i64 i9),(.int .i64 i10)]),(.agg [(.int .i64 i34),(.int .i64 i35),(.int .i64 i36),(.int .i64 i37)])]:Ls))
 False)))
 (cbr (decide (i20=(2:Int)))
 (cbr (decide (i38=(0:Int)))
 (a ([(.agg [(.int .i64 i11),(.int .i64 i12),(.int .i64 i13),(.int .i64 i14)]),(.agg [(.int .i64 i26),(.int .i64 i27),(.int .i64 i28),(.int .i64 i29)])]:Ls))
 (cbr (decide (i38=(1:Int)))
 (a ([(.agg [(.int .i64 i11),(.int .i64 i12),(.int .i64 i13),(.int .i64 i14)]),(.agg [(.int .i64 i30),(.int .i64 i31),(.int .i64 i32),(.int .i64 i33)])]:Ls))
 (cbr (decide (i38=(2:Int)))
 (a ([(.agg [(.int .i64 i11),(.int .i64 i12),(.int .i64 i13),(.int .i64 i14)]),(.agg [(.int .i64 i34),(.int .i64 i35),(.int .i64 i36),(.int .i64 i37)])]:Ls))
 False)))
 False)))
 (cbr (decide (i38=(1:Int)))
 (cbr (decide (i21=(0:Int)))
 (cbr (decide (i38=(0:Int)))
 (a ([(.agg [(.int .i64 i3),(.int .i64 i4),(.int .i64 i5),(.int .i64 i6)]),(.agg [(.int .i64 i26),(.int .i64 i27),(.int .i64 i28),(.int .i64 i29)])]:Ls))
 (cbr (decide (i38=(1:Int)))
 (a ([(.agg [(.int .i64 i3),(.int .i64 i4),(.int .i64 i5),(.int .i64 i6)]),(.agg [(.int .i64 i30),(.int .i64 i31),(.int .i64 i32),(.int .i64 i33)])]:Ls))
 (cbr (decide (i38=(2:Int)))
 (a ([(.agg [(.int .i64 i3),(.int .i64 i4),(.int .i64 i5),(.int .i64 i6)]),(.agg [(.int .i64 i34),(.int .i64 i35),(.int .i64 i36),(.int .i64 i37)])]:Ls))
 False)))
 (cbr (decide (i21=(1:Int)))
 (cbr (decide (i38=(0:Int)))
 (a ([(.agg [(.int .i64 i7),(.int .i64 i8),(.int .i64 i9),(.int .i64 i10)]),(.agg [(.int .i64 i26),(.int .i64 i27),(.int .i64 i28),(.int .i64 i29)])]:Ls))
 (cbr (decide (i38=(1:Int)))
 (a ([(.agg [(.int .i64 i7),(.int .i64 i8),(.int .i64 i9),(.int .i64 i10)]),(.agg [(.int .i64 i30),(.int .i64 i31),(.int .i64 i32),(.int .i64 i33)])]:Ls))
 (cbr (decide (i38=(2:Int)))
 (a ([(.agg [(.int .i64 i7),(.int .i64 i8),(.int .i64 i9),(.int .i64 i10)]),(.agg [(.int .i64 i34),(.int .i64 i35),(.int .i64 i36),(.int .i64 i37)])]:Ls))
 False)))
 (cbr (decide (i21=(2:Int)))
 (cbr (decide (i38=(0:Int)))
 (a ([(.agg [(.int .i64 i11),(.int .i64 i12),(.int .i64 i13),(.int .i64 i14)]),(.agg [(.int .i64 i26),(.int .i64 i27),(.int .i64 i28),(.int .i64 i29)])]:Ls))
 (cbr (decide (i38=(1:Int)))
 (a ([(.agg [(.int .i64 i11),(.int .i64 i12),(.int .i64 i13),(.int .i64 i14)]),(.agg [(.int .i64 i30),(.int .i64 i31),(.int .i64 i32),(.int .i64 i33)])]:Ls))
 (cbr (decide (i38=(2:Int)))
 (a ([(.agg [(.int .i64 i11),(.int .i64 i12),(.int .i64 i13),(.int .i64 i14)]),(.agg [(.int .i64 i34),(.int .i64 i35),(.int .i64 i36),(.int .i64 i37)])]:Ls))
 False)))
 False)))
 (cbr (decide (i38=(2:Int)))
 (cbr (decide (i22=(0:Int)))
 (cbr (decide (i38=(0:Int)))
 (a ([(.agg [(.int .i64 i3),(.int .i64 i4),(.int .i64 i5),(.int .i64 i6)]),(.agg [(.int .i64 i26),(.int .i64 i27),(.int .i64 i28),(.int .i64 i29)])]:Ls))
 (cbr (decide (i38=(1:Int)))
 (a ([(.agg [(.int .i64 i3),(.int .i64 i4),(.int .i64 i5),(.int .i64 i6)]),(.agg [(.int .i64 i30),(.int .i64 i31),(.int .i64 i32),(.int .i64 i33)])]:Ls))
 (cbr (decide (i38=(2:Int)))
 (a ([(.agg [(.int .i64 i3),(.int .i64 i4),(.int .i64 i5),(.int .i64 i6)]),(.agg [(.int .i64 i34),(.int .i64 i35),(.int .i64 i36),(.int .i64 i37)])]:Ls))
 False)))
 (cbr (decide (i22=(1:Int)))
 (cbr (decide (i38=(0:Int)))
 (a ([(.agg [(.int .i64 i7),(.int .i64 i8),(.int .i64 i9),(.int .i64 i10)]),(.agg [(.int .i64 i26),(.int .i64 i27),(.int .i64 i28),(.int .i64 i29)])]:Ls))
 (cbr (decide (i38=(1:Int)))
 (a ([(.agg [(.int .i64 i7),(.int .i64 i8),(.int .i64 i9),(.int .i64 i10)]),(.agg [(.int .i64 i30),(.int .i64 i31),(.int .i64 i32),(.int .i64 i33)])]:Ls))
 (cbr (decide (i38=(2:Int)))
 (a ([(.agg [(.int .i64 i7),(.int .i64 i8),(.int .i64 i9),(.int .i64 i10)]),(.agg [(.int .i64 i34),(.int .i64 i35),(.int .i64 i36),(.int .i64 i37)])]:Ls))
 False)))
 (cbr (decide (i22=(2:Int)))
 (cbr (decide (i38=(0:Int)))
 (a ([(.agg [(.int .i64 i11),(.int .i64 i12),(.int .i64 i13),(.int .i64 i14)]),(.agg [(.int .i64 i26),(.int .i64 i27),(.int .i64 i28),(.int .i64 i29)])]:Ls))
 (cbr (decide (i38=(1:Int)))
 (a ([(.agg [(.int .i64 i11),(.int .i64 i12),(.int .i64 i13),(.int .i64 i14)]),(.agg [(.int .i64 i30),(.int .i64 i31),(.int .i64 i32),(.int .i64 i33)])]:Ls))
 (cbr (decide (i38=(2:Int)))
 (a ([(.agg [(.int .i64 i11),(.int .i64 i12),(.int .i64 i13),(.int .i64 i14)]),(.agg [(.int .i64 i34),(.int .i64 i35),(.int .i64 i36),(.int .i64 i37)])]:Ls))
 False)))
 False)))
 False))))
 (fun i=>(asr (decide ((List.length l0)=List.length l0)&&decide ((List.length l0)=List.length l0))
 (∃ j:Nat,ydz a0 a1 a2 a3 a4
 (fun b k l m n o p q r s t u v w x y z A B C D E F G H I J K L M N O Q R S T U _ _ _ _=>(a3 ([]:Ls) (fun V W =>
 (a4 V W (fun e =>
 (asr (decide ((List.length b)=(List.length b)))
 (asr (decide ((0+(List.length b))≤(List.length b)))
 (asr (!(decide (((0+(List.length b))+1)≤(List.length b))))
 (asr (decide ((List.length b)=(List.length b)))
 (asr (decide ((((List.length b)+1)+64)*(24+1)≤room))
 (lt (IntKind.i64.wrap (U+(1:Int))) (fun X =>
 (asr (decide ((List.length (b++([(.data e)]:Ls)))=List.length (b++([(.data e)]:Ls)))&&decide ((List.length (b++([(.data e)]:Ls)))=List.length (b++([(.data e)]:Ls))))
 (yaF a0 a1 a2 a3 a4 g h (b++([(.data e)]:Ls)) k l m n o p q r s t u v w x y z A B C D E F G H I J K L M N O Q R S T X))))))))))))))
 (fun c d Y Z va vb vc vd ve vf vg vh vi vj vk vl vm vn vo vp vq vr vs vt vu vv vw vx vy vz vA vB vC vD vE vF vG vH _ _ _ _=>(asr (decide ((List.length d)=(List.length d)))
 (asr (decide ((0+(List.length d))≤(List.length d)))
 (a3 (List.take (List.length d) d) (fun vI vJ =>
 (a4 vI vJ (fun f =>
 (asr (decide ((List.length c)=(List.length c)))
 (asr (decide ((0+(List.length c))≤(List.length c)))
 (asr (!(decide (((0+(List.length c))+1)≤(List.length c))))
 (asr (decide ((List.length c)=(List.length c)))
 (asr (decide ((((List.length c)+1)+64)*(24+1)≤room))
 (lt (IntKind.i64.wrap (vH+(1:Int))) (fun vK =>
 (asr (decide ((List.length (c++([(.data f)]:Ls)))=List.length (c++([(.data f)]:Ls)))&&decide ((List.length (c++([(.data f)]:Ls)))=List.length (c++([(.data f)]:Ls))))
 (yaF a0 a1 a2 a3 a4 g h (c++([(.data f)]:Ls)) Y Z va vb vc vd ve vf vg vh vi vj vk vl vm vn vo vp vq vr vs vt vu vv vw vx vy vz vA vB vC vD vE vF vG vK))))))))))))))))
 j l0 i3 i4 i5 i6 i7 i8 i9 i10 i11 i12 i13 i14 i15 i16 i17 i18 i19 i20 i21 i22 i23 l24 l25 i26 i27 i28 i29 i30 i31 i32 i33 i34 i35 i36 i37 i38 i (2:Int) (0:Int)))))
 (g l0 i3 i4 i5 i6 i7 i8 i9 i10 i11 i12 i13 i14 i15 i16 i17 i18 i19 i20 i21 i22 i23 l24 l25 i26 i27 i28 i29 i30 i31 i32 i33 i34 i35 i36 i37 i38 false))
def ycg (a0:yav) (a1:yaX) (a2:yaT) (a3:ybP) (a4:yaV) (f:Int→Int→Int→Int→Int→Int→Int→Int→Int→Int→Int→Int→Int→Int→Int→Int→Int→Int→Int→Int→Int→Ls→Ls→Int→Int→Int→Int→Int→Int→Int→Int→Int→Int→Int→Int→Int→Bool→Prop) (g:Ls→Int→Int→Int→Int→Int→Int→Int→Int→Int→Int→Int→Int→Int→Int→Int→Int→Int→Int→Int→Int→Int→Ls→Ls→Int→Int→Int→Int→Int→Int→Int→Int→Int→Int→Int→Int→Int→Bool→Prop) (h:Ls→Int→Int→Int→Int→Int→Int→Int→Int→Int→Int→Int→Int→Int→Int→Int→Int→Int→Int→Int→Int→Int→Ls→Ls→Int→Int→Int→Int→Int→Int→Int→Int→Int→Int→Int→Int→Int→Bool→Prop):Nat→Int→Int→Int→Int→Int→Int→Int→Int→Int→Int→Int→Int→Int→Int→Int→Int→Int→Int→Int→Int→Int→Ls→Ls→Int→Int→Int→Int→Int→Int→Int→Int→Int→Int→Int→Int→Int→Prop
 | 0,_,_,_,_,_,_,_,_,_,_,_,_,_,_,_,_,_,_,_,_,_,_,_,_,_,_,_,_,_,_,_,_,_,_,_,_=>False
 | e+1,i0,i1,i2,i3,i4,i5,i6,i7,i8,i9,i10,i11,i12,i13,i14,i15,i16,i17,i18,i19,i20,l21,l22,i23,i24,i25,i26,i27,i28,i29,i30,i31,i32,i33,i34,i35 =>
 (cbr (decide (i35<(3:Int)))
 (jn (fun (a:Ls→Prop) =>
 (cbr (decide (i35=(0:Int)))
 (cbr (decide (i17=(0:Int)))
 (cbr (decide (i35=(0:Int)))
 (a ([(.agg [(.int .i64 i0),(.int .i64 i1),(.int .i64 i2),(.int .i64 i3)]),(.agg [(.int .i64 i23),(.int .i64 i24),(.int .i64 i25),(.int .i64 i26)])]:Ls))
 (cbr (decide (i35=(1:Int)))
 (a ([(.agg [(.int .i64 i0),(.int .i64 i1),(.int .i64 i2),(.int .i64 i3)]),(.agg [(.int .i64 i27),(.int .i64 i28),(.int .i64 i29),(.int .i64 i30)])]:Ls))
 (cbr (decide (i35=(2:Int)))
 (a ([(.agg [(.int .i64 i0),(.int .i64 i1),(.int .i64 i2),(.int .i64 i3)]),(.agg [(.int .i64 i31),(.int .i64 i32),(.int .i64 i33),(.int .i64 i34)])]:Ls))
 False)))
 (cbr (decide (i17=(1:Int)))
 (cbr (decide (i35=(0:Int)))
 (a ([(.agg [(.int .i64 i4),(.int .i64 i5),(.int .i64 i6),(.int .i64 i7)]),(.agg [(.int .i64 i23),(.int .i64 i24),(.int .i64 i25),(.int .i64 i26)])]:Ls))
 (cbr (decide (i35=(1:Int)))
 (a ([(.agg [(.int .i64 i4),(.int .i64 i5),(.int .i64 i6),(.int .i64 i7)]),(.agg [(.int .i64 i27),(.int .i64 i28),(.int .i64 i29),(.int .i64 i30)])]:Ls))
 (cbr (decide (i35=(2:Int)))
 (a ([(.agg [(.int .i64 i4),(.int .i64 i5),(.int .i64 i6),(.int .i64 i7)]),(.agg [(.int .i64 i31),(.int .i64 i32),(.int .i64 i33),(.int .i64 i34)])]:Ls))
 False)))
 (cbr (decide (i17=(2:Int)))
 (cbr (decide (i35=(0:Int)))
 (a ([(.agg [(.int .i64 i8),(.int .i64 i9),(.int .i64 i10),(.int .i64 i11)]),(.agg [(.int .i64 i23),(.int .i64 i24),(.int .i64 i25),(.int .i64 i26)])]:Ls))
 (cbr (decide (i35=(1:Int)))
 (a ([(.agg [(.int .i64 i8),(.int .i64 i9),(.int .i64 i10),(.int .i64 i11)]),(.agg [(.int .i64 i27),(.int .i64 i28),(.int .i64 i29),(.int .i64 i30)])]:Ls))
 (cbr (decide (i35=(2:Int)))
 (a ([(.agg [(.int .i64 i8),(.int .i64 i9),(.int .i64 i10),(.int .i64 i11)]),(.agg [(.int .i64 i31),(.int .i64 i32),(.int .i64 i33),(.int .i64 i34)])]:Ls))
 False)))
 False)))
 (cbr (decide (i35=(1:Int)))
 (cbr (decide (i18=(0:Int)))
 (cbr (decide (i35=(0:Int)))
 (a ([(.agg [(.int .i64 i0),(.int .i64 i1),(.int .i64 i2),(.int .i64 i3)]),(.agg [(.int .i64 i23),(.int .i64 i24),(.int .i64 i25),(.int .i64 i26)])]:Ls))
 (cbr (decide (i35=(1:Int)))
 (a ([(.agg [(.int .i64 i0),(.int .i64 i1),(.int .i64 i2),(.int .i64 i3)]),(.agg [(.int .i64 i27),(.int .i64 i28),(.int .i64 i29),(.int .i64 i30)])]:Ls))
 (cbr (decide (i35=(2:Int)))
 (a ([(.agg [(.int .i64 i0),(.int .i64 i1),(.int .i64 i2),(.int .i64 i3)]),(.agg [(.int .i64 i31),(.int .i64 i32),(.int .i64 i33),(.int .i64 i34)])]:Ls))
 False)))
 (cbr (decide (i18=(1:Int)))
 (cbr (decide (i35=(0:Int)))
 (a ([(.agg [(.int .i64 i4),(.int .i64 i5),(.int .i64 i6),(.int .i64 i7)]),(.agg [(.int .i64 i23),(.int .i64 i24),(.int .i64 i25),(.int .i64 i26)])]:Ls))
 (cbr (decide (i35=(1:Int)))
 (a ([(.agg [(.int .i64 i4),(.int .i64 i5),(.int .i64 i6),(.int .i64 i7)]),(.agg [(.int .i64 i27),(.int .i64 i28),(.int .i64 i29),(.int .i64 i30)])]:Ls))
 (cbr (decide (i35=(2:Int)))
 (a ([(.agg [(.int .i64 i4),(.int .i64 i5),(.int .i64 i6),(.int .i64 i7)]),(.agg [(.int .i64 i31),(.int .i64 i32),(.int .i64 i33),(.int .i64 i34)])]:Ls))
 False)))
 (cbr (decide (i18=(2:Int)))
 (cbr (decide (i35=(0:Int)))
 (a ([(.agg [(.int .i64 i8),(.int .i64 i9),(.int .i64 i10),(.int .i64 i11)]),(.agg [(.int .i64 i23),(.int .i64 i24),(.int .i64 i25),(.int .i64 i26)])]:Ls))
 (cbr (decide (i35=(1:Int)))
 (a ([(.agg [(.int .i64 i8),(.int .i64 i9),(.int .i64 i10),(.int .i64 i11)]),(.agg [(.int .i64 i27),(.int .i64 i28),(.int .i64 i29),(.int .i64 i30)])]:Ls))
 (cbr (decide (i35=(2:Int)))
 (a ([(.agg [(.int .i64 i8),(.int .i64 i9),(.int .i64 i10),(.int .i64 i11)]),(.agg [(.int .i64 i31),(.int .i64 i32),(.int .i64 i33),(.int .i64 i34)])]:Ls))
 False)))
 False)))
 (cbr (decide (i35=(2:Int)))
 (cbr (decide (i19=(0:Int)))
 (cbr (decide (i35=(0:Int)))
 (a ([(.agg [(.int .i64 i0),(.int .i64 i1),(.int .i64 i2),(.int .i64 i3)]),(.agg [(.int .i64 i23),(.int .i64 i24),(.int .i64 i25),(.int .i64 i26)])]:Ls))
 (cbr (decide (i35=(1:Int)))
 (a ([(.agg [(.int .i64 i0),(.int .i64 i1),(.int .i64 i2),(.int .i64 i3)]),(.agg [(.int .i64 i27),(.int .i64 i28),(.int .i64 i29),(.int .i64 i30)])]:Ls))
 (cbr (decide (i35=(2:Int)))
 (a ([(.agg [(.int .i64 i0),(.int .i64 i1),(.int .i64 i2),(.int .i64 i3)]),(.agg [(.int .i64 i31),(.int .i64 i32),(.int .i64 i33),(.int .i64 i34)])]:Ls))
 False)))
 (cbr (decide (i19=(1:Int)))
 (cbr (decide (i35=(0:Int)))
 (a ([(.agg [(.int .i64 i4),(.int .i64 i5),(.int .i64 i6),(.int .i64 i7)]),(.agg [(.int .i64 i23),(.int .i64 i24),(.int .i64 i25),(.int .i64 i26)])]:Ls))
 (cbr (decide (i35=(1:Int)))
 (a ([(.agg [(.int .i64 i4),(.int .i64 i5),(.int .i64 i6),(.int .i64 i7)]),(.agg [(.int .i64 i27),(.int .i64 i28),(.int .i64 i29),(.int .i64 i30)])]:Ls))
 (cbr (decide (i35=(2:Int)))
 (a ([(.agg [(.int .i64 i4),(.int .i64 i5),(.int .i64 i6),(.int .i64 i7)]),(.agg [(.int .i64 i31),(.int .i64 i32),(.int .i64 i33),(.int .i64 i34)])]:Ls))
 False)))
 (cbr (decide (i19=(2:Int)))
 (cbr (decide (i35=(0:Int)))
 (a ([(.agg [(.int .i64 i8),(.int .i64 i9),(.int .i64 i10),(.int .i64 i11)]),(.agg [(.int .i64 i23),(.int .i64 i24),(.int .i64 i25),(.int .i64 i26)])]:Ls))
 (cbr (decide (i35=(1:Int)))
 (a ([(.agg [(.int .i64 i8),(.int .i64 i9),(.int .i64 i10),(.int .i64 i11)]),(.agg [(.int .i64 i27),(.int .i64 i28),(.int .i64 i29),(.int .i64 i30)])]:Ls))
 (cbr (decide (i35=(2:Int)))
 (a ([(.agg [(.int .i64 i8),(.int .i64 i9),(.int .i64 i10),(.int .i64 i11)]),(.agg [(.int .i64 i31),(.int .i64 i32),(.int .i64 i33),(.int .i64 i34)])]:Ls))
 False)))
 False)))
 False))))
 (fun i=>(∃ j:Nat,yfy a0 a1 a2 a3 a4
 (fun k l m n o p q r s t u v w x y z A B C D E F G H I J K L M N O Q R S T U _ _ _ _=>(a3 ([]:Ls) (fun V W =>
 (a4 V W (fun c =>
 (lt (IntKind.i64.wrap (U+(1:Int))) (fun X =>
 (asr (decide (1=List.length ([(.data c)]:Ls))&&decide (1=List.length ([(.data c)]:Ls)))
 (yhf a0 a1 a2 a3 a4 g e ([(.data c)]:Ls) k l m n o p q r s t u v w x y z A B C D E F G H I J K L M N O Q R S T X)))))))))
 (fun b Y Z va vb vc vd ve vf vg vh vi vj vk vl vm vn vo vp vq vr vs vt vu vv vw vx vy vz vA vB vC vD vE vF vG vH _ _ _ _=>(asr (decide ((List.length b)=(List.length b)))
 (asr (decide ((0+(List.length b))≤(List.length b)))
 (a3 (List.take (List.length b) b) (fun vI vJ =>
 (a4 vI vJ (fun d =>
 (lt (IntKind.i64.wrap (vH+(1:Int))) (fun vK =>
 (asr (decide (1=List.length ([(.data d)]:Ls))&&decide (1=List.length ([(.data d)]:Ls)))
 (yaF a0 a1 a2 a3 a4 h e ([(.data d)]:Ls) Y Z va vb vc vd ve vf vg vh vi vj vk vl vm vn vo vp vq vr vs vt vu vv vw vx vy vz vA vB vC vD vE vF vG vK)))))))))))
 j i0 i1 i2 i3 i4 i5 i6 i7 i8 i9 i10 i11 i12 i13 i14 i15 i16 i17 i18 i19 i20 l21 l22 i23 i24 i25 i26 i27 i28 i29 i30 i31 i32 i33 i34 i35 i (2:Int) (0:Int))))
 (f i0 i1 i2 i3 i4 i5 i6 i7 i8 i9 i10 i11 i12 i13 i14 i15 i16 i17 i18 i19 i20 l21 l22 i23 i24 i25 i26 i27 i28 i29 i30 i31 i32 i33 i34 i35 false))
def yn4 (a0:yav) (a1:yaX) (a2:yaT) (a3:ybP) (a4:yaV) (p0:Ls) (K:Ls→Int→Int→Int→Int→Int→Int→Int→Int→Int→Int→Int→Int→Int→Int→Int→Int→Int→Int→Int→Int→Ls→Int→Prop):Prop :=
 (a0 p0 ([]:Ls) (fun d =>
 (cbr (d !=(0:Int))
 (K ([]:Ls) (0:Int) (0:Int) (0:Int) (0:Int) (0:Int) (0:Int) (0:Int) (0:Int) (0:Int) (0:Int) (0:Int) (0:Int) (0:Int) (0:Int) (0:Int) (0:Int) (0:Int) (0:Int) (0:Int) (0:Int) ([]:Ls) d)
 (a1 p0 ([]:Ls) (fun e f g h i j k l m n o p c q r s t u v w x y =>
 (jn (fun (z:Ls→Ls→Int→Int→Int→Int→Int→Int→Int→Int→Int→Int→Int→Int→Prop) =>
 (cbr (decide (c≥(0:Int)))
 (a2 x y e f g h i j k l m n o p c q r s t u v w (fun D E F G H I J L M N O Q R S =>
 (z R S D E F G H I J L M N O Q)))
 (z x y (0:Int) (0:Int) (0:Int) (0:Int) (0:Int) (0:Int) (0:Int) (0:Int) (0:Int) (0:Int) (0:Int) (0:Int))))
 (fun T U V W X Y Z va vb vc vd ve vf vg=>(∃ vh:Nat,ycg a0 a1 a2 a3 a4
 (fun vi vj vk vl vm vn vo vp vq vr vs vt vu vv vw vx vy vz vA vB A _ vC _ _ _ _ _ _ _ _ _ _ _ _ _ _=>(cbr (A !=(0:Int))
 (K ([]:Ls) (0:Int) (0:Int) (0:Int) (0:Int) (0:Int) (0:Int) (0:Int) (0:Int) (0:Int) (0:Int) (0:Int) (0:Int) (0:Int) (0:Int) (0:Int) (0:Int) (0:Int) (0:Int) (0:Int) (0:Int) ([]:Ls) A)
 (K ([]:Ls) vi vj vk vl vm vn vo vp vq vr vs vt vu vv vw vx vy vz vA vB vC (0:Int))))
 (fun a vD vE vF vG vH vI vJ vK vL vM vN vO vP vQ vR vS vT vU vV vW B _ vX _ _ _ _ _ _ _ _ _ _ _ _ _ _=>(cbr (B !=(0:Int))
 (K ([]:Ls) (0:Int) (0:Int) (0:Int) (0:Int) (0:Int) (0:Int) (0:Int) (0:Int) (0:Int) (0:Int) (0:Int) (0:Int) (0:Int) (0:Int) (0:Int) (0:Int) (0:Int) (0:Int) (0:Int) (0:Int) ([]:Ls) B)
 (asr (decide ((List.length a)=(List.length a)))
 (asr (decide ((0+(List.length a))≤(List.length a)))
 (K (List.take (List.length a) a) vD vE vF vG vH vI vJ vK vL vM vN vO vP vQ vR vS vT vU vV vW vX (0:Int))))))
 (fun b vY vZ v0 v1 v2 v3 v4 v5 v6 v7 v8 v9 wa wb wc wd we wf wg wh C _ wi _ _ _ _ _ _ _ _ _ _ _ _ _ _=>(cbr (C !=(0:Int))
 (K ([]:Ls) (0:Int) (0:Int) (0:Int) (0:Int) (0:Int) (0:Int) (0:Int) (0:Int) (0:Int) (0:Int) (0:Int) (0:Int) (0:Int) (0:Int) (0:Int) (0:Int) (0:Int) (0:Int) (0:Int) (0:Int) ([]:Ls) C)
 (asr (decide ((List.length b)=(List.length b)))
 (asr (decide ((0+(List.length b))≤(List.length b)))
 (K (List.take (List.length b) b) vY vZ v0 v1 v2 v3 v4 v5 v6 v7 v8 v9 wa wb wc wd we wf wg wh wi (0:Int))))))
 vh e f g h i j k l m n o p c q r s t u v w (0:Int) T U V W X Y Z va vb vc vd ve vf vg (0:Int)))))))))
def yf2:ye2:=yn4 yaw yak yah yao yag
def yD8:Sg:=⟨pt7,Ls→Int→Int→Int→Int→Int→Int→Int→Int→Int→Int→Int→Int→Int→Int→Int→Int→Int→Int→Int→Int→Ls→Int→Prop,fun K=>(fun r0 r1 r2 r3 r4 r5 r6 r7 r8 r9 r10 r11 r12 r13 r14 r15 r16 r17 r18 r19 r20 r21 r22=>K (.tup [(.agg [(.data r0)]),(.agg [(.int .i64 r1),(.int .i64 r2),(.int .i64 r3),(.int .i64 r4),(.int .i64 r5),(.int .i64 r6),(.int .i64 r7),(.int .i64 r8),(.int .i64 r9),(.int .i64 r10),(.int .i64 r11),(.int .i64 r12),(.int .i64 r13),(.int .i64 r14),(.int .i64 r15),(.int .i64 r16),(.int .i64 r17),(.int .i64 r18),(.int .i64 r19),(.int .i64 r20)]),(.data r21),(.int .i64 r22)]))⟩
def yyT (Q:Qx):Int→Int→Int→Int→Int→Int→Int→Int→Int→Int→Int→Int→Int→Int→Int→Int→Int→Int→Int→Int→Int→Ls→Ls→Int→Int→Int→Int→Int→Int→Int→Int→Int→Int→Int→Int→Int→Ls→Int→Int→Bool→Prop:=(fun i0 i1 i2 i3 i4 i5 i6 i7 i8 i9 i10 i11 i12 i13 i14 i15 i16 i17 i18 i19 i20 l21 l22 i23 i24 i25 i26 i27 i28 i29 i30 i31 i32 i33 i34 i35 l36 i37 i38 b39=>Q (.exit 2) [(2,.v (.ptr 1 1 0 0)),(3,.v (.ptr 0 1 0 0)),(4,.box (.agg [(.int .i64 i23),(.int .i64 i24),(.int .i64 i25),(.int .i64 i26),(.int .i64 i27),(.int .i64 i28),(.int .i64 i29),(.int .i64 i30),(.int .i64 i31),(.int .i64 i32),(.int .i64 i33),(.int .i64 i34)])),(6,.v .nils),(15,.v (.int .i64 i35)),(28,.v (.data l36)),(29,.v (.int .i64 i37)),(30,.v (.int .i64 i38)),(31,.v (.bool b39))] [⟨false,false,1,([(.agg [.nils])]:Ls)⟩,⟨false,true,20,([(.agg [(.int .i64 i0),(.int .i64 i1),(.int .i64 i2),(.int .i64 i3),(.int .i64 i4),(.int .i64 i5),(.int .i64 i6),(.int .i64 i7),(.int .i64 i8),(.int .i64 i9),(.int .i64 i10),(.int .i64 i11),(.int .i64 i12),(.int .i64 i13),(.int .i64 i14),(.int .i64 i15),(.int .i64 i16),(.int .i64 i17),(.int .i64 i18),(.int .i64 i19)])]:Ls)⟩,⟨false,true,1,([(.int .i64 i20)]:Ls)⟩,⟨false,true,2,([(.agg [(.data l21),(.data l22)])]:Ls)⟩])
def yoU (Q:Qx):Ls→Int→Int→Int→Int→Int→Int→Int→Int→Int→Int→Int→Int→Int→Int→Int→Int→Int→Int→Int→Int→Int→Ls→Ls→Int→Int→Int→Int→Int→Int→Int→Int→Int→Int→Int→Int→Int→Ls→Int→Int→Bool→Prop:=(fun l0 i1 i2 i3 i4 i5 i6 i7 i8 i9 i10 i11 i12 i13 i14 i15 i16 i17 i18 i19 i20 i21 l22 l23 i24 i25 i26 i27 i28 i29 i30 i31 i32 i33 i34 i35 i38 l39 i40 i41 b42=>Q (.exit 2) [(2,.v (.ptr 1 1 0 0)),(3,.v (.ptr 0 1 0 0)),(4,.box (.agg [(.int .i64 i24),(.int .i64 i25),(.int .i64 i26),(.int .i64 i27),(.int .i64 i28),(.int .i64 i29),(.int .i64 i30),(.int .i64 i31),(.int .i64 i32),(.int .i64 i33),(.int .i64 i34),(.int .i64 i35)])),(6,.v (.own 4 0 (List.length l0) (List.length l0) none)),(15,.v (.int .i64 i38)),(28,.v (.data l39)),(29,.v (.int .i64 i40)),(30,.v (.int .i64 i41)),(31,.v (.bool b42))] [⟨false,false,1,([(.agg [.nils])]:Ls)⟩,⟨false,true,20,([(.agg [(.int .i64 i1),(.int .i64 i2),(.int .i64 i3),(.int .i64 i4),(.int .i64 i5),(.int .i64 i6),(.int .i64 i7),(.int .i64 i8),(.int .i64 i9),(.int .i64 i10),(.int .i64 i11),(.int .i64 i12),(.int .i64 i13),(.int .i64 i14),(.int .i64 i15),(.int .i64 i16),(.int .i64 i17),(.int .i64 i18),(.int .i64 i19),(.int .i64 i20)])]:Ls)⟩,⟨false,true,1,([(.int .i64 i21)]:Ls)⟩,⟨false,true,2,([(.agg [(.data l22),(.data l23)])]:Ls)⟩,⟨false,true,4,l0⟩])
def yyU (Q:Qx):Ls→Int→Int→Int→Int→Int→Int→Int→Int→Int→Int→Int→Int→Int→Int→Int→Int→Int→Int→Int→Int→Int→Ls→Ls→Int→Int→Int→Int→Int→Int→Int→Int→Int→Int→Int→Int→Int→Ls→Int→Int→Bool→Prop:=(fun l0 i3 i4 i5 i6 i7 i8 i9 i10 i11 i12 i13 i14 i15 i16 i17 i18 i19 i20 i21 i22 i23 l24 l25 i26 i27 i28 i29 i30 i31 i32 i33 i34 i35 i36 i37 i38 l39 i40 i41 b42=>Q (.exit 2) [(2,.v (.ptr 1 1 0 0)),(3,.v (.ptr 0 1 0 0)),(4,.box (.agg [(.int .i64 i26),(.int .i64 i27),(.int .i64 i28),(.int .i64 i29),(.int .i64 i30),(.int .i64 i31),(.int .i64 i32),(.int .i64 i33),(.int .i64 i34),(.int .i64 i35),(.int .i64 i36),(.int .i64 i37)])),(6,.v .nils),(15,.v (.int .i64 i38)),(28,.v (.data l39)),(29,.v (.int .i64 i40)),(30,.v (.int .i64 i41)),(31,.v (.bool b42))] [⟨false,false,1,([(.agg [(.own 4 0 (List.length l0) (List.length l0) none)])]:Ls)⟩,⟨false,true,20,([(.agg [(.int .i64 i3),(.int .i64 i4),(.int .i64 i5),(.int .i64 i6),(.int .i64 i7),(.int .i64 i8),(.int .i64 i9),(.int .i64 i10),(.int .i64 i11),(.int .i64 i12),(.int .i64 i13),(.int .i64 i14),(.int .i64 i15),(.int .i64 i16),(.int .i64 i17),(.int .i64 i18),(.int .i64 i19),(.int .i64 i20),(.int .i64 i21),(.int .i64 i22)])]:Ls)⟩,⟨false,true,1,([(.int .i64 i23)]:Ls)⟩,⟨false,true,2,([(.agg [(.data l24),(.data l25)])]:Ls)⟩,⟨false,true,1,l0⟩])
def yoV (Q:Qx):Ls→Ls→Int→Int→Int→Int→Int→Int→Int→Int→Int→Int→Int→Int→Int→Int→Int→Int→Int→Int→Int→Int→Int→Ls→Ls→Int→Int→Int→Int→Int→Int→Int→Int→Int→Int→Int→Int→Int→Ls→Int→Int→Bool→Prop:=(fun l0 l1 i4 i5 i6 i7 i8 i9 i10 i11 i12 i13 i14 i15 i16 i17 i18 i19 i20 i21 i22 i23 i24 l25 l26 i27 i28 i29 i30 i31 i32 i33 i34 i35 i36 i37 i38 i41 l42 i43 i44 b45=>Q (.exit 2) [(2,.v (.ptr 1 1 0 0)),(3,.v (.ptr 0 1 0 0)),(4,.box (.agg [(.int .i64 i27),(.int .i64 i28),(.int .i64 i29),(.int .i64 i30),(.int .i64 i31),(.int .i64 i32),(.int .i64 i33),(.int .i64 i34),(.int .i64 i35),(.int .i64 i36),(.int .i64 i37),(.int .i64 i38)])),(6,.v (.own 5 0 (List.length l1) (List.length l1) none)),(15,.v (.int .i64 i41)),(28,.v (.data l42)),(29,.v (.int .i64 i43)),(30,.v (.int .i64 i44)),(31,.v (.bool b45))] [⟨false,false,1,([(.agg [(.own 4 0 (List.length l0) (List.length l0) none)])]:Ls)⟩,⟨false,true,20,([(.agg [(.int .i64 i4),(.int .i64 i5),(.int .i64 i6),(.int .i64 i7),(.int .i64 i8),(.int .i64 i9),(.int .i64 i10),(.int .i64 i11),(.int .i64 i12),(.int .i64 i13),(.int .i64 i14),(.int .i64 i15),(.int .i64 i16),(.int .i64 i17),(.int .i64 i18),(.int .i64 i19),(.int .i64 i20),(.int .i64 i21),(.int .i64 i22),(.int .i64 i23)])]:Ls)⟩,⟨false,true,1,([(.int .i64 i24)]:Ls)⟩,⟨false,true,2,([(.agg [(.data l25),(.data l26)])]:Ls)⟩,⟨false,true,1,l0⟩,⟨false,true,4,l1⟩])
def yyV (Q:Qx):Ls→Int→Int→Int→Int→Int→Int→Int→Int→Int→Int→Int→Int→Int→Int→Int→Int→Int→Int→Int→Int→Int→Ls→Ls→Int→Int→Int→Int→Int→Int→Int→Int→Int→Int→Int→Int→Int→Ls→Int→Int→Bool→Prop:=(fun l0 i3 i4 i5 i6 i7 i8 i9 i10 i11 i12 i13 i14 i15 i16 i17 i18 i19 i20 i21 i22 i23 l24 l25 i26 i27 i28 i29 i30 i31 i32 i33 i34 i35 i36 i37 i38 l39 i40 i41 b42=>Q (.exit 2) [(2,.v (.ptr 1 1 0 0)),(3,.v (.ptr 0 1 0 0)),(4,.box (.agg [(.int .i64 i26),(.int .i64 i27),(.int .i64 i28),(.int .i64 i29),(.int .i64 i30),(.int .i64 i31),(.int .i64 i32),(.int .i64 i33),(.int .i64 i34),(.int .i64 i35),(.int .i64 i36),(.int .i64 i37)])),(6,.v .nils),(15,.v (.int .i64 i38)),(28,.v (.data l39)),(29,.v (.int .i64 i40)),(30,.v (.int .i64 i41)),(31,.v (.bool b42))] [⟨false,false,1,([(.agg [(.own 5 0 (List.length l0) (List.length l0) none)])]:Ls)⟩,⟨false,true,20,([(.agg [(.int .i64 i3),(.int .i64 i4),(.int .i64 i5),(.int .i64 i6),(.int .i64 i7),(.int .i64 i8),(.int .i64 i9),(.int .i64 i10),(.int .i64 i11),(.int .i64 i12),(.int .i64 i13),(.int .i64 i14),(.int .i64 i15),(.int .i64 i16),(.int .i64 i17),(.int .i64 i18),(.int .i64 i19),(.int .i64 i20),(.int .i64 i21),(.int .i64 i22)])]:Ls)⟩,⟨false,true,1,([(.int .i64 i23)]:Ls)⟩,⟨false,true,2,([(.agg [(.data l24),(.data l25)])]:Ls)⟩,⟨true,true,4,([]:Ls)⟩,⟨false,true,1,l0⟩])
def yoW (Q:Qx):Ls→Ls→Int→Int→Int→Int→Int→Int→Int→Int→Int→Int→Int→Int→Int→Int→Int→Int→Int→Int→Int→Int→Int→Ls→Ls→Int→Int→Int→Int→Int→Int→Int→Int→Int→Int→Int→Int→Int→Ls→Int→Int→Bool→Prop:=(fun l0 l1 i4 i5 i6 i7 i8 i9 i10 i11 i12 i13 i14 i15 i16 i17 i18 i19 i20 i21 i22 i23 i24 l25 l26 i27 i28 i29 i30 i31 i32 i33 i34 i35 i36 i37 i38 i41 l42 i43 i44 b45=>Q (.exit 2) [(2,.v (.ptr 1 1 0 0)),(3,.v (.ptr 0 1 0 0)),(4,.box (.agg [(.int .i64 i27),(.int .i64 i28),(.int .i64 i29),(.int .i64 i30),(.int .i64 i31),(.int .i64 i32),(.int .i64 i33),(.int .i64 i34),(.int .i64 i35),(.int .i64 i36),(.int .i64 i37),(.int .i64 i38)])),(6,.v (.own 6 0 (List.length l1) (List.length l1) none)),(15,.v (.int .i64 i41)),(28,.v (.data l42)),(29,.v (.int .i64 i43)),(30,.v (.int .i64 i44)),(31,.v (.bool b45))] [⟨false,false,1,([(.agg [(.own 5 0 (List.length l0) (List.length l0) none)])]:Ls)⟩,⟨false,true,20,([(.agg [(.int .i64 i4),(.int .i64 i5),(.int .i64 i6),(.int .i64 i7),(.int .i64 i8),(.int .i64 i9),(.int .i64 i10),(.int .i64 i11),(.int .i64 i12),(.int .i64 i13),(.int .i64 i14),(.int .i64 i15),(.int .i64 i16),(.int .i64 i17),(.int .i64 i18),(.int .i64 i19),(.int .i64 i20),(.int .i64 i21),(.int .i64 i22),(.int .i64 i23)])]:Ls)⟩,⟨false,true,1,([(.int .i64 i24)]:Ls)⟩,⟨false,true,2,([(.agg [(.data l25),(.data l26)])]:Ls)⟩,⟨true,true,4,([]:Ls)⟩,⟨false,true,1,l0⟩,⟨false,true,4,l1⟩])
def yyW (Q:Qx):Int→Int→Int→Int→Int→Int→Int→Int→Int→Int→Int→Int→Int→Int→Int→Int→Int→Int→Int→Int→Int→Ls→Ls→Int→Int→Int→Int→Int→Int→Int→Int→Int→Int→Int→Int→Int→Bool→Prop:=(fun i0 i1 i2 i3 i4 i5 i6 i7 i8 i9 i10 i11 i12 i13 i14 i15 i16 i17 i18 i19 i20 l21 l22 i23 i24 i25 i26 i27 i28 i29 i30 i31 i32 i33 i34 i35 b36=>Q (.exit 0) [(2,.v (.ptr 1 1 0 0)),(3,.v (.ptr 0 1 0 0)),(4,.box (.agg [(.int .i64 i23),(.int .i64 i24),(.int .i64 i25),(.int .i64 i26),(.int .i64 i27),(.int .i64 i28),(.int .i64 i29),(.int .i64 i30),(.int .i64 i31),(.int .i64 i32),(.int .i64 i33),(.int .i64 i34)])),(15,.v (.int .i64 i35)),(16,.v (.bool b36))] [⟨false,false,1,([(.agg [.nils])]:Ls)⟩,⟨false,true,20,([(.agg [(.int .i64 i0),(.int .i64 i1),(.int .i64 i2),(.int .i64 i3),(.int .i64 i4),(.int .i64 i5),(.int .i64 i6),(.int .i64 i7),(.int .i64 i8),(.int .i64 i9),(.int .i64 i10),(.int .i64 i11),(.int .i64 i12),(.int .i64 i13),(.int .i64 i14),(.int .i64 i15),(.int .i64 i16),(.int .i64 i17),(.int .i64 i18),(.int .i64 i19)])]:Ls)⟩,⟨false,true,1,([(.int .i64 i20)]:Ls)⟩,⟨false,true,2,([(.agg [(.data l21),(.data l22)])]:Ls)⟩])
def yoX (Q:Qx):Ls→Int→Int→Int→Int→Int→Int→Int→Int→Int→Int→Int→Int→Int→Int→Int→Int→Int→Int→Int→Int→Int→Ls→Ls→Int→Int→Int→Int→Int→Int→Int→Int→Int→Int→Int→Int→Int→Bool→Prop:=(fun l0 i3 i4 i5 i6 i7 i8 i9 i10 i11 i12 i13 i14 i15 i16 i17 i18 i19 i20 i21 i22 i23 l24 l25 i26 i27 i28 i29 i30 i31 i32 i33 i34 i35 i36 i37 i38 b39=>Q (.exit 0) [(2,.v (.ptr 1 1 0 0)),(3,.v (.ptr 0 1 0 0)),(4,.box (.agg [(.int .i64 i26),(.int .i64 i27),(.int .i64 i28),(.int .i64 i29),(.int .i64 i30),(.int .i64 i31),(.int .i64 i32),(.int .i64 i33),(.int .i64 i34),(.int .i64 i35),(.int .i64 i36),(.int .i64 i37)])),(15,.v (.int .i64 i38)),(16,.v (.bool b39))] [⟨false,false,1,([(.agg [(.own 4 0 (List.length l0) (List.length l0) none)])]:Ls)⟩,⟨false,true,20,([(.agg [(.int .i64 i3),(.int .i64 i4),(.int .i64 i5),(.int .i64 i6),(.int .i64 i7),(.int .i64 i8),(.int .i64 i9),(.int .i64 i10),(.int .i64 i11),(.int .i64 i12),(.int .i64 i13),(.int .i64 i14),(.int .i64 i15),(.int .i64 i16),(.int .i64 i17),(.int .i64 i18),(.int .i64 i19),(.int .i64 i20),(.int .i64 i21),(.int .i64 i22)])]:Ls)⟩,⟨false,true,1,([(.int .i64 i23)]:Ls)⟩,⟨false,true,2,([(.agg [(.data l24),(.data l25)])]:Ls)⟩,⟨false,true,1,l0⟩])
def yoY (Q:Qx):Ls→Int→Int→Int→Int→Int→Int→Int→Int→Int→Int→Int→Int→Int→Int→Int→Int→Int→Int→Int→Int→Int→Ls→Ls→Int→Int→Int→Int→Int→Int→Int→Int→Int→Int→Int→Int→Int→Bool→Prop:=(fun l0 i3 i4 i5 i6 i7 i8 i9 i10 i11 i12 i13 i14 i15 i16 i17 i18 i19 i20 i21 i22 i23 l24 l25 i26 i27 i28 i29 i30 i31 i32 i33 i34 i35 i36 i37 i38 b39=>Q (.exit 0) [(2,.v (.ptr 1 1 0 0)),(3,.v (.ptr 0 1 0 0)),(4,.box (.agg [(.int .i64 i26),(.int .i64 i27),(.int .i64 i28),(.int .i64 i29),(.int .i64 i30),(.int .i64 i31),(.int .i64 i32),(.int .i64 i33),(.int .i64 i34),(.int .i64 i35),(.int .i64 i36),(.int .i64 i37)])),(15,.v (.int .i64 i38)),(16,.v (.bool b39))] [⟨false,false,1,([(.agg [(.own 5 0 (List.length l0) (List.length l0) none)])]:Ls)⟩,⟨false,true,20,([(.agg [(.int .i64 i3),(.int .i64 i4),(.int .i64 i5),(.int .i64 i6),(.int .i64 i7),(.int .i64 i8),(.int .i64 i9),(.int .i64 i10),(.int .i64 i11),(.int .i64 i12),(.int .i64 i13),(.int .i64 i14),(.int .i64 i15),(.int .i64 i16),(.int .i64 i17),(.int .i64 i18),(.int .i64 i19),(.int .i64 i20),(.int .i64 i21),(.int .i64 i22)])]:Ls)⟩,⟨false,true,1,([(.int .i64 i23)]:Ls)⟩,⟨false,true,2,([(.agg [(.data l24),(.data l25)])]:Ls)⟩,⟨true,true,4,([]:Ls)⟩,⟨false,true,1,l0⟩])
def pt66:HPt:=hB false false 1 (rC (vA (lC vNs lN)) rN) (hB false true 20 pt57 (hB false true 1 pt17 (hB false true 2 pt55 hN)))
def pt67:Pat Frm:=fV 15 pt0 (fV 28 vD (fV 29 pt0 (fV 30 pt0 fN)))
def pt68:Pat Frm:=fV 2 pt20 (fV 3 pt19 (fX 4 (vA pt56) (fV 6 vNs pt67)))
def pt69:HPt:=hB false false 1 (rC (vA (lC pt65 lN)) rN) (hB false true 20 pt57 (hB false true 1 pt17 (hB false true 2 pt55 pt54)))
def pt70:VPt:=vW 5 (nK 0) (nT 5) (nT 5)
def pt71:HPt:=hB false false 1 (rC (vA (lC pt70 lN)) rN) (hB false true 20 pt57 (hB false true 1 pt17 (hB false true 2 pt55 (hB true true 4 rN pt54))))
def yqw (a0:yav) (a1:yaX) (a2:yaT) (a3:ybP) (a4:yaV) (Q:Qx):List St:=[⟨(pS pt66 pt68 fN),yfy a0 a1 a2 a3 a4 (yyT Q) (yoU Q)⟩,⟨(pS (hB false false 1 (rC (vA (lC vNs lN)) rN) (hB false true 20 pt57 (hB false true 1 pt17 (hB false true 2 pt55 pt23)))) (fV 2 pt20 (fV 3 pt19 (fX 4 (vA pt56) (fV 6 pt65 pt67)))) fN),fun n i1 i2 i3 i4 i5 i6 i7 i8 i9 i10 i11 i12 i13 i14 i15 i16 i17 i18 i19 i20 i21 l22 l23 l0 i24 i25 i26 i27 i28 i29 i30 i31 i32 i33 i34 i35 i38 l39 i40 i41=>yhe a0 a1 a2 a3 a4 (yoU Q) n l0 i1 i2 i3 i4 i5 i6 i7 i8 i9 i10 i11 i12 i13 i14 i15 i16 i17 i18 i19 i20 i21 l22 l23 i24 i25 i26 i27 i28 i29 i30 i31 i32 i33 i34 i35 i38 l39 i40 i41⟩,⟨(pS pt69 pt68 fN),fun n i3 i4 i5 i6 i7 i8 i9 i10 i11 i12 i13 i14 i15 i16 i17 i18 i19 i20 i21 i22 i23 l24 l25 l0 i26 i27 i28 i29 i30 i31 i32 i33 i34 i35 i36 i37 i38 l39 i40 i41=>yj4 a0 a1 a2 a3 a4 (yyU Q) (yoV Q) n l0 i3 i4 i5 i6 i7 i8 i9 i10 i11 i12 i13 i14 i15 i16 i17 i18 i19 i20 i21 i22 i23 l24 l25 i26 i27 i28 i29 i30 i31 i32 i33 i34 i35 i36 i37 i38 l39 i40 i41⟩,⟨(pS (hB false false 1 (rC (vA (lC pt65 lN)) rN) (hB false true 20 pt57 (hB false true 1 pt17 (hB false true 2 pt55 (hB false true 1 rA pt23))))) (fV 2 pt20 (fV 3 pt19 (fX 4 (vA pt56) (fV 6 pt70 pt67)))) fN),fun n i4 i5 i6 i7 i8 i9 i10 i11 i12 i13 i14 i15 i16 i17 i18 i19 i20 i21 i22 i23 i24 l25 l26 l0 l1 i27 i28 i29 i30 i31 i32 i33 i34 i35 i36 i37 i38 i41 l42 i43 i44=>yj1 a0 a1 a2 a3 a4 (yoV Q) n l0 l1 i4 i5 i6 i7 i8 i9 i10 i11 i12 i13 i14 i15 i16 i17 i18 i19 i20 i21 i22 i23 i24 l25 l26 i27 i28 i29 i30 i31 i32 i33 i34 i35 i36 i37 i38 i41 l42 i43 i44⟩,⟨(pS pt71 pt68 fN),fun n i3 i4 i5 i6 i7 i8 i9 i10 i11 i12 i13 i14 i15 i16 i17 i18 i19 i20 i21 i22 i23 l24 l25 l0 i26 i27 i28 i29 i30 i31 i32 i33 i34 i35 i36 i37 i38 l39 i40 i41=>ydz a0 a1 a2 a3 a4 (yyV Q) (yoW Q) n l0 i3 i4 i5 i6 i7 i8 i9 i10 i11 i12 i13 i14 i15 i16 i17 i18 i19 i20 i21 i22 i23 l24 l25 i26 i27 i28 i29 i30 i31 i32 i33 i34 i35 i36 i37 i38 l39 i40 i41⟩,⟨(pS (hB false false 1 (rC (vA (lC pt70 lN)) rN) (hB false true 20 pt57 (hB false true 1 pt17 (hB false true 2 pt55 (hB true true 4 rN (hB false true 1 rA pt23)))))) (fV 2 pt20 (fV 3 pt19 (fX 4 (vA pt56) (fV 6 (vW 6 (nK 0) (nT 6) (nT 6)) pt67)))) fN),fun n i4 i5 i6 i7 i8 i9 i10 i11 i12 i13 i14 i15 i16 i17 i18 i19 i20 i21 i22 i23 i24 l25 l26 l0 l1 i27 i28 i29 i30 i31 i32 i33 i34 i35 i36 i37 i38 i41 l42 i43 i44=>yfz a0 a1 a2 a3 a4 (yoW Q) n l0 l1 i4 i5 i6 i7 i8 i9 i10 i11 i12 i13 i14 i15 i16 i17 i18 i19 i20 i21 i22 i23 i24 l25 l26 i27 i28 i29 i30 i31 i32 i33 i34 i35 i36 i37 i38 i41 l42 i43 i44⟩]
def pt72:Pat Frm:=fV 2 pt20 (fV 3 pt19 (fX 4 (vA pt56) (fV 15 pt0 fN)))
def yqx (a0:yav) (a1:yaX) (a2:yaT) (a3:ybP) (a4:yaV) (Q:Qx):List St:=[⟨(pS pt66 pt72 fN),ycg a0 a1 a2 a3 a4 (yyW Q) (yoX Q) (yoY Q)⟩,⟨(pS pt69 pt72 fN),fun n i3 i4 i5 i6 i7 i8 i9 i10 i11 i12 i13 i14 i15 i16 i17 i18 i19 i20 i21 i22 i23 l24 l25 l0 i26 i27 i28 i29 i30 i31 i32 i33 i34 i35 i36 i37 i38=>yhf a0 a1 a2 a3 a4 (yoX Q) n l0 i3 i4 i5 i6 i7 i8 i9 i10 i11 i12 i13 i14 i15 i16 i17 i18 i19 i20 i21 i22 i23 l24 l25 i26 i27 i28 i29 i30 i31 i32 i33 i34 i35 i36 i37 i38⟩,⟨(pS pt71 pt72 fN),fun n i3 i4 i5 i6 i7 i8 i9 i10 i11 i12 i13 i14 i15 i16 i17 i18 i19 i20 i21 i22 i23 l24 l25 l0 i26 i27 i28 i29 i30 i31 i32 i33 i34 i35 i36 i37 i38=>yaF a0 a1 a2 a3 a4 (yoY Q) n l0 i3 i4 i5 i6 i7 i8 i9 i10 i11 i12 i13 i14 i15 i16 i17 i18 i19 i20 i21 i22 i23 l24 l25 i26 i27 i28 i29 i30 i31 i32 i33 i34 i35 i36 i37 i38⟩]
def ykj (a0:yav) (a1:yaX) (a2:yaT) (a3:ybP) (a4:yaV):LP:=lpS [(52887900,yqw a0 a1 a2 a3 a4),(52887901,yqx a0 a1 a2 a3 a4)]
def yn5 (a0:yav) (a1:yaX) (a2:yaT) (a3:ybP) (a4:yaV):SE:=⟨(E ef0),ydO [(yf5,ypz.pw a0),(yiB,yDS.pw a3),(yc2,yoR.pw a4)],ydP [],ykj a0 a1 a2 a3 a4,yqa [(ydI,yeA a1),(ydp,yd9 a2)]⟩
def yt2 (a0:yav) (a1:yaX) (a2:yaT) (a3:ybP) (a4:yaV):SE:=⟨(E ef0),ydO [(yf5,ypz.pw a0),(yiB,yDS.pw a3),(yc2,yoR.pw a4)],ydP [(yrb,ylH)],ykj a0 a1 a2 a3 a4,yqa [(ydI,yeA a1),(ydp,yd9 a2)]⟩
theorem ysi:SEOk (Uni (E ef0)) (yn5 yaw yak yah yao yag):=ylE (Sub.uni _) ⟨(yoK ef0 ybR),ytT,(yik ef0 ybR),trivial⟩ trivial ybR.ok ⟨(yju ef0 ybR),(yjc ef0 ybR),trivial⟩
theorem yxf (a0 a1 a2 a3 a4):ycr (yn5 a0 a1 a2 a3 a4) 5 a ypg true (yqw a0 a1 a2 a3 a4):=fun _=>⟨fun _=>by kernel_rfl,fun _ _=>by kernel_rfl,fun _=>by kernel_rfl,fun _ _=>by kernel_rfl,fun _=>by kernel_rfl,fun _ _=>by kernel_rfl,fun _=>by kernel_rfl,fun _ _=>by kernel_rfl,fun _=>by kernel_rfl,fun _ _=>by kernel_rfl,fun _=>by kernel_rfl,fun _ _=>by kernel_rfl,trivial⟩
theorem ynd:LpT (Uni (E ef0)) (ykj yaw yak yah yao yag) [] 52887900 (.lG 52887900 ypg):=fun _ _ _=>yp8.stG (Sub.uni _) (yaW (ysi) 5) (YOk.no _ _) (yar (by kernel_rfl)) (yxf _ _ _ _ _ _)
theorem yxg (a0 a1 a2 a3 a4):ycr (yn5 a0 a1 a2 a3 a4) 5 a yuK true (yqx a0 a1 a2 a3 a4):=fun _=>⟨fun _=>by kernel_rfl,fun _ _=>by kernel_rfl,fun _=>by kernel_rfl,fun _ _=>by kernel_rfl,fun _=>by kernel_rfl,fun _ _=>by kernel_rfl,trivial⟩
theorem yxh:LpT (Uni (E ef0)) (ykj yaw yak yah yao yag) [] 52887901 (.lG 52887901 yuK):=fun _ _ _=>yp8.stG (Sub.uni _) (yaW (ysi) 5) (YOk.no _ _) (ybg (l:=[(52887900,.lG 52887900 ypg)]) ⟨ynd,trivial⟩ (by kernel_rfl)) (yxg _ _ _ _ _ _)
theorem yCw:SEOk (Uni (E ef0)) (yt2 yaw yak yah yao yag):=ylE (Sub.uni _) ⟨(yoK ef0 ybR),ytT,(yik ef0 ybR),trivial⟩ ⟨⟨by kernel_rfl,by kernel_rfl,rfl,fun az=>yaN (by kernel_rfl) az,ybR.num _ (by kernel_rfl),by kernel_rfl,(ybg (l:=[(52887900,.lG 52887900 ypg),(52887901,.lG 52887901 yuK)]) ⟨ynd,yxh,trivial⟩ (by kernel_rfl))⟩,trivial⟩ ybR.ok ⟨(yju ef0 ybR),(yjc ef0 ybR),trivial⟩
theorem yD9 (a0 a1 a2 a3 a4):EqW (yt2 a0 a1 a2 a3 a4) 6 yFP yD8 (yn4 a0 a1 a2 a3 a4):=fun _ _=>by kernel_rfl
theorem yt3:OkF (E ef0) (yD8.pw yf2) yiC:=okU ybR (yD9 _ _ _ _ _) (yCw) yp9.flat (yar (by kernel_rfl))
abbrev yfA:Type:=(Int→Prop)→Prop
def yqy (K:Int→Prop):Prop :=
 (K (16:Int))
def ygV:yfA:=yqy
def yAw:Sg:=⟨lN,Int→Prop,fun K=>(fun r0=>K (.int .i64 r0))⟩
def yAx (e:Es):SE:=sE (E e) [] lp0
theorem yAy (e:Es):EqW (yAx e) 6 yBT yAw yqy:=fun _ _=>by kernel_rfl
theorem yAz (e:Es) (he:EG e):OkF (E e) (yAw.pw ygV) yiE:=okU he (yAy e) (yaE (Sub.uni _) trivial trivial he.ok) yp9.flat (yar (by kernel_rfl))
set_option linter.unusedVariables false
theorem yAA (p0:Ls) (p1:Ls) (r0:Int) (h:∀ K:Int→Prop,K r0→yaq p0 p1 K) (K:Int→Prop):yaq p0 p1 K=K r0 :=
 propext ⟨fun k=>detC (ygU [] ybB) (az:=[(.data p0),(.data p1)]) (x:=(.int .i64 r0)) (fun K' k'=>h (fun r0=>K' (.int .i64 r0)) k') (K:=fun x=>match x with | (.int .i64 r0)=>K r0 | _=>False) k,h K⟩
theorem yco (p0:Ls) (r0:Ls) (h:∀ K:Ls→Prop,K r0→yai p0 K) (K:Ls→Prop):yai p0 K=K r0 :=
 propext ⟨fun k=>detC (yfx [] ybB) (az:=[(.data p0)]) (x:=(.data r0)) (fun K' k'=>h (fun r0=>K' (.data r0)) k') (K:=fun x=>match x with | (.data r0)=>K r0 | _=>False) k,h K⟩
set_option maxHeartbeats 0
def yvF (a0:yce) (a1:yav) (p0:Ls) (K:Bool→Prop):Prop :=
 (jn (fun (a:Bool→Prop) =>
 (a0 p0 (fun b =>
 (cbr (!b)
 (cbr ((((List.length p0):Nat):Int) ==(3:Int))
 (a1 p0 ([]:Ls) (fun c =>
 (a (c ==(0:Int)))))
 (a false))
 (a false)))))
 (fun d=>(K d)))
def yll:yce:=yvF yep ygP
def yI6 (e:Es) (a0:yce) (a1:yav):SE:=sE (E e) [(yg2,yiS.pw a0),(ymT,ypz.pw a1)] lp0
theorem yI7 (e:Es) (a0 a1):EqW (yI6 e a0 a1) 6 yLb yiS (yvF a0 a1):=fun _ _=>by kernel_rfl
theorem yI8 (e:Es) (he:EG e):OkF (E e) (yiS.pw yll) ysJ:=okU he (yI7 e _ _) (yaE (Sub.uni _) ⟨(ym8 e he),(ywX e he),trivial⟩ trivial he.ok) yp9.flat (yar (by kernel_rfl))
abbrev ysj:Type:=(Ls→Prop)→Prop
def yxi (K:Ls→Prop):Prop :=
 (K ([(.agg [(.int .i64 (6:Int)),(.data ([(.int .i64 (0:Int)),(.int .i64 (6:Int))]:Ls)),(.data ([(.int .i64 (1:Int))]:Ls))]),(.agg [(.int .i64 (6:Int)),(.data ([(.int .i64 (0:Int)),(.int .i64 (4:Int)),(.int .i64 (6:Int))]:Ls)),(.data ([(.int .i64 (1:Int)),(.int .i64 (4:Int))]:Ls))]),(.agg [(.int .i64 (6:Int)),(.data ([(.int .i64 (0:Int)),(.int .i64 (2:Int)),(.int .i64 (6:Int))]:Ls)),(.data ([(.int .i64 (2:Int)),(.int .i64 (0:Int))]:Ls))])]:Ls))
def ysk:ysj:=yxi
def yGp:Sg:=⟨lN,Ls→Prop,fun K=>(fun r0=>K (.data r0))⟩
def yGq (e:Es):SE:=sE (E e) [] lp0
theorem yGr (e:Es):EqW (yGq e) 6 yHy yGp yxi:=fun _ _=>by kernel_rfl
theorem yGs (e:Es) (he:EG e):OkF (E e) (yGp.pw ysk) ymU:=okU he (yGr e) (yaE (Sub.uni _) trivial trivial he.ok) yp9.flat (yar (by kernel_rfl))
def yEJ (a0:yam) (p0:Int) (K:Int→Int→Prop):Prop :=
 (a0 p0 (fun a b =>
 (K a b)))
def yCx:yam:=yEJ yHL
def yLi (e:Es) (a0:yam):SE:=sE (E e) [(ywd,yhI.pw a0)] lp0
theorem yLj (e:Es) (a0):EqW (yLi e a0) 6 yMu yhI (yEJ a0):=fun _ _=>by kernel_rfl
theorem yLk (e:Es) (he:EG e):OkF (E e) (yhI.pw yCx) ywe:=okU he (yLj e _) (yaE (Sub.uni _) ⟨(yLh e he),trivial⟩ trivial he.ok) yp9.flat (yar (by kernel_rfl))
abbrev yil:Type:=(Bool→Prop)→Prop
def ypV (a0:ysj) (a1:ye2) (a2:yam) (a3:yad) (K:Bool→Prop):Prop :=
 (a0  (fun b =>
 (a1 b (fun c d e f g h i j k l m n o p q r s t u v w x y =>
 (a2 (0:Int) (fun z A =>
 (a2 (2:Int) (fun B C =>
 (a2 (2:Int) (fun D E =>
 (a2 (4:Int) (fun F G =>
 (a2 (6:Int) (fun H I =>
 (a2 (4:Int) (fun J L =>
 (jn (fun (a:Bool→Prop) =>
 (cbr (y ==(0:Int))
 (cbr ((d == z)&&((e == A)&&((f == B)&&((g == C)&&((h == D)&&((i == E)&&((j == F)&&((k == G)&&((l ==(11:Int))&&((m ==(2:Int))&&((n == H)&&((o == I)&&((p ==(2:Int))&&((q == J)&&((r == L)&&((s ==(11:Int))&&((t ==(2:Int))&&((u ==(1:Int))&&((v ==(2:Int))&&((w ==(0:Int))&&true))))))))))))))))))))
 (cbr ((((List.length x):Nat):Int) ==(16:Int))
 (a2 (2:Int) (fun M N =>
 (a2 (4:Int) (fun O Q =>
 (a2 (4:Int) (fun R S =>
 (a2 (6:Int) (fun T U =>
 (a2 (0:Int) (fun V W =>
 (a2 (2:Int) (fun X Y =>
 (a3 c ([(.data ([(.agg [(.int .i64 M),(.int .i64 N),(.int .i64 O),(.int .i64 Q)])]:Ls)),(.data ([(.agg [(.int .i64 R),(.int .i64 S),(.int .i64 T),(.int .i64 U)])]:Ls)),(.data ([(.agg [(.int .i64 V),(.int .i64 W),(.int .i64 X),(.int .i64 Y)])]:Ls))]:Ls) (fun Z =>
 (a Z)))))))))))))))
 (a false))
 (a false))
 (a false)))
 (fun va=>(K va)))))))))))))))))))
def yfI:yil:=ypV ysk yf2 yCx yh5
def yGt:Sg:=⟨lN,Bool→Prop,fun K=>(fun r0=>K (.bool r0))⟩
def yGu (a0:ysj) (a1:ye2) (a2:yam) (a3:yad):SE:=sE (E ef0) [(ymU,yGp.pw a0),(yiC,yD8.pw a1),(ywe,yhI.pw a2),(ype,yHN.pw a3)] lp0
theorem yGv (a0 a1 a2 a3):EqW (yGu a0 a1 a2 a3) 6 yHI yGt (ypV a0 a1 a2 a3):=fun _ _=>by kernel_rfl
theorem yGw:OkF (E ef0) (yGt.pw yfI) ymY:=okU ybR (yGv _ _ _ _) (yaE (Sub.uni _) ⟨(yGs ef0 ybR),yt3,(yLk ef0 ybR),(yzD ef0 ybR),trivial⟩ trivial ybR.ok) yp9.flat (yar (by kernel_rfl))
def ybG (a0:yce) (a1:yil) (a2:ye2) (a3:yha) (a4:yhb) (a5:yfA) (a6:yfw) (x0:Ls→Int→Bool→Prop) (x1:Bool→Prop):Nat→Ls→Int→Prop
 | 0,_,_=>False
 | n+1,l0,i1 =>
 (cbr (decide (i1<(3:Int)))
 (asr (decide ((0:Int)≤i1))
 (asr (decide (i1<(((List.length l0):Nat):Int)))
 (lt (List.getD l0 (i1.toNat) .nils) (fun a =>
 (asr (conf zD a)
 (cbr (decide ((((List.length (yaY a)):Nat):Int)>(2:Int)))
 (x1 false)
 (lt (IntKind.i64.wrap (i1+(1:Int))) (fun b =>
 (ybG a0 a1 a2 a3 a4 a5 a6 x0 x1 n l0 b)))))))))
 (x0 l0 i1 false))
def yjd (a0:yce) (a1:yil) (a2:ye2) (a3:yha) (a4:yhb) (a5:yfA) (a6:yfw) (p0:Ls) (K:Bool→Prop):Prop :=
 (a0 p0 (fun e =>
 (cbr (!e)
 (a1  (fun f =>
 (K f)))
 (a2 p0 (fun b v w x y z A B C D E F G g H I J L M N O c h =>
 (a3 p0 c (fun i j =>
 (a4 p0 b (fun Q k l =>
 (jn (fun (a:Bool→Prop) =>
 (cbr (h !=(0:Int))
 (a true)
 (cbr (j !=(0:Int))
 (a true)
 (cbr (l !=(0:Int))
 (a true)
 (cbr (i !=(((List.length c):Nat):Int))
 (a true)
 (a5  (fun m =>
 (cbr (decide ((((List.length c):Nat):Int)>m))
 (a true)
 (a5  (fun o =>
 (cbr (decide (o>(16:Int)))
 (a true)
 (cbr (g ==(-1:Int))
 (a ((((List.length c):Nat):Int) !=(7:Int)))
 (a false)))))))))))))
 (fun p=>(cbr p
 (K false)
 (a6 p0 b (7:Int) k (fun q r =>
 (jn (fun (d:Bool→Prop) =>
 (cbr (r !=(0:Int))
 (d true)
 (cbr (!q)
 (d true)
 (d ((((List.length b):Nat):Int) !=(3:Int))))))
 (fun s=>(cbr s
 (K false)
 (∃ n:Nat,ybG a0 a1 a2 a3 a4 a5 a6
 (fun R S T=>(a1  (fun t =>
 (K t))))
 (fun u=>(K u))
 n b (0:Int)))))))))))))))))))
def yhg:yce:=yjd yll yfI yf2 ye1 yd7 ygV yc6
def ysl (Q:Qx):Ls→Int→Bool→Prop:=(fun l0 i1 b2=>Q (.exit 0) [(3,.box (.agg [(.data l0)])),(13,.v (.int .i64 i1)),(95,.v (.bool b2))] [])
def ysm (Q:Qx):Bool→Prop:=(fun b0=>Q .ret [(2,.v (.bool b0))] [])
def ykY (a0:yce) (a1:yil) (a2:ye2) (a3:yha) (a4:yhb) (a5:yfA) (a6:yfw) (Q:Qx):List St:=[⟨(pS hN (fX 3 pt31 (fV 13 pt0 fN)) fN),ybG a0 a1 a2 a3 a4 a5 a6 (ysl Q) (ysm Q)⟩]
def yne (a0:yce) (a1:yil) (a2:ye2) (a3:yha) (a4:yhb) (a5:yfA) (a6:yfw):LP:=lpS [(39523000,ykY a0 a1 a2 a3 a4 a5 a6)]
def yje (a0:yce) (a1:yil) (a2:ye2) (a3:yha) (a4:yhb) (a5:yfA) (a6:yfw):SE:=sE (E ef0) [(ysJ,yiS.pw a0),(ymY,yGt.pw a1),(yiC,yD8.pw a2),(yk7,yDY.pw a3),(yk8,yD6.pw a4),(yiE,yAw.pw a5),(yiF,yAp.pw a6)] (yne a0 a1 a2 a3 a4 a5 a6)
theorem ymn:SEOk (Uni (E ef0)) (yje yll yfI yf2 ye1 yd7 ygV yc6):=yaE (Sub.uni _) ⟨(yI8 ef0 ybR),yGw,yt3,(ytW ef0 ybR),yt1,(yAz ef0 ybR),yqt,trivial⟩ trivial ybR.ok
theorem yqW (a0 a1 a2 a3 a4 a5 a6):ycr (yje a0 a1 a2 a3 a4 a5 a6) 5 a yuY false (ykY a0 a1 a2 a3 a4 a5 a6):=fun _=>⟨fun _=>by kernel_rfl,fun _ _=>by kernel_rfl,trivial⟩
theorem yqX:LpT (Uni (E ef0)) (yne yll yfI yf2 ye1 yd7 ygV yc6) [] 39523000 (.loop 39523000 yuY):=fun _ _ _=>yp8.st (Sub.uni _) (yaW (ymn) 5) (YOk.no _ _) (yar (by kernel_rfl)) (yqW _ _ _ _ _ _ _ _)
theorem yxj (a0 a1 a2 a3 a4 a5 a6):EqW (yje a0 a1 a2 a3 a4 a5 a6) 6 yos yiS (yjd a0 a1 a2 a3 a4 a5 a6):=fun _ _=>by kernel_rfl
theorem yxk:OkF (E ef0) (yiS.pw yhg) yjI:=okU ybR (yxj _ _ _ _ _ _ _) (ymn) yp9.flat (ybg (l:=[(39523000,.loop 39523000 yuY)]) ⟨yqX,trivial⟩ (by kernel_rfl))
def I64 (n:Int):Prop:=-9223372036854775808≤n∧n≤9223372036854775807
def U64 (n:Int):Prop:=0≤n∧n≤18446744073709551615
theorem yzE (n:Int):IntKind.u64.wrap n=n % 18446744073709551616:=by
 simp only [IntKind.wrap,IntKind.signed,IntKind.bits,qBb,qAs,if_false]
 rfl
theorem yPP (n:Int):IntKind.i64.wrap n=if n % 18446744073709551616≥9223372036854775808 then n % 18446744073709551616-18446744073709551616 else n % 18446744073709551616:=by
 have e1:(2:Int) ^ 64=18446744073709551616:=rfl
 have e2:(2:Int) ^ (64-1)=9223372036854775808:=rfl
 simp only [IntKind.wrap,IntKind.signed,IntKind.bits,qAz,e1,e2]
 by_cases h:n % 18446744073709551616≥9223372036854775808 <;> simp [h]
theorem wu64 {n:Int} (h:U64 n):IntKind.u64.wrap n=n:=by
 unfold U64 at h
 rw [yzE]
 omega
theorem wi64 {n:Int} (h:I64 n):IntKind.i64.wrap n=n:=by
 unfold I64 at h
 rw [yPP]
 split <;> omega
theorem yau {x y:Prop}:cbr true x y=x:=rfl
theorem yaf {x y:Prop}:cbr false x y=y:=rfl
theorem yaR {x:Prop}:asr true x=x:=rfl
theorem ykk {p:Int} (h:I64 p) (K:Int→Prop):yeY p K=K (p.natAbs:Int):=by
 unfold I64 at h
 unfold yeY ynq
 by_cases hp:p<0
 ·have e:IntKind.u64.wrap ((0:Int)-IntKind.u64.wrap p)=(p.natAbs:Int):=by
   rw [yzE,yzE]
   omega
  rw [decide_eq_true hp,yau,e]
 ·rw [decide_eq_false hp,yaf,wu64 ⟨by omega,by omega⟩]
  congr 1
  omega
theorem yHP (x:Int→Int→Bool→Prop):∀ (n a b:Nat),b<n→yf8 x n (a:Int) (b:Int)=x ((Nat.gcd a b:Nat):Int) 0 false
 | 0,a,b,h=>by omega
 | n+1,a,b,h=>by
  unfold yf8
  by_cases hb:b=0
  ·subst hb
   simp [cbr]
  ·have h1:(b:Int)>0:=by omega
   have h2:¬((b:Int)=0):=by omega
   rw [decide_eq_true h1,yau,decide_eq_false h2,qB0,yaR]
   have e:Int.tmod (a:Int) (b:Int)=((a % b:Nat):Int):=by rw [Int.tmod_eq_emod_of_nonneg (by omega)];omega
   rw [e,yHP x n b (a % b) (by have:=Nat.mod_lt a (show b>0 by omega);omega)]
   rw [Nat.gcd_comm a b,Nat.gcd_rec b a,Nat.gcd_comm]
theorem yyX (a b:Nat) (K:Int→Prop) (h:K ((Nat.gcd a b:Nat):Int)):ydh (a:Int) (b:Int) K:=by
 unfold ydh ypi
 exact ⟨b+1,by rw [yHP _ (b+1) a b (by omega)];exact h⟩
def RV (n d:Int):Prop:=1≤d∧d≤1000000000000000000∧-1000000000000000000≤n∧n≤1000000000000000000∧Nat.gcd n.natAbs d.natAbs=1
instance (n d:Int):Decidable (RV n d):=by unfold RV;infer_instance
def chk (n d:Int):Int:=if RV n d then 0 else 8
theorem yCy {n d:Int} (hn:I64 n) (hd:I64 d) {K:Int→Prop} (h:K (chk n d)):ycc n d K:=by
 unfold ycc ylJ
 by_cases h1:d<1
 ·have e:chk n d=8:=if_neg fun h=>by have:=h.1;omega
  rw [decide_eq_true h1,yau,← e];exact h
 ·have hd':=hd;have hn':=hn
  unfold I64 at hd' hn'
  have ed:IntKind.u64.wrap d=((d.natAbs:Nat):Int):=by rw [wu64 ⟨by omega,by omega⟩];omega
  rw [decide_eq_false h1,yaf,ykk hn,ed]
  by_cases h2:((if ((d.natAbs:Nat):Int)>((n.natAbs:Nat):Int) then ((d.natAbs:Nat):Int) else ((n.natAbs:Nat):Int))>1000000000000000000)
  ·have e:chk n d=8:=if_neg fun h=>by
    obtain ⟨a1,a2,a3,a4,_⟩:=h
    revert h2;split <;> omega
   rw [decide_eq_true h2,yau,← e];exact h
  ·rw [decide_eq_false h2,yaf,ykk hn]
   refine yyX _ _ _ ?_
   have h3:0<Nat.gcd n.natAbs d.natAbs:=qB2 _ (by omega)
   have h4:d≤1000000000000000000∧-1000000000000000000≤n∧n≤1000000000000000000:=by
    revert h2;split <;> omega
   by_cases h5:((Nat.gcd n.natAbs d.natAbs:Nat):Int)>1
   ·have e:chk n d=8:=if_neg fun h=>by have:=h.2.2.2.2;omega
    rw [decide_eq_true h5,yau,← e];exact h
   ·have e:chk n d=0:=if_pos ⟨by omega,h4.1,h4.2.1,h4.2.2,by omega⟩
    rw [decide_eq_false h5,yaf,← e];exact h
theorem yCz {p:Int} (h:U64 p):IntKind.u64.wrap (BitVec.ofInt IntKind.u64.bits p&&&BitVec.ofInt IntKind.u64.bits (4294967295:Int)).toNat=p % 4294967296:=by
 unfold U64 at h
 have e1:(BitVec.ofInt 64 p).toNat=p.toNat:=by
  rw [BitVec.toNat_ofInt];omega
 have e2:(BitVec.ofInt 64 (4294967295:Int)).toNat=4294967295:=rfl
 have e3:(BitVec.ofInt IntKind.u64.bits p&&&BitVec.ofInt IntKind.u64.bits (4294967295:Int)).toNat=p.toNat % 4294967296:=by
  show (BitVec.ofInt 64 p&&&BitVec.ofInt 64 (4294967295:Int)).toNat=_
  rw [BitVec.toNat_and,e1,e2]
  exact Nat.and_two_pow_sub_one_eq_mod p.toNat 32
 rw [e3,yzE]
 omega
theorem yPi (p:Int):Int.fdiv p 4294967296=p / 4294967296:=by
 rw [Int.fdiv_eq_ediv_of_nonneg _ (by omega)]
theorem ymo {a b:Int} (ha:U64 a) (hb:U64 b) (K:Int→Int→Prop):yg6 a b K=K (a*b / 18446744073709551616) (a*b % 18446744073709551616):=by
 unfold yg6 yu3
 simp only [yPi]
 rw [yCz ha,yCz hb]
 unfold U64 at ha hb
 have ha':=ha;have hb':=hb
 obtain ⟨x1,hx1⟩:∃ x,x=a / 4294967296:=⟨_,rfl⟩
 obtain ⟨x0,hx0⟩:∃ x,x=a % 4294967296:=⟨_,rfl⟩
 obtain ⟨y1,hy1⟩:∃ x,x=b / 4294967296:=⟨_,rfl⟩
 obtain ⟨y0,hy0⟩:∃ x,x=b % 4294967296:=⟨_,rfl⟩
 rw [← hx1,← hx0,← hy1,← hy0]
 have b1:0≤x1∧x1≤4294967295:=by omega
 have b2:0≤x0∧x0≤4294967295:=by omega
 have b3:0≤y1∧y1≤4294967295:=by omega
 have b4:0≤y0∧y0≤4294967295:=by omega
 have pb:∀ x y:Int,0≤x∧x≤4294967295→0≤y∧y≤4294967295→0≤x*y∧x*y≤18446744065119617025:=by
  intro x y hx hy
  refine ⟨qBj hx.1 hy.1,?_⟩
  have:=qBk hx.2 hy.2 hy.1 (by omega:(0:Int)≤4294967295)
  omega
 have p1:=pb x1 y1 b1 b3
 have p2:=pb x1 y0 b1 b4
 have p3:=pb x0 y1 b2 b3
 have p4:=pb x0 y0 b2 b4
 have ea:a=x1*4294967296+x0:=by omega
 have eb:b=y1*4294967296+y0:=by omega
 have eab:a*b=x1*y1*18446744073709551616+x1*y0*4294967296+x0*y1*4294967296+x0*y0:=by
  rw [ea,eb];grind
 obtain ⟨P,hP⟩:∃ x,x=x1*y1:=⟨_,rfl⟩
 obtain ⟨Q,hQ⟩:∃ x,x=x1*y0:=⟨_,rfl⟩
 obtain ⟨R,hR⟩:∃ x,x=x0*y1:=⟨_,rfl⟩
 obtain ⟨S,hS⟩:∃ x,x=x0*y0:=⟨_,rfl⟩
 rw [← hP] at p1;rw [← hQ] at p2;rw [← hR] at p3;rw [← hS] at p4
 rw [← hP,← hQ,← hR,← hS] at eab ⊢
 have w1:IntKind.u64.wrap S=S:=wu64 ⟨by omega,by omega⟩
 have w2:IntKind.u64.wrap Q=Q:=wu64 ⟨by omega,by omega⟩
 have w3:IntKind.u64.wrap R=R:=wu64 ⟨by omega,by omega⟩
 have w4:IntKind.u64.wrap P=P:=wu64 ⟨by omega,by omega⟩
 rw [w1,w2,w3,w4]
 have w5:IntKind.u64.wrap (Q+S / 4294967296)=Q+S / 4294967296:=wu64 ⟨by omega,by omega⟩
 rw [w5,yCz ⟨by omega,by omega⟩]
 have w6:IntKind.u64.wrap ((Q+S / 4294967296) % 4294967296+R)=(Q+S / 4294967296) % 4294967296+R:=wu64 ⟨by omega,by omega⟩
 rw [w6]
 have w7:IntKind.u64.wrap (P+(Q+S / 4294967296) / 4294967296)=P+(Q+S / 4294967296) / 4294967296:=by
  have:a*b / 18446744073709551616≤18446744073709551615:=by
   have h1:a*b≤18446744073709551615*18446744073709551615:=by
    have:=qBk ha'.2 hb'.2 hb'.1 (by omega:(0:Int)≤18446744073709551615)
    exact this
   omega
  exact wu64 ⟨by omega,by omega⟩
 rw [w7]
 have hab:a*b≤18446744073709551615*18446744073709551615:=qBk ha'.2 hb'.2 hb'.1 (by omega:(0:Int)≤18446744073709551615)
 rw [eab] at hab ⊢
 rw [yzE,yzE]
 congr 1
 omega
theorem yPj {a b:Int} {K:Int→Prop} (h:K (if a=0 then b else a)):yfR [.int .i64 a,.int .i64 b] K:=by
 unfold yfR yhr
 refine ⟨3,?_⟩
 have e1:IntKind.i64.wrap 1=1:=by decide
 have e2:IntKind.i64.wrap 2=2:=by decide
 by_cases ha:a=0
 ·by_cases hb:b=0
  ·simp [ycB,yau,yaf,yaR,conf,yp7,yaa,e1,e2,ha,hb] at h ⊢;exact h
  ·have e3:(b != 0)=true:=by simpa using hb
   simp [ycB,yau,yaf,yaR,conf,yp7,yaa,e1,e2,ha,e3] at h ⊢;exact h
 ·have e3:(a != 0)=true:=by simpa using ha
  simp [ycB,yau,yaf,yaR,conf,yp7,yaa,e1,e2,ha,e3] at h ⊢;exact h
def chk2 (a b c d:Int):Int:=if chk a b=0 then chk c d else chk a b
theorem ysn {a b c d:Int} (ha:I64 a) (hb:I64 b) (hc:I64 c) (hd:I64 d) {K:Int→Prop} (h:K (chk2 a b c d)):yed a b c d K:=by
 unfold yed ylK
 exact yCy ha hb (yCy hc hd (yPj h))
def cmp3 (a b:Int):Int:=if a<b then -1 else if a>b then 1 else 0
theorem yGx (a b:Int) (K:Int→Prop):yfh a b K=K (cmp3 a b):=by
 unfold yfh ygL
 simp only [yiM,yhX,bne_self_eq_false,yaf,cmp3]
 by_cases h:a<b
 ·simp [h,yau]
 ·by_cases h2:a>b
  ·simp [h,h2,yau,yaf]
  ·simp [h,h2,yaf]
theorem yxl (a b:Int) (K:Int→Prop):yeZ a b K=K (cmp3 a b):=by
 unfold yeZ ygj
 simp only [yhY,yht,bne_self_eq_false,yaf,cmp3]
 by_cases h:a<b
 ·simp [h,yau]
 ·by_cases h2:a>b
  ·simp [h,h2,yau,yaf]
  ·simp [h,h2,yaf]
theorem yN4 {a b:Int} {K:Int→Prop} (h:K (if a=0 then b else a)):ylb [.int .i64 a,.int .i64 b] K:=by
 unfold ylb ynr
 refine ⟨3,?_⟩
 have e1:IntKind.i64.wrap 1=1:=by decide
 have e2:IntKind.i64.wrap 2=2:=by decide
 by_cases ha:a=0
 ·by_cases hb:b=0
  ·simp [yek,yau,yaf,yaR,conf,yp7,yaa,e1,e2,ha,hb] at h ⊢;exact h
  ·have e3:(b != 0)=true:=by simpa using hb
   simp [yek,yau,yaf,yaR,conf,yp7,yaa,e1,e2,ha,e3] at h ⊢;exact h
 ·have e3:(a != 0)=true:=by simpa using ha
  simp [yek,yau,yaf,yaR,conf,yp7,yaa,e1,e2,ha,e3] at h ⊢;exact h
theorem yeL {a b c d:Int}:chk2 a b c d=0↔RV a b∧RV c d:=by
 unfold chk2 chk
 by_cases h1:RV a b <;> by_cases h2:RV c d <;> simp [h1,h2]
def cmpR (a b c d:Int):Int:=cmp3 (a*d) (c*b)
theorem yLl {x y:Int} (hx:0≤x) (hy:0≤y):(if cmp3 (x / 18446744073709551616) (y / 18446744073709551616)=0 then cmp3 (x % 18446744073709551616) (y % 18446744073709551616) else cmp3 (x / 18446744073709551616) (y / 18446744073709551616))=cmp3 x y:=by
 unfold cmp3
 split <;> rename_i h <;> revert h <;> repeat' split <;> intro h <;> omega
theorem U64.abs {n:Int} (h:I64 n):U64 ((n.natAbs:Nat):Int):=by unfold I64 at h;unfold U64;omega
theorem yMw {a b c d:Int} (ha:I64 a) (hb:I64 b) (hc:I64 c) (hd:I64 d) {K:Int→Int→Prop} (h:K (if chk2 a b c d=0 then cmpR a b c d else 0) (chk2 a b c d)):ycs a b c d K:=by
 unfold ycs ypn
 refine ysn ha hb hc hd ?_
 by_cases hk:chk2 a b c d=0
 ·rw [if_pos hk] at h
  rw [hk] at h ⊢
  obtain ⟨⟨b1,b2,a1,a2,_⟩,d1,d2,c1,c2,_⟩:=yeL.1 hk
  simp only [bne_self_eq_false,yaf]
  by_cases hs:decide (a<0)=decide (c<0)
  ·have e:(decide (a<0) != decide (c<0))=false:=by rw [hs];simp
   rw [e,yaf,ykk ha,wu64 ⟨by omega,by omega⟩,ymo (U64.abs ha) ⟨by omega,by omega⟩,ykk hc,wu64 ⟨by omega,by omega⟩,ymo (U64.abs hc) ⟨by omega,by omega⟩,yxl,yxl]
   refine yN4 ?_
   have p1:0≤((a.natAbs:Nat):Int)*d:=qBj (by omega) (by omega)
   have p2:0≤((c.natAbs:Nat):Int)*b:=qBj (by omega) (by omega)
   rw [yLl p1 p2]
   by_cases hneg:a<0
   ·have hcn:c<0:=by simpa [hneg] using hs.symm
    rw [decide_eq_true hneg,yau]
    have e1:((a.natAbs:Nat):Int)*d=-(a*d):=by
     rw [show ((a.natAbs:Nat):Int)=-a by omega,Int.neg_mul]
    have e2:((c.natAbs:Nat):Int)*b=-(c*b):=by
     rw [show ((c.natAbs:Nat):Int)=-c by omega,Int.neg_mul]
    have e3:IntKind.i64.wrap (0-cmp3 (((a.natAbs:Nat):Int)*d) (((c.natAbs:Nat):Int)*b))=cmpR a b c d:=by
     rw [e1,e2]
     unfold cmpR cmp3
     rw [wi64 (by unfold I64;repeat' split <;> omega)]
     repeat' split <;> omega
    rw [e3];exact h
   ·have hcn:¬c<0:=by simpa [hneg] using hs.symm
    rw [decide_eq_false hneg,yaf,show ((a.natAbs:Nat):Int)=a by omega,show ((c.natAbs:Nat):Int)=c by omega]
    exact h
  ·have e:(decide (a<0) != decide (c<0))=true:=by simpa using hs
   rw [e,yau,yGx]
   have e2:cmp3 a c=cmpR a b c d:=by
    unfold cmpR cmp3
    by_cases hneg:a<0
    ·have hcn:¬c<0:=by intro hcn;simp [hneg,hcn] at hs
     have q1:a*d<0:=Int.mul_neg_of_neg_of_pos hneg (by omega)
     have q2:0≤c*b:=qBj (by omega) (by omega)
     rw [if_pos (by omega),if_pos (by omega)]
    ·have hcn:c<0:=by
      by_cases hcn:c<0
      ·exact hcn
      ·simp [hneg,hcn] at hs
     have q1:c*b<0:=Int.mul_neg_of_neg_of_pos hcn (by omega)
     have q2:0≤a*d:=qBj (by omega) (by omega)
     rw [if_neg (by omega),if_pos (by omega),if_neg (by omega),if_pos (by omega)]
   rw [e2];exact h
 ·rw [if_neg hk] at h
  have e:(chk2 a b c d != 0)=true:=by simpa using hk
  rw [e,yau];exact h
def blen (x:Nat):Nat:=if x=0 then 0 else x.log2+1
theorem yJX (x:Nat):x<2 ^ blen x:=by
 unfold blen
 split
 ·rename_i h;subst h;decide
 ·exact Nat.lt_log2_self
theorem yAI {x:Nat} (h:x≠0):2 ^ (blen x-1)≤x:=by
 unfold blen
 rw [if_neg h]
 exact Nat.log2_self_le h
theorem yN5 {x m:Nat} (h1:2 ^ m≤x) (h2:x<2 ^ (m+1)):blen x=m+1:=by
 have hx:x≠0:=by have:=Nat.two_pow_pos m;omega
 unfold blen
 rw [if_neg hx]
 congr 1
 have a:=Nat.log2_self_le hx
 have b:=Nat.lt_log2_self (n:=x)
 have c1:¬(x.log2<m):=fun h=>by
  have:=Nat.pow_le_pow_right (show 0<2 by omega) (show x.log2+1≤m by omega)
  omega
 have c2:¬(m<x.log2):=fun h=>by
  have:=Nat.pow_le_pow_right (show 0<2 by omega) (show m+1≤x.log2 by omega)
  omega
 omega
theorem yMx {x k:Nat} (h:2 ^ k≤x):blen x=k+blen (x / 2 ^ k):=by
 have hp:=Nat.two_pow_pos k
 have hq:x / 2 ^ k≠0:=by
  have:=Nat.div_pos h hp
  omega
 have h1:=yAI hq
 have h2:=yJX (x / 2 ^ k)
 obtain ⟨m,hm⟩:∃ m,blen (x / 2 ^ k)=m+1:=⟨blen (x / 2 ^ k)-1,by
  have:blen (x / 2 ^ k)≠0:=by unfold blen;rw [if_neg hq];omega
  omega⟩
 rw [hm] at h1 h2 ⊢
 rw [Nat.add_sub_cancel] at h1
 have:=yN5 (x:=x) (m:=k+m) (by
   rw [Nat.pow_add]
   calc 2 ^ k*2 ^ m≤2 ^ k*(x / 2 ^ k):=Nat.mul_le_mul_left _ h1
    _≤x:=Nat.mul_div_le _ _) (by
   rw [show k+m+1=k+(m+1) by omega,Nat.pow_add]
   rw [Nat.mul_comm]
   exact (Nat.div_lt_iff_lt_mul hp).1 h2)
 omega
theorem yPk:∀ x:Nat,x<256→yaa (List.getD yiw x .nils)=(blen x:Int):=by decide +kernel
theorem wu8 {n:Int} (h0:0≤n) (h1:n<256):IntKind.u8.wrap n=n:=by
 have e1:(2:Int) ^ 8=256:=rfl
 simp only [IntKind.wrap,IntKind.signed,IntKind.bits,qBb,qAs,if_false,e1]
 omega
theorem yN6 {n:Int} (h0:0≤n) (h1:n<256):yaa (List.getD yiw (IntKind.u8.wrap n).toNat .nils)=(blen n.toNat:Int):=by
 rw [wu8 h0 h1]
 exact yPk n.toNat (by omega)
theorem yPQ {n:Nat} (h:n<256):blen n≤8:=by
 by_cases h0:n=0
 ·subst h0;decide
 ·have:=yAI h0
  have h2:blen n-1<8:=by
   refine Nat.lt_of_not_le fun hc=>?_
   have:=Nat.pow_le_pow_right (show 0<2 by omega) hc
   omega
  omega
theorem yzF {n k:Int} (h0:0≤n) (h1:n<256) (hk:0≤k∧k≤56) {m:Int} (hm:m=k+blen n.toNat) {K:Int→Prop} (h:K m) :
  asr (decide ((0:Int)≤(IntKind.u8.wrap n))) (asr (decide ((IntKind.u8.wrap n)<(256:Int))) (K (IntKind.i64.wrap (k+(IntKind.i64.wrap (yaa (List.getD yiw ((IntKind.u8.wrap n).toNat) .nils))))))):=by
 have hb:=yPQ (n:=n.toNat) (by omega)
 have e1:IntKind.i64.wrap (blen n.toNat:Int)=blen n.toNat:=wi64 (by unfold I64;omega)
 have e2:IntKind.i64.wrap (k+blen n.toNat:Int)=k+blen n.toNat:=wi64 (by unfold I64;omega)
 rw [yN6 h0 h1,wu8 h0 h1,decide_eq_true h0,yaR,decide_eq_true h1,yaR,e1,e2,← hm]
 exact h
theorem yCA (p q:Int) (hq:0≤q):Int.fdiv p q=p / q:=Int.fdiv_eq_ediv_of_nonneg _ hq
theorem yMy {p:Int} (hp:U64 p) {K:Int→Prop} (h:K (blen p.toNat:Int)):ysM p K:=by
 unfold U64 at hp
 unfold ysM yu9
 simp only [yCA _ 4294967296 (by omega),yCA _ 65536 (by omega),yCA _ 256 (by omega)]
 have key:∀ (k:Nat) (q:Int),2 ^ k≤p.toNat→q=p / (2 ^ k:Nat)→(blen p.toNat:Int)=k+blen q.toNat:=by
  intro k q hk hq
  have e:q.toNat=p.toNat / 2 ^ k:=by
   rw [hq]
   obtain ⟨m,rfl⟩:∃ m:Nat,p=m:=⟨p.toNat,by omega⟩
   rw [← qBx,qAe,qAe]
  rw [e]
  have:=yMx hk
  omega
 by_cases h1:p≥4294967296
 ·rw [decide_eq_true h1,yau]
  by_cases h2:p / 4294967296≥65536
  ·rw [decide_eq_true h2,yau]
   by_cases h3:p / 4294967296 / 65536≥256
   ·rw [decide_eq_true h3,yau]
    exact yzF (by omega) (by omega) (by omega) (key 56 _ (by omega) (by omega)) h
   ·rw [decide_eq_false h3,yaf]
    exact yzF (by omega) (by omega) (by omega) (key 48 _ (by omega) (by omega)) h
  ·rw [decide_eq_false h2,yaf]
   by_cases h3:p / 4294967296≥256
   ·rw [decide_eq_true h3,yau]
    exact yzF (by omega) (by omega) (by omega) (key 40 _ (by omega) (by omega)) h
   ·rw [decide_eq_false h3,yaf]
    exact yzF (by omega) (by omega) (by omega) (key 32 _ (by omega) (by omega)) h
 ·rw [decide_eq_false h1,yaf]
  by_cases h2:p≥65536
  ·rw [decide_eq_true h2,yau]
   by_cases h3:p / 65536≥256
   ·rw [decide_eq_true h3,yau]
    exact yzF (by omega) (by omega) (by omega) (key 24 _ (by omega) (by omega)) h
   ·rw [decide_eq_false h3,yaf]
    exact yzF (by omega) (by omega) (by omega) (key 16 _ (by omega) (by omega)) h
  ·rw [decide_eq_false h2,yaf]
   by_cases h3:p≥256
   ·rw [decide_eq_true h3,yau]
    exact yzF (by omega) (by omega) (by omega) (key 8 _ (by omega) (by omega)) h
   ·rw [decide_eq_false h3,yaf]
    exact yzF (by omega) (by omega) (by omega) (by simp) h
theorem yxm {p:Int} (hp:U64 p) {K:Int→Prop} (h:K (64-blen p.toNat:Int)):yct p K:=by
 unfold yct yhu
 refine yMy hp ?_
 have hb:blen p.toNat≤64:=by
  unfold U64 at hp
  by_cases h0:p.toNat=0
  ·rw [h0];decide
  ·have:=yAI h0
   have h2:blen p.toNat-1<64:=by
    refine Nat.lt_of_not_le fun hc=>?_
    have:=Nat.pow_le_pow_right (show 0<2 by omega) hc
    omega
   omega
 rw [wi64 (by unfold I64;omega)]
 exact h
structure DI (y a b u un q r:Int):Prop where
 hy:y=a*4294967296+b
 h1:2147483648≤a∧a≤4294967295
 h0:0≤b∧b≤4294967295
 hn:0≤un∧un≤4294967295
 hu:q*a+r=u
 hq:0≤q∧q≤4294967297
 hr:0≤r∧r≤4294967295
 hlt:u<y
 hU:u*4294967296+un<(q+1)*y
def DG (y u un q:Int):Prop:=0≤q∧q≤4294967295∧q*y≤u*4294967296+un∧u*4294967296+un<(q+1)*y
theorem DI.step {y a b u un q r:Int} (h:DI y a b u un q r) {A B C:Prop}
  (hA:DG y u un (q-1)→0≤q-1→q-1≤4294967296→A)
  (hB:DI y a b u un (q-1) (r+a)→B)
  (hC:DG y u un q→C) :
  cbr (decide (q≥(4294967296:Int)))
   (cbr (decide ((IntKind.u64.wrap (r+a))≥(4294967296:Int))) A B)
   (cbr (decide ((IntKind.u64.wrap (q*b))>(IntKind.u64.wrap ((IntKind.u64.wrap ((4294967296:Int)*r))+un))))
    (cbr (decide ((IntKind.u64.wrap (r+a))≥(4294967296:Int))) A B) C):=by
 have h':=h
 obtain ⟨hy,h1,h0,hn,hu,hq,hr,hlt,hU⟩:=h
 have e1:IntKind.u64.wrap (r+a)=r+a:=wu64 ⟨by omega,by omega⟩
 have eq1:q*y=q*a*4294967296+q*b:=by rw [hy];grind
 have eq2:(q-1)*y=q*y-y:=by grind
 have eq3:(q-1)*a=q*a-a:=by grind
 have eq4:(q-1+1)*y=q*y:=by grind
 have eq5:(q-1)*b=q*b-b:=by grind
 have big:u*4294967296+un<q*y→cbr (decide ((IntKind.u64.wrap (r+a))≥(4294967296:Int))) A B:=by
  intro hb
  have q1:0≤q-1:=by
   refine Int.not_lt.1 fun hc=>?_
   have hq0:q=0:=by omega
   subst hq0
   simp at hb hu
   omega
  rw [e1]
  by_cases hc:r+a≥4294967296
  ·rw [decide_eq_true hc,yau]
   have hp:(q-1)*b≤4294967296*4294967295:=qBk (by omega) h0.2 h0.1 (by omega)
   have hle:(q-1)*y≤u*4294967296+un:=by
    have:(q-1)*y=(q-1)*a*4294967296+(q-1)*b:=by rw [hy];grind
    omega
   have hlt32:q-1≤4294967295:=by
    refine Int.not_lt.1 fun hc=>?_
    have:4294967296*y≤(q-1)*y:=qBh (by omega) (by omega)
    omega
   exact hA ⟨q1,hlt32,hle,by rw [eq4];exact hb⟩ q1 (by omega)
  ·rw [decide_eq_false hc,yaf]
   exact hB ⟨hy,h1,h0,hn,by rw [eq3];omega,⟨q1,by omega⟩,⟨by omega,by omega⟩,hlt,by rw [eq4];exact hb⟩
 by_cases ha:q≥4294967296
 ·rw [decide_eq_true ha,yau]
  refine big ?_
  have:4294967296*y≤q*y:=qBh (by omega) (by omega)
  omega
 ·rw [decide_eq_false ha,yaf]
  have hp:q*b≤4294967295*4294967295:=qBk (by omega) h0.2 h0.1 (by omega)
  have hp0:0≤q*b:=qBj hq.1 h0.1
  have w1:IntKind.u64.wrap (q*b)=q*b:=wu64 ⟨hp0,by omega⟩
  have w2:IntKind.u64.wrap ((4294967296:Int)*r)=4294967296*r:=wu64 ⟨by omega,by omega⟩
  have w3:IntKind.u64.wrap ((4294967296:Int)*r+un)=4294967296*r+un:=wu64 ⟨by omega,by omega⟩
  rw [w1,w2,w3]
  by_cases hb:q*b>4294967296*r+un
  ·rw [decide_eq_true hb,yau]
   exact big (by omega)
  ·rw [decide_eq_false hb,yaf]
   exact hC ⟨hq.1,by omega,by omega,hU⟩
theorem yPR (W:Int→(Int→Prop)→Prop) {y a c u un:Int} (s v un0:Int) {x0 x1:Int→Int→Int→Int→Int→Int→Int→Int→Int→Bool→Prop}
  (hx:∀ q r b,DG y u un q→x0 y s a c v un un0 q r b) (hx1:∀ q r b,DG y u un q→x1 y s a c v un un0 q r b) :
  ∀ (n:Nat) (q r:Int) (b:Bool),DI y a c u un q r→4294967296≤r+n*2147483648→yee W x0 x1 (n+1) y s a c v un un0 q r b:=by
 intro n
 induction n with
 | zero =>
  intro q r b h hn
  have:=h.hr.2
  exact absurd hn (by omega)
 | succ n ih =>
  intro q r b h hn
  unfold yee
  refine h.step (fun g a1 a2=>?_) (fun g=>?_) (fun g=>hx1 _ _ _ g)
  ·rw [wu64 (n:=q-1) ⟨by omega,by omega⟩]
   exact hx _ _ _ g
  ·have e1:IntKind.u64.wrap (q-1)=q-1:=wu64 ⟨g.hq.1,by have:=g.hq.2;omega⟩
   have e2:IntKind.u64.wrap (r+a)=r+a:=wu64 ⟨g.hr.1,by have:=g.hr.2;omega⟩
   rw [e1,e2]
   exact ih _ _ _ g (by have:=h.h1.1;omega)
theorem yPS (W:Int→(Int→Prop)→Prop) {y a c u un:Int} (s q1 v:Int) {x0 x1:Int→Int→Int→Int→Int→Int→Int→Int→Int→Bool→Prop}
  (hx:∀ q r b,DG y u un q→x0 y s a c un q1 r v q b) (hx1:∀ q r b,DG y u un q→x1 y s a c un q1 r v q b) :
  ∀ (n:Nat) (q r:Int) (b:Bool),DI y a c u un q r→4294967296≤r+n*2147483648→yef W x0 x1 (n+1) y s a c un q1 r v q b:=by
 intro n
 induction n with
 | zero =>
  intro q r b h hn
  have:=h.hr.2
  exact absurd hn (by omega)
 | succ n ih =>
  intro q r b h hn
  unfold yef
  refine h.step (fun g a1 a2=>?_) (fun g=>?_) (fun g=>hx1 _ _ _ g)
  ·rw [wu64 (n:=q-1) ⟨by omega,by omega⟩]
   exact hx _ _ _ g
  ·have e1:IntKind.u64.wrap (q-1)=q-1:=wu64 ⟨g.hq.1,by have:=g.hq.2;omega⟩
   have e2:IntKind.u64.wrap (r+a)=r+a:=wu64 ⟨g.hr.1,by have:=g.hr.2;omega⟩
   rw [e1,e2]
   exact ih _ _ _ g (by have:=h.h1.1;omega)
theorem yPl (W:Int→(Int→Prop)→Prop) {y a c u un:Int} (s v un0:Int) {x0 x1:Int→Int→Int→Int→Int→Int→Int→Int→Int→Bool→Prop}
  (hx:∀ q r b,DG y u un q→x0 y s a c v un un0 q r b) (hx1:∀ q r b,DG y u un q→x1 y s a c v un un0 q r b) (q r:Int) (h:DI y a c u un q r):yke W x0 x1 3 y s a c v un un0 q r:=by
 have:=yPR W s v un0 hx hx1 2 q r true h (by have:=h.hr.1;omega)
 unfold yee at this
 unfold yke
 exact this
theorem yPm (W:Int→(Int→Prop)→Prop) {y a c u un:Int} (s q1 v:Int) {x0 x1:Int→Int→Int→Int→Int→Int→Int→Int→Int→Bool→Prop}
  (hx:∀ q r b,DG y u un q→x0 y s a c un q1 r v q b) (hx1:∀ q r b,DG y u un q→x1 y s a c un q1 r v q b) (q r:Int) (h:DI y a c u un q r):yge W x0 x1 3 y s a c un q1 r v q:=by
 have:=yPS W s q1 v hx hx1 2 q r true h (by have:=h.hr.1;omega)
 unfold yef at this
 unfold yge
 exact this
theorem DI.init {y a b u un:Int} (hy:y=a*4294967296+b) (h1:2147483648≤a∧a≤4294967295) (h0:0≤b∧b≤4294967295) (hn:0≤un∧un≤4294967295)
  (hu:0≤u) (hlt:u<y):DI y a b u un (u / a) (u-u / a*a):=by
 have a1:=Int.mul_ediv_add_emod u a
 have a2:=Int.emod_nonneg u (show a≠0 by omega)
 have a3:=Int.emod_lt_of_pos u (show 0<a by omega)
 have a4:u / a*a=a*(u / a):=Int.mul_comm _ _
 have a5:0≤u / a:=Int.ediv_nonneg hu (by omega)
 have a6:u / a≤4294967297:=by
  refine Int.not_lt.1 fun hc=>?_
  have:a*4294967298≤a*(u / a):=Int.mul_le_mul_of_nonneg_left (by omega) (by omega)
  omega
 refine ⟨hy,h1,h0,hn,by omega,⟨a5,a6⟩,⟨by omega,by omega⟩,hlt,?_⟩
 have e:(u / a+1)*y=a*(u / a)*4294967296+a*4294967296+(u / a+1)*b:=by
  obtain ⟨t,ht⟩:∃ t,t=u / a:=⟨_,rfl⟩
  rw [← ht,hy];grind
 have:0≤(u / a+1)*b:=qBj (by omega) h0.1
 omega
theorem yPT {a b:Int} {k:Nat} (ha:0≤a) (hb:0≤b∧b<2 ^ k) (hab:a*2 ^ k≤18446744073709551615∧b≤18446744073709551615) (hs:a*2 ^ k+b≤18446744073709551615) :
  IntKind.u64.wrap (BitVec.ofInt IntKind.u64.bits (a*2 ^ k)|||BitVec.ofInt IntKind.u64.bits b).toNat=a*2 ^ k+b:=by
 obtain ⟨x,rfl⟩:∃ x:Nat,a=x:=⟨a.toNat,by omega⟩
 obtain ⟨z,rfl⟩:∃ z:Nat,b=z:=⟨b.toNat,by omega⟩
 have ec:((x:Int)*2 ^ k)=((2 ^ k*x:Nat):Int):=by push_cast;exact Int.mul_comm _ _
 rw [ec] at hab hs ⊢
 have hz:z<2 ^ k:=by have:=hb.2;exact_mod_cast this
 have e:(BitVec.ofInt IntKind.u64.bits ((2 ^ k*x:Nat):Int)|||BitVec.ofInt IntKind.u64.bits (z:Int)).toNat=2 ^ k*x+z:=by
  show (BitVec.ofInt 64 ((2 ^ k*x:Nat):Int)|||BitVec.ofInt 64 (z:Int)).toNat=_
  rw [BitVec.toNat_or,BitVec.toNat_ofInt,BitVec.toNat_ofInt]
  have e1:(((2 ^ k*x:Nat):Int) % (2 ^ 64:Nat)).toNat=2 ^ k*x:=by omega
  have e2:((z:Int) % (2 ^ 64:Nat)).toNat=z:=by omega
  rw [e1,e2,Nat.two_pow_add_eq_or_of_lt hz]
 rw [e,wu64 ⟨by omega,by omega⟩]
 push_cast;rfl
theorem yJY {u un q y:Int} (h0:0≤u*4294967296+un-q*y) (h1:u*4294967296+un-q*y≤18446744073709551615) :
  IntKind.u64.wrap (IntKind.u64.wrap (IntKind.u64.wrap (u*4294967296)+un)-IntKind.u64.wrap (q*y))=u*4294967296+un-q*y:=by
 simp only [yzE]
 omega
theorem yoZ {a b:Int} (h:0≤a):Int.tdiv a b=a / b:=Int.tdiv_eq_ediv_of_nonneg h
theorem yOI {a b:Int} (h:0≤a):Int.tmod a b=a % b:=Int.tmod_eq_emod_of_nonneg h
theorem yHQ {h l y:Int} (hh:U64 h) (hl:U64 l) (hy:U64 y) (hlt:h<y) {K:Int→Int→Prop}
  (k:K ((h*18446744073709551616+l) / y) ((h*18446744073709551616+l) % y)):yid h l y K:=by
 unfold U64 at hh hl hy
 unfold yid yva
 have b1:(y ==(0:Int))=false:=beq_eq_false_iff_ne.2 (by omega)
 have b2:decide (y≤h)=false:=decide_eq_false (by omega)
 have b3:(!(decide (y=(0:Int))))=true:=by rw [decide_eq_false (by omega)];rfl
 rw [b1,yaf,b2,yaf,b3]
 by_cases h0:h=0
 ·subst h0
  have:((0:Int) == 0)=true:=rfl
  rw [this,yau,yaR,yaR,yoZ hl.1,yOI hl.1]
  have e:(0:Int)*18446744073709551616+l=l:=by omega
  rw [e] at k
  have b4:l / y≤l:=Int.ediv_le_self _ hl.1
  rw [wu64 ⟨Int.ediv_nonneg hl.1 (by omega),by omega⟩]
  exact k
 ·have b4:(h ==(0:Int))=false:=beq_eq_false_iff_ne.2 h0
  rw [b4,yaf]
  refine yxm ⟨by omega,by omega⟩ ?_
  have hyn:y.toNat≠0:=by omega
  have c1:=yJX y.toNat
  have c2:=yAI hyn
  have c3:blen y.toNat≤64:=by
   refine Nat.le_of_not_lt fun hc=>?_
   have:=Nat.pow_le_pow_right (show 0<2 by omega) (show 64≤blen y.toNat-1 by omega)
   omega
  have c4:1≤blen y.toNat:=by
   refine Nat.le_of_not_lt fun hc=>?_
   have:blen y.toNat=0:=by omega
   rw [this] at c1
   omega
  obtain ⟨m,hm⟩:∃ m,m=64-blen y.toNat:=⟨_,rfl⟩
  have es:(64-(blen y.toNat:Int))=(m:Int):=by omega
  rw [es]
  have m63:m≤63:=by omega
  have e1:IntKind.u64.wrap (m:Int)=m:=wu64 ⟨by omega,by omega⟩
  have e2:IntKind.u64.wrap ((64:Int)-m)=((64-m:Nat):Int):=by
   rw [wu64 ⟨by omega,by omega⟩];omega
  have e3:min ((m:Int)).toNat IntKind.u64.bits=m:=by
   show min ((m:Int)).toNat 64=m
   rw [qAe];omega
  have e4:min (((64-m:Nat):Int)).toNat IntKind.u64.bits=64-m:=by
   show min (((64-m:Nat):Int)).toNat 64=64-m
   rw [qAe];omega
  simp only [e1]
  rw [e2,e3,e4]
  have p64:(2:Int) ^ (64-m)*2 ^ m=18446744073709551616:=by
   rw [← Int.pow_add,show 64-m+m=64 by omega];rfl
  have p63:(2:Int) ^ (63-m)*2 ^ m=9223372036854775808:=by
   rw [← Int.pow_add,show 63-m+m=63 by omega];rfl
  have tp:(0:Int)<2 ^ m:=Int.pow_pos (by omega)
  have tp':(0:Int)<2 ^ (64-m):=Int.pow_pos (by omega)
  have y1:y<(2:Int) ^ (64-m):=by
   have:blen y.toNat=64-m:=by omega
   rw [this] at c1
   have c1':((y.toNat:Nat):Int)<((2 ^ (64-m):Nat):Int):=by exact_mod_cast c1
   push_cast at c1'
   omega
  have y2:(2:Int) ^ (63-m)≤y:=by
   have:blen y.toNat-1=63-m:=by omega
   rw [this] at c2
   have c2':((2 ^ (63-m):Nat):Int)≤((y.toNat:Nat):Int):=by exact_mod_cast c2
   push_cast at c2'
   omega
  have Y1:y*2 ^ m<18446744073709551616:=by
   have:=Int.mul_lt_mul_of_pos_right y1 tp
   omega
  have Y2:9223372036854775808≤y*2 ^ m:=by
   have:=qBh y2 (show (0:Int)≤2 ^ m by omega)
   omega
  have H1:(h+1)*2 ^ m≤y*2 ^ m:=qBh (by omega) (by omega)
  have H2:(h+1)*2 ^ m=h*2 ^ m+2 ^ m:=by grind
  have H0:0≤h*2 ^ m:=qBj hh.1 (by omega)
  have fd:Int.fdiv l (2 ^ (64-m))=l / 2 ^ (64-m):=yCA _ _ (by omega)
  have L1:=Int.mul_ediv_add_emod l (2 ^ (64-m))
  have L2:=Int.emod_nonneg l (show (2:Int) ^ (64-m)≠0 by omega)
  have L3:=Int.emod_lt_of_pos l tp'
  have L4:0≤l / 2 ^ (64-m):=Int.ediv_nonneg hl.1 (by omega)
  have L5:l / 2 ^ (64-m)<2 ^ m:=by
   refine Int.ediv_lt_of_lt_mul tp' ?_
   rw [Int.mul_comm,p64];omega
  have w1:IntKind.u64.wrap (y*2 ^ m)=y*2 ^ m:=wu64 ⟨by omega,by omega⟩
  have w2:IntKind.u64.wrap (h*2 ^ m)=h*2 ^ m:=wu64 ⟨by omega,by omega⟩
  have w3:IntKind.u64.wrap (BitVec.ofInt IntKind.u64.bits (h*2 ^ m)|||BitVec.ofInt IntKind.u64.bits (l / 2 ^ (64-m))).toNat=h*2 ^ m+l / 2 ^ (64-m) :=
   yPT hh.1 ⟨L4,L5⟩ ⟨by omega,by omega⟩ (by omega)
  have w4:IntKind.u64.wrap (l*2 ^ m)=l % 2 ^ (64-m)*2 ^ m:=by
   have e:l*2 ^ m=(l / 2 ^ (64-m))*18446744073709551616+l % 2 ^ (64-m)*2 ^ m:=by
    rw [← p64]
    obtain ⟨a,ha⟩:∃ a,a=l / 2 ^ (64-m):=⟨_,rfl⟩
    obtain ⟨b,hb⟩:∃ b,b=l % 2 ^ (64-m):=⟨_,rfl⟩
    obtain ⟨t,ht⟩:∃ t,t=(2:Int) ^ m:=⟨_,rfl⟩
    obtain ⟨t',ht'⟩:∃ t,t=(2:Int) ^ (64-m):=⟨_,rfl⟩
    rw [← ha,← hb,← ht'] at L1
    rw [← ha,← hb,← ht,← ht']
    rw [← L1];grind
   have e5:l % 2 ^ (64-m)*2 ^ m<18446744073709551616:=by
    rw [← p64];exact Int.mul_lt_mul_of_pos_right L3 tp
   have e6:0≤l % 2 ^ (64-m)*2 ^ m:=qBj L2 (by omega)
   rw [e,yzE];omega
  have e5:l % 2 ^ (64-m)*2 ^ m<18446744073709551616:=by
   rw [← p64];exact Int.mul_lt_mul_of_pos_right L3 tp
  have e6:0≤l % 2 ^ (64-m)*2 ^ m:=qBj L2 (by omega)
  have eN:(h*18446744073709551616+l)*2 ^ m=(h*2 ^ m+l / 2 ^ (64-m))*18446744073709551616+l % 2 ^ (64-m)*2 ^ m:=by
   rw [← p64]
   obtain ⟨a,ha⟩:∃ a,a=l / 2 ^ (64-m):=⟨_,rfl⟩
   obtain ⟨b,hb⟩:∃ b,b=l % 2 ^ (64-m):=⟨_,rfl⟩
   obtain ⟨t,ht⟩:∃ t,t=(2:Int) ^ m:=⟨_,rfl⟩
   obtain ⟨t',ht'⟩:∃ t,t=(2:Int) ^ (64-m):=⟨_,rfl⟩
   rw [← ha,← hb,← ht'] at L1
   rw [← ha,← hb,← ht,← ht']
   rw [← L1];grind
  have U1:h*2 ^ m+l / 2 ^ (64-m)<y*2 ^ m:=by omega
  have U0:0≤h*2 ^ m+l / 2 ^ (64-m):=by omega
  rw [fd,w1,w2,w3,w4]
  have b5:(!(decide ((m:Int)<0)))=true:=by rw [decide_eq_false (by omega)];rfl
  have b6:(!(decide (((64-m:Nat):Int)<0)))=true:=by rw [decide_eq_false (by omega)];rfl
  rw [b5,b6,yaR,yaR,yaR,yaR]
  generalize h*2 ^ m+l / 2 ^ (64-m)=u at *
  generalize hl0:l % 2 ^ (64-m)*2 ^ m=v at *
  generalize hY:y*2 ^ m=Y at *
  rw [yCA Y _ (by omega),yCA v _ (by omega),yCz ⟨by omega,by omega⟩,yCz ⟨by omega,by omega⟩,yoZ U0]
  have b7:(!(decide (Y / 4294967296=(0:Int))))=true:=by rw [decide_eq_false (by omega)];rfl
  rw [b7,yaR]
  obtain ⟨c,hyn1⟩:∃ a,a=Y / 4294967296:=⟨_,rfl⟩
  obtain ⟨d,hyn0⟩:∃ a,a=Y % 4294967296:=⟨_,rfl⟩
  obtain ⟨un1,hun1⟩:∃ a,a=v / 4294967296:=⟨_,rfl⟩
  obtain ⟨un0,hun0⟩:∃ a,a=v % 4294967296:=⟨_,rfl⟩
  rw [← hyn1,← hyn0,← hun1,← hun0]
  have d1:2147483648≤c∧c≤4294967295:=by omega
  have d0:0≤d∧d≤4294967295:=by omega
  have dn1:0≤un1∧un1≤4294967295:=by omega
  have dn0:0≤un0∧un0≤4294967295:=by omega
  have dY:Y=c*4294967296+d:=by omega
  have g1:=DI.init dY d1 d0 dn1 U0 U1
  have x1:IntKind.u64.wrap (u / c)=u / c:=wu64 ⟨g1.hq.1,by have:=g1.hq.2;omega⟩
  have x2:IntKind.u64.wrap (u-IntKind.u64.wrap (u / c*c))=u-u / c*c:=by
   have r1:=g1.hr.1
   have r2:0≤u / c*c:=qBj g1.hq.1 (by omega)
   have r3:=g1.hr.2
   rw [wu64 (n:=u / c*c) ⟨r2,by omega⟩,wu64 ⟨r1,by omega⟩]
  rw [x1,x2]
  have fin:∀ q1:Int,DG Y u un1 q1→∀ (un21:Int),un21=u*4294967296+un1-q1*Y→∀ q0,DG Y un21 un0 q0 →
    K (IntKind.u64.wrap ((IntKind.u64.wrap (q1*(4294967296:Int)))+q0)) (Int.fdiv (IntKind.u64.wrap ((IntKind.u64.wrap ((IntKind.u64.wrap (un21*(4294967296:Int)))+un0))-(IntKind.u64.wrap (q0*Y)))) (2 ^ (min ((m:Int)).toNat IntKind.u64.bits))):=by
   intro q1 G1 un21 e21 q0 G0
   obtain ⟨a1,a2,a3,a4⟩:=G1
   obtain ⟨c1,c2,c3,c4⟩:=G0
   have s1:(q1+1)*Y=q1*Y+Y:=by grind
   have s0:(q0+1)*Y=q0*Y+Y:=by grind
   have w5:IntKind.u64.wrap (q1*4294967296)=q1*4294967296:=wu64 ⟨by omega,by omega⟩
   have w6:IntKind.u64.wrap (q1*4294967296+q0)=q1*4294967296+q0:=wu64 ⟨by omega,by omega⟩
   rw [yJY (by omega) (by omega),w5,w6,e3,yCA _ _ (by omega)]
   have eT:un21*4294967296+un0-q0*Y=(h*18446744073709551616+l-(q1*4294967296+q0)*y)*2 ^ m:=by
    have f1:(q1*4294967296+q0)*Y=q1*Y*4294967296+q0*Y:=by grind
    have f2:(h*18446744073709551616+l-(q1*4294967296+q0)*y)*2 ^ m=(h*18446744073709551616+l)*2 ^ m-(q1*4294967296+q0)*Y:=by
     rw [← hY,Int.sub_mul,Int.mul_assoc (q1*4294967296+q0)]
    rw [f2,f1,eN]
    omega
   rw [eT,Int.mul_ediv_cancel _ (by omega)]
   have r0:0≤h*18446744073709551616+l-(q1*4294967296+q0)*y:=by
    refine Int.not_lt.1 fun hc=>?_
    have:=Int.mul_neg_of_neg_of_pos hc tp
    omega
   have r1:h*18446744073709551616+l-(q1*4294967296+q0)*y<y:=by
    refine Int.not_le.1 fun hc=>?_
    have:=qBh hc (show (0:Int)≤2 ^ m by omega)
    omega
   obtain ⟨Q,hQ⟩:∃ Q,Q=q1*4294967296+q0:=⟨_,rfl⟩
   rw [← hQ] at r0 r1 ⊢
   have z1:(h*18446744073709551616+l) / y=Q:=by
    have:h*18446744073709551616+l=(h*18446744073709551616+l-Q*y)+Q*y:=by omega
    rw [this,Int.add_mul_ediv_right _ _ (by omega),Int.ediv_eq_zero_of_lt r0 r1];omega
   have z2:(h*18446744073709551616+l) % y=h*18446744073709551616+l-Q*y:=by
    have:=Int.mul_ediv_add_emod (h*18446744073709551616+l) y
    rw [z1,Int.mul_comm] at this
    omega
   rw [z1,z2] at k
   exact k
  have mid:∀ q:Int,DG Y u un1 q→∀ (X:Int→Int→Int→Int→Int→Int→Int→Int→Int→Bool→Prop),(∀ q0 r0 b0,DG Y (u*4294967296+un1-q*Y) un0 q0→X Y m c d un0 q r0 (u*4294967296+un1-q*Y) q0 b0) →
    asr (!(decide (c=(0:Int)))) (∃ n:Nat,yge yct X X n Y m c d un0 q ((IntKind.u64.wrap ((IntKind.u64.wrap ((IntKind.u64.wrap ((IntKind.u64.wrap (u*(4294967296:Int)))+un1))-(IntKind.u64.wrap (q*Y))))-(IntKind.u64.wrap ((IntKind.u64.wrap (Int.tdiv (IntKind.u64.wrap ((IntKind.u64.wrap ((IntKind.u64.wrap (u*(4294967296:Int)))+un1))-(IntKind.u64.wrap (q*Y)))) c))*c))))) (IntKind.u64.wrap ((IntKind.u64.wrap ((IntKind.u64.wrap (u*(4294967296:Int)))+un1))-(IntKind.u64.wrap (q*Y)))) (IntKind.u64.wrap (Int.tdiv (IntKind.u64.wrap ((IntKind.u64.wrap ((IntKind.u64.wrap (u*(4294967296:Int)))+un1))-(IntKind.u64.wrap (q*Y)))) c))):=by
   intro q G X hX
   obtain ⟨a1,a2,a3,a4⟩:=G
   have s1:(q+1)*Y=q*Y+Y:=by grind
   have b8:(!(decide (c=(0:Int))))=true:=by rw [decide_eq_false (by omega)];rfl
   rw [b8,yaR,yJY (by omega) (by omega),yoZ (by omega)]
   have g0:=DI.init dY d1 d0 dn0 (u:=u*4294967296+un1-q*Y) (by omega) (by omega)
   generalize u*4294967296+un1-q*Y=u2 at *
   have x1:IntKind.u64.wrap (u2 / c)=u2 / c:=wu64 ⟨g0.hq.1,by have:=g0.hq.2;omega⟩
   have x2:IntKind.u64.wrap (u2-IntKind.u64.wrap (u2 / c*c))=u2-u2 / c*c:=by
    have r1:=g0.hr.1
    have r2:0≤u2 / c*c:=qBj g0.hq.1 (by omega)
    have r3:=g0.hr.2
    have r4:=g0.hlt
    rw [wu64 (n:=u2 / c*c) ⟨r2,by omega⟩,wu64 ⟨r1,by omega⟩]
   rw [x1,x2]
   exact ⟨3,yPm _ _ _ _ (fun q0 r0 b0 g=>hX q0 r0 b0 g) (fun q0 r0 b0 g=>hX q0 r0 b0 g) _ _ g0⟩
  have leaf:∀ {P:Prop},P→asr (!(decide ((m:Int)<0))) P:=fun p=>by rw [b5,yaR];exact p
  refine ⟨3,yPl _ _ _ _ (fun q r b G=>?_) (fun q r b G=>?_) _ _ g1⟩
  ·exact mid q G _ (fun q0 r0 b0 G0=>leaf (fin q G _ rfl q0 G0))
  ·exact mid q G _ (fun q0 r0 b0 G0=>leaf (fin q G _ rfl q0 G0))
theorem yMz {h l y:Int} (hh:U64 h) (hl:U64 l) (hy:U64 y) (h0:0<y) {K:Int→Prop}
  (k:K ((h*18446744073709551616+l) % y)):yjN h l y K:=by
 unfold yjN yvc
 have b3:(!(decide (y=(0:Int))))=true:=by rw [decide_eq_false (by omega)];rfl
 have a1:=Int.emod_nonneg h (show y≠0 by omega)
 have a2:=Int.emod_lt_of_pos h h0
 have hh':=hh
 unfold U64 at hh hy
 rw [b3,yaR,yOI hh.1]
 refine yHQ ⟨a1,by omega⟩ hl ⟨by omega,by omega⟩ a2 ?_
 have e:(h % y*18446744073709551616+l) % y=(h*18446744073709551616+l) % y:=by
  rw [Int.add_emod,Int.mul_emod,Int.emod_emod,← Int.mul_emod,← Int.add_emod]
 rw [e]
 exact k
def outS (s:Bool) (a b:Int) (K:Int→Int→Int→Prop):Prop :=
 if a≤1000000000000000000∧b≤1000000000000000000 then K (if s then -a else a) b 0 else K 0 0 16
theorem ysN {s:Bool} {a b:Int} (ha:0≤a) (hb:0≤b) (K:Int→Int→Int→Prop):yc3 s a b K=outS s a b K:=by
 unfold yc3 ykH outS
 by_cases h:a≤1000000000000000000∧b≤1000000000000000000
 ·have e:decide ((if b>a then b else a)>(1000000000000000000:Int))=false:=by
   refine decide_eq_false ?_
   split <;> omega
  have w1:IntKind.i64.wrap a=a:=wi64 ⟨by omega,by omega⟩
  have w2:IntKind.i64.wrap b=b:=wi64 ⟨by omega,by omega⟩
  have w3:IntKind.i64.wrap (0-a)=-a:=by rw [wi64 ⟨by omega,by omega⟩];omega
  rw [e,yaf,if_pos h,w1,w2,w3]
  cases s
  ·rfl
  ·rfl
 ·have e:decide ((if b>a then b else a)>(1000000000000000000:Int))=true:=by
   refine decide_eq_true ?_
   split <;> omega
  rw [e,yau,if_neg h]
theorem Make_of {n d:Int} (hn:I64 n) (hd:I64 d) {K:Int→Int→Int→Prop}
  (k:if d=0 then K 0 0 18 else outS (decide (n<0) != decide (d<0)) ((n.natAbs / Nat.gcd n.natAbs d.natAbs:Nat):Int) ((d.natAbs / Nat.gcd n.natAbs d.natAbs:Nat):Int) K):yaA n d K:=by
 unfold yaA ynt
 by_cases h:d=0
 ·rw [if_pos h] at k
  have:(d ==(0:Int))=true:=beq_iff_eq.2 h
  rw [this,yau]
  exact k
 ·rw [if_neg h] at k
  have:(d ==(0:Int))=false:=beq_eq_false_iff_ne.2 h
  rw [this,yaf,ykk hn,ykk hd]
  refine yyX _ _ _ ?_
  have gp:0<Nat.gcd n.natAbs d.natAbs:=qB2 _ (by omega)
  have b3:(!(decide (((Nat.gcd n.natAbs d.natAbs:Nat):Int)=(0:Int))))=true:=by rw [decide_eq_false (by omega)];rfl
  unfold I64 at hn hd
  have u1:n.natAbs / Nat.gcd n.natAbs d.natAbs≤n.natAbs:=Nat.div_le_self _ _
  have u2:d.natAbs / Nat.gcd n.natAbs d.natAbs≤d.natAbs:=Nat.div_le_self _ _
  rw [b3,yaR,yaR,yoZ (by omega),yoZ (by omega),← qBx,← qBx]
  generalize n.natAbs / Nat.gcd n.natAbs d.natAbs=A at *
  generalize d.natAbs / Nat.gcd n.natAbs d.natAbs=B at *
  rw [wu64 (n:=(A:Int)) ⟨by omega,by omega⟩,wu64 (n:=(B:Int)) ⟨by omega,by omega⟩,ysN (by omega) (by omega)]
  exact k
def numM (a c:Int) (b d:Int):Nat:=(a.natAbs / Nat.gcd a.natAbs d.natAbs)*(c.natAbs / Nat.gcd c.natAbs b.natAbs)
def denM (a c:Int) (b d:Int):Nat:=(b.natAbs / Nat.gcd c.natAbs b.natAbs)*(d.natAbs / Nat.gcd a.natAbs d.natAbs)
theorem yI9 {a b c d:Int} (ha:I64 a) (hb:I64 b) (hc:I64 c) (hd:I64 d) {K:Int→Int→Int→Prop}
  (k:if chk2 a b c d=0 then outS (decide (a<0) != decide (c<0)) (numM a c b d) (denM a c b d) K else K 0 0 (chk2 a b c d)):ybJ a b c d K:=by
 unfold ybJ ypm
 refine ysn ha hb hc hd ?_
 by_cases h:chk2 a b c d=0
 ·rw [if_pos h] at k
  have:(chk2 a b c d !=(0:Int))=false:=by rw [h];rfl
  rw [this,yaf,ykk ha,ykk hc]
  obtain ⟨⟨b1,b2,a1,a2,_⟩,d1,d2,c1,c2,_⟩:=yeL.1 h
  have wb:IntKind.u64.wrap b=((b.natAbs:Nat):Int):=by rw [wu64 ⟨by omega,by omega⟩];omega
  have wd:IntKind.u64.wrap d=((d.natAbs:Nat):Int):=by rw [wu64 ⟨by omega,by omega⟩];omega
  rw [wb,wd]
  refine yyX _ _ _ (yyX _ _ _ ?_)
  unfold numM denM at k
  have g1:0<Nat.gcd a.natAbs d.natAbs:=qB2 _ (by omega)
  have g2:0<Nat.gcd c.natAbs b.natAbs:=qB2 _ (by omega)
  obtain ⟨g3,h3⟩:∃ g,g=Nat.gcd a.natAbs d.natAbs:=⟨_,rfl⟩
  obtain ⟨g4,h4⟩:∃ g,g=Nat.gcd c.natAbs b.natAbs:=⟨_,rfl⟩
  rw [← h3,← h4] at k ⊢
  rw [← h3] at g1;rw [← h4] at g2
  have n3:(!(decide ((g3:Int)=(0:Int))))=true:=by rw [decide_eq_false (by omega)];rfl
  have n4:(!(decide ((g4:Int)=(0:Int))))=true:=by rw [decide_eq_false (by omega)];rfl
  rw [n3,n4,yaR,yaR,yoZ (by omega),yoZ (by omega),yoZ (by omega),yoZ (by omega),← qBx,← qBx,← qBx,← qBx]
  have q1:a.natAbs / g3≤a.natAbs:=Nat.div_le_self _ _
  have q2:c.natAbs / g4≤c.natAbs:=Nat.div_le_self _ _
  have q3:b.natAbs / g4≤b.natAbs:=Nat.div_le_self _ _
  have q4:d.natAbs / g3≤d.natAbs:=Nat.div_le_self _ _
  generalize a.natAbs / g3=A at *
  generalize c.natAbs / g4=C at *
  generalize b.natAbs / g4=B at *
  generalize d.natAbs / g3=D at *
  rw [wu64 (n:=(A:Int)) ⟨by omega,by omega⟩,wu64 (n:=(C:Int)) ⟨by omega,by omega⟩,wu64 (n:=(B:Int)) ⟨by omega,by omega⟩,wu64 (n:=(D:Int)) ⟨by omega,by omega⟩,
   ymo ⟨by omega,by omega⟩ ⟨by omega,by omega⟩,yaR,yaR,ymo ⟨by omega,by omega⟩ ⟨by omega,by omega⟩]
  have m1:A*C≤1000000000000000000*1000000000000000000:=Nat.mul_le_mul (by omega) (by omega)
  have m2:B*D≤1000000000000000000*1000000000000000000:=Nat.mul_le_mul (by omega) (by omega)
  rw [← Int.natCast_mul,← Int.natCast_mul]
  generalize A*C=M at *
  generalize B*D=N at *
  have wm:IntKind.u64.wrap ((M:Int) / 18446744073709551616+(N:Int) / 18446744073709551616)=(M:Int) / 18446744073709551616+(N:Int) / 18446744073709551616:=wu64 ⟨by omega,by omega⟩
  rw [wm]
  by_cases hb:(M:Int) / 18446744073709551616+(N:Int) / 18446744073709551616>0
  ·rw [decide_eq_true hb,yau]
   unfold outS at k
   rw [if_neg (by omega)] at k
   exact k
  ·rw [decide_eq_false hb,yaf]
   have eM:(M:Int) % 18446744073709551616=M:=by omega
   have eN:(N:Int) % 18446744073709551616=N:=by omega
   rw [eM,eN]
   by_cases h0:(M:Int)>0
   ·rw [decide_eq_true h0,yau,ysN (by omega) (by omega)]
    exact k
   ·rw [decide_eq_false h0,yaf,ysN (by omega) (by omega)]
    have hz:M=0:=by omega
    subst hz
    unfold outS at k ⊢
    by_cases hN:(N:Int)≤1000000000000000000
    ·rw [if_pos ⟨by omega,hN⟩] at k ⊢
     have e:(if (decide (a<0) != decide (c<0))=true then -((0:Nat):Int) else ((0:Nat):Int))=0:=by split <;> rfl
     rw [e] at k
     exact k
    ·rw [if_neg (by omega)] at k ⊢
     exact k
 ·rw [if_neg h] at k
  have:(chk2 a b c d !=(0:Int))=true:=by rw [bne_iff_ne];exact h
  rw [this,yau]
  exact k
theorem RV.swap {c d:Int} (h:RV c d) (h0:0<c):RV d c:=by
 obtain ⟨d1,d2,c1,c2,g⟩:=h
 exact ⟨by omega,c2,by omega,d2,by rw [Nat.gcd_comm];exact g⟩
theorem RV.swapn {c d:Int} (h:RV c d) (h0:c<0):RV (-d) (-c):=by
 obtain ⟨d1,d2,c1,c2,g⟩:=h
 exact ⟨by omega,by omega,by omega,by omega,by rw [Int.natAbs_neg,Int.natAbs_neg,Nat.gcd_comm];exact g⟩
theorem yPn {a b c d:Int} (ha:I64 a) (hb:I64 b) (hc:I64 c) (hd:I64 d) {K:Int→Int→Int→Prop}
  (k:if chk2 a b c d=0 then (if c=0 then K 0 0 18 else outS (decide (a<0) != decide (c<0)) (numM a d b c) (denM a d b c) K) else K 0 0 (chk2 a b c d)):ya8 a b c d K:=by
 unfold ya8 ypr
 refine ysn ha hb hc hd ?_
 by_cases h:chk2 a b c d=0
 ·rw [if_pos h] at k
  have:(chk2 a b c d !=(0:Int))=false:=by rw [h];rfl
  rw [this,yaf]
  obtain ⟨hab,hcd⟩:=yeL.1 h
  obtain ⟨d1,d2,c1,c2,_⟩:=id hcd
  by_cases h0:c=0
  ·rw [if_pos h0] at k
   have:(c ==(0:Int))=true:=beq_iff_eq.2 h0
   rw [this,yau]
   exact k
  ·rw [if_neg h0] at k
   have:(c ==(0:Int))=false:=beq_eq_false_iff_ne.2 h0
   rw [this,yaf]
   by_cases hn:c<0
   ·rw [decide_eq_true hn] at k
    rw [decide_eq_true hn,yau,wi64 (n:=0-d) ⟨by omega,by omega⟩,wi64 (n:=0-c) ⟨by omega,by omega⟩,Int.zero_sub,Int.zero_sub]
    have e:chk2 a b (-d) (-c)=0:=yeL.2 ⟨hab,hcd.swapn hn⟩
    refine yI9 ha hb ⟨by omega,by omega⟩ ⟨by omega,by omega⟩ ?_
    rw [if_pos e,decide_eq_true (show -d<0 by omega)]
    unfold numM denM at k ⊢
    rw [Int.natAbs_neg,Int.natAbs_neg]
    exact k
   ·rw [decide_eq_false hn] at k
    rw [decide_eq_false hn,yaf]
    have e:chk2 a b d c=0:=yeL.2 ⟨hab,hcd.swap (by omega)⟩
    refine yI9 ha hb hd hc ?_
    rw [if_pos e,decide_eq_false (show ¬d<0 by omega)]
    exact k
 ·rw [if_neg h] at k
  have:(chk2 a b c d !=(0:Int))=true:=by rw [bne_iff_ne];exact h
  rw [this,yau]
  exact k
theorem yN7 {s:Bool} {hi lo p1 p3:Int} {g:Nat} (hh:U64 hi) (hl:U64 lo) (hg:0<g) (g1:(g:Int)≤1000000000000000000)
   (h1:0≤p1∧p1≤1000000000000000000) (h3:0≤p3∧p3≤1000000000000000000) {K:Int→Int→Int→Prop}
   (k:outS s (((hi*18446744073709551616+lo).toNat / Nat.gcd (hi*18446744073709551616+lo).toNat g:Nat):Int)
    (((p1.toNat / g)*(p3.toNat / Nat.gcd (hi*18446744073709551616+lo).toNat g):Nat):Int) K) :
   (yjN hi lo (g:Int) (fun (b:Int) =>
 (ydh b (g:Int) (fun (a:Int) =>
 (cbr (decide (hi≥a))
 (K (0:Int) (0:Int) (16:Int))
 (yid hi lo a (fun (c:Int) (j:Int) =>
 (asr (!(decide ((g:Int)=(0:Int))))
 (asr (!(decide (a=(0:Int))))
 (yg6 (IntKind.u64.wrap (Int.tdiv (IntKind.u64.wrap p1) (g:Int))) (IntKind.u64.wrap (Int.tdiv (IntKind.u64.wrap p3) a)) (fun (d:Int) (e:Int) =>
 (cbr (decide (d>(0:Int)))
 (K (0:Int) (0:Int) (16:Int))
 (yc3 s c e (fun (f:Int) (h:Int) (i:Int) =>
 (K f h i))))))))))))))):=by
  unfold U64 at hh hl
  obtain ⟨X,hX⟩:∃ X:Nat,X=(hi*18446744073709551616+lo).toNat:=⟨_,rfl⟩
  have eX:hi*18446744073709551616+lo=(X:Int):=by omega
  rw [← hX] at k
  refine yMz hh hl ⟨by omega,by omega⟩ (by omega) ?_
  rw [eX,← Int.natCast_emod]
  refine yyX _ _ _ ?_
  have eg:Nat.gcd (X % g) g=Nat.gcd X g:=by rw [Nat.gcd_comm,Nat.gcd_comm X,Nat.gcd_rec g X,Nat.gcd_comm]
  rw [eg]
  have gp:0<Nat.gcd X g:=qB2 _ hg
  have gl:Nat.gcd X g≤g:=Nat.le_of_dvd hg (Nat.gcd_dvd_right _ _)
  generalize Nat.gcd X g=G at *
  by_cases hb:hi≥(G:Int)
  ·rw [decide_eq_true hb,yau]
   unfold outS at k
   have:18446744073709551616≤X / G:=by
    rw [Nat.le_div_iff_mul_le gp]
    omega
   rw [if_neg (by omega)] at k
   exact k
  ·rw [decide_eq_false hb,yaf]
   refine yHQ hh hl ⟨by omega,by omega⟩ (by omega) ?_
   rw [eX]
   have n3:(!(decide ((g:Int)=(0:Int))))=true:=by rw [decide_eq_false (by omega)];rfl
   have n4:(!(decide ((G:Int)=(0:Int))))=true:=by rw [decide_eq_false (by omega)];rfl
   have e1:IntKind.u64.wrap p1=(p1.toNat:Int):=by rw [wu64 ⟨by omega,by omega⟩];omega
   have e3:IntKind.u64.wrap p3=(p3.toNat:Int):=by rw [wu64 ⟨by omega,by omega⟩];omega
   rw [n3,n4,yaR,yaR,e1,e3,yoZ (by omega),yoZ (by omega),← qBx,← qBx,← qBx]
   have q1:p1.toNat / g≤p1.toNat:=Nat.div_le_self _ _
   have q3:p3.toNat / G≤p3.toNat:=Nat.div_le_self _ _
   generalize p1.toNat / g=A at *
   generalize p3.toNat / G=B at *
   generalize X / G=N at *
   rw [wu64 (n:=(A:Int)) ⟨by omega,by omega⟩,wu64 (n:=(B:Int)) ⟨by omega,by omega⟩,ymo ⟨by omega,by omega⟩ ⟨by omega,by omega⟩,← Int.natCast_mul]
   generalize A*B=D at *
   by_cases hd:((D:Int) / 18446744073709551616)>0
   ·rw [decide_eq_true hd,yau]
    unfold outS at k
    rw [if_neg (by omega)] at k
    exact k
   ·rw [decide_eq_false hd,yaf]
    have eD:(D:Int) % 18446744073709551616=D:=by omega
    rw [eD,ysN (by omega) (by omega)]
    exact k
theorem yHR {p q c:Int} {K:Int→Int→Prop} (hc:c.toNat≤1) (k:K (((p.toNat+q.toNat+c.toNat) % 18446744073709551616:Nat):Int) (((p.toNat+q.toNat+c.toNat) / 18446744073709551616:Nat):Int)):yli p q c K:=by
 unfold yli
 rw [decide_eq_true hc,yaR]
 exact k
theorem yHS {p q c:Int} {K:Int→Int→Prop} (hc:c.toNat≤1) (k:K (((p.toNat+18446744073709551616-q.toNat-c.toNat) % 18446744073709551616:Nat):Int) ((if q.toNat+c.toNat≤p.toNat then 0 else 1:Nat):Int)):ylj p q c K:=by
 unfold ylj
 rw [decide_eq_true hc,yaR]
 have e:(bif Nat.ble (q.toNat+c.toNat) p.toNat then 0 else 1:Nat)=(if q.toNat+c.toNat≤p.toNat then 0 else 1:Nat):=by
  by_cases h:q.toNat+c.toNat≤p.toNat
  ·rw [if_pos h,show Nat.ble (q.toNat+c.toNat) p.toNat=true from Nat.ble_eq_true_of_le h];rfl
  ·rw [if_neg h]
   cases hb:Nat.ble (q.toNat+c.toNat) p.toNat
   ·rfl
   ·exact absurd (Nat.le_of_ble_eq_true hb) h
 rw [e]
 exact k
theorem yMA {X Y:Int} (hx:0≤X) (hy:0≤Y) (hs:X+Y<340282366920938463463374607431768211456) {F:Int→Int→Int→Int→Prop}
  (h:∀ c1 c2,F ((X+Y) % 18446744073709551616) c1 ((X+Y) / 18446744073709551616) c2) :
  yli (X % 18446744073709551616) (Y % 18446744073709551616) 0 (fun lo c1=>yli (X / 18446744073709551616) (Y / 18446744073709551616) c1 (fun hi c2=>F lo c1 hi c2)):=by
 obtain ⟨x,rfl⟩:∃ x:Nat,X=x:=⟨X.toNat,by omega⟩
 obtain ⟨y,rfl⟩:∃ y:Nat,Y=y:=⟨Y.toNat,by omega⟩
 refine yHR (by decide) (yHR (by omega) ?_)
 have e1:(((((x:Int) % 18446744073709551616).toNat+((y:Int) % 18446744073709551616).toNat+(0:Int).toNat) % 18446744073709551616:Nat):Int)=((x:Int)+y) % 18446744073709551616:=by omega
 have e2:(((((x:Int) / 18446744073709551616).toNat+((y:Int) / 18446744073709551616).toNat+(((((x:Int) % 18446744073709551616).toNat+((y:Int) % 18446744073709551616).toNat+(0:Int).toNat) / 18446744073709551616:Nat):Int).toNat) % 18446744073709551616:Nat):Int)=((x:Int)+y) / 18446744073709551616:=by omega
 rw [e1,e2]
 exact h _ _
theorem yxn {X Y:Int} (hy:0≤Y) (hxy:Y≤X) (hs:X<340282366920938463463374607431768211456) {F:Int→Int→Int→Int→Prop}
  (h:∀ c1 c2,F ((X-Y) % 18446744073709551616) c1 ((X-Y) / 18446744073709551616) c2) :
  ylj (X % 18446744073709551616) (Y % 18446744073709551616) 0 (fun lo c1=>ylj (X / 18446744073709551616) (Y / 18446744073709551616) c1 (fun hi c2=>F lo c1 hi c2)):=by
 obtain ⟨x,rfl⟩:∃ x:Nat,X=x:=⟨X.toNat,by omega⟩
 obtain ⟨y,rfl⟩:∃ y:Nat,Y=y:=⟨Y.toNat,by omega⟩
 refine yHS (by decide) (yHS (by split <;> omega) ?_)
 have e1:(((((x:Int) % 18446744073709551616).toNat+18446744073709551616-((y:Int) % 18446744073709551616).toNat-(0:Int).toNat) % 18446744073709551616:Nat):Int)=((x:Int)-y) % 18446744073709551616:=by omega
 rw [e1]
 by_cases hb:((y:Int) % 18446744073709551616).toNat+(0:Int).toNat≤((x:Int) % 18446744073709551616).toNat
 ·rw [if_pos hb]
  have e2:(((((x:Int) / 18446744073709551616).toNat+18446744073709551616-((y:Int) / 18446744073709551616).toNat-((0:Nat):Int).toNat) % 18446744073709551616:Nat):Int)=((x:Int)-y) / 18446744073709551616:=by omega
  rw [e2]
  exact h _ _
 ·rw [if_neg hb]
  have e2:(((((x:Int) / 18446744073709551616).toNat+18446744073709551616-((y:Int) / 18446744073709551616).toNat-((1:Nat):Int).toNat) % 18446744073709551616:Nat):Int)=((x:Int)-y) / 18446744073709551616:=by omega
  rw [e2]
  exact h _ _
def outA (s:Bool) (Z p1 p3:Int) (g:Nat) (K:Int→Int→Int→Prop):Prop :=
 if Z=0 then K 0 1 0 else outS s ((Z.toNat / Nat.gcd Z.toNat g:Nat):Int) (((p1.toNat / g)*(p3.toNat / Nat.gcd Z.toNat g):Nat):Int) K
theorem yCB {s:Bool} {Z p1 p3:Int} {g:Nat} (hz:0≤Z) (hz2:Z<340282366920938463463374607431768211456) (hg:0<g) (g1:(g:Int)≤1000000000000000000)
   (h1:0≤p1∧p1≤1000000000000000000) (h3:0≤p3∧p3≤1000000000000000000) {K:Int→Int→Int→Prop}
   (k:outA s Z p1 p3 g K) :
   cbr (Z / 18446744073709551616 ==(0:Int)) (cbr (Z % 18446744073709551616 ==(0:Int)) (K 0 1 0) (yjN (Z / 18446744073709551616) (Z % 18446744073709551616) (g:Int) (fun (b:Int) =>
 (ydh b (g:Int) (fun (a:Int) =>
 (cbr (decide ((Z / 18446744073709551616)≥a))
 (K (0:Int) (0:Int) (16:Int))
 (yid (Z / 18446744073709551616) (Z % 18446744073709551616) a (fun (c:Int) (j:Int) =>
 (asr (!(decide ((g:Int)=(0:Int))))
 (asr (!(decide (a=(0:Int))))
 (yg6 (IntKind.u64.wrap (Int.tdiv (IntKind.u64.wrap p1) (g:Int))) (IntKind.u64.wrap (Int.tdiv (IntKind.u64.wrap p3) a)) (fun (d:Int) (e:Int) =>
 (cbr (decide (d>(0:Int)))
 (K (0:Int) (0:Int) (16:Int))
 (yc3 s c e (fun (f:Int) (h:Int) (i:Int) =>
 (K f h i)))))))))))))))) (yjN (Z / 18446744073709551616) (Z % 18446744073709551616) (g:Int) (fun (b:Int) =>
 (ydh b (g:Int) (fun (a:Int) =>
 (cbr (decide ((Z / 18446744073709551616)≥a))
 (K (0:Int) (0:Int) (16:Int))
 (yid (Z / 18446744073709551616) (Z % 18446744073709551616) a (fun (c:Int) (j:Int) =>
 (asr (!(decide ((g:Int)=(0:Int))))
 (asr (!(decide (a=(0:Int))))
 (yg6 (IntKind.u64.wrap (Int.tdiv (IntKind.u64.wrap p1) (g:Int))) (IntKind.u64.wrap (Int.tdiv (IntKind.u64.wrap p3) a)) (fun (d:Int) (e:Int) =>
 (cbr (decide (d>(0:Int)))
 (K (0:Int) (0:Int) (16:Int))
 (yc3 s c e (fun (f:Int) (h:Int) (i:Int) =>
 (K f h i))))))))))))))):=by
  unfold outA at k
  have eZ:Z / 18446744073709551616*18446744073709551616+Z % 18446744073709551616=Z:=by omega
  by_cases h0:Z=0
  ·rw [if_pos h0] at k
   subst h0
   have e1:((0:Int) / 18446744073709551616 ==(0:Int))=true:=by decide
   have e2:((0:Int) % 18446744073709551616 ==(0:Int))=true:=by decide
   rw [e1,yau,e2,yau]
   exact k
  ·rw [if_neg h0] at k
   have t:=yN7 (s:=s) (hi:=Z / 18446744073709551616) (lo:=Z % 18446744073709551616) (p1:=p1) (p3:=p3) (g:=g) (K:=K) ⟨by omega,by omega⟩ ⟨by omega,by omega⟩ hg g1 h1 h3 (by rw [eZ];exact k)
   cases h4:(Z / 18446744073709551616 ==(0:Int))
   ·rw [yaf];exact t
   ·rw [yau]
    cases h2:(Z % 18446744073709551616 ==(0:Int))
    ·rw [yaf];exact t
    ·have:=beq_iff_eq.1 h2
     have:=beq_iff_eq.1 h4
     exact absurd (show Z=0 by omega) h0
theorem yvG {s s':Bool} {Z Z' p1 p3:Int} {g:Nat} {K:Int→Int→Int→Prop} (k:outA s' Z' p1 p3 g K) (hz:Z=Z') (hs:Z≠0→s=s'):outA s Z p1 p3 g K:=by
 subst hz
 unfold outA at k ⊢
 by_cases h:Z=0
 ·rw [if_pos h] at k ⊢;exact k
 ·rw [if_neg h] at k ⊢;rw [hs h];exact k
theorem yMB {a b c d:Int} (ha:I64 a) (hb:I64 b) (hc:I64 c) (hd:I64 d) {K:Int→Int→Int→Prop}
  (k:if chk2 a b c d=0 then outA (decide (a*(d / (Nat.gcd b.natAbs d.natAbs:Nat))+c*(b / (Nat.gcd b.natAbs d.natAbs:Nat))<0))
    ((a*(d / (Nat.gcd b.natAbs d.natAbs:Nat))+c*(b / (Nat.gcd b.natAbs d.natAbs:Nat))).natAbs:Int) b d (Nat.gcd b.natAbs d.natAbs) K
   else K 0 0 (chk2 a b c d)):ybh a b c d K:=by
 unfold ybh ypp
 refine ysn ha hb hc hd ?_
 by_cases h:chk2 a b c d=0
 ·rw [if_pos h] at k
  have:(chk2 a b c d !=(0:Int))=false:=by rw [h];rfl
  rw [this,yaf]
  obtain ⟨⟨b1,b2,a1,a2,_⟩,d1,d2,c1,c2,_⟩:=yeL.1 h
  have wb:IntKind.u64.wrap b=((b.natAbs:Nat):Int):=by rw [wu64 ⟨by omega,by omega⟩];omega
  have wd:IntKind.u64.wrap d=((d.natAbs:Nat):Int):=by rw [wu64 ⟨by omega,by omega⟩];omega
  have g1:0<Nat.gcd b.natAbs d.natAbs:=qB2 _ (by omega)
  have g2:Nat.gcd b.natAbs d.natAbs≤d.natAbs:=Nat.le_of_dvd (by omega) (Nat.gcd_dvd_right _ _)
  have go:ydh (IntKind.u64.wrap b) (IntKind.u64.wrap d)=ydh ((b.natAbs:Nat):Int) ((d.natAbs:Nat):Int):=by rw [wb,wd]
  rw [go]
  refine yyX _ _ _ ?_
  generalize Nat.gcd b.natAbs d.natAbs=g at *
  have n3:(!(decide ((g:Int)=(0:Int))))=true:=by rw [decide_eq_false (by omega)];rfl
  have q1:0≤b / (g:Int):=Int.ediv_nonneg (by omega) (by omega)
  have q2:0≤d / (g:Int):=Int.ediv_nonneg (by omega) (by omega)
  have q3:b / (g:Int)≤b:=Int.ediv_le_self _ (by omega)
  have q4:d / (g:Int)≤d:=Int.ediv_le_self _ (by omega)
  have ed:IntKind.u64.wrap (Int.tdiv (IntKind.u64.wrap d) (g:Int))=d / (g:Int):=by
   rw [wu64 (n:=d) ⟨by omega,by omega⟩,yoZ (by omega),wu64 ⟨by omega,by omega⟩]
  have eb:IntKind.u64.wrap (Int.tdiv (IntKind.u64.wrap b) (g:Int))=b / (g:Int):=by
   rw [wu64 (n:=b) ⟨by omega,by omega⟩,yoZ (by omega),wu64 ⟨by omega,by omega⟩]
  have yn6:∀ {c:Bool} {P:Prop},c=true→P→asr c P:=fun h p=>by rw [h,yaR];exact p
  rw [ykk ha]
  refine yn6 n3 ?_
  rw [ymo (U64.abs ha) (by rw [ed];exact ⟨by omega,by omega⟩),ykk hc]
  refine yn6 n3 ?_
  rw [ymo (U64.abs hc) (by rw [eb];exact ⟨by omega,by omega⟩)]
  obtain ⟨X,hX⟩:∃ X,X=((a.natAbs:Nat):Int)*IntKind.u64.wrap (Int.tdiv (IntKind.u64.wrap d) (g:Int)):=⟨_,rfl⟩
  obtain ⟨Y,hY⟩:∃ Y,Y=((c.natAbs:Nat):Int)*IntKind.u64.wrap (Int.tdiv (IntKind.u64.wrap b) (g:Int)):=⟨_,rfl⟩
  rw [← hX,← hY]
  rw [ed] at hX;rw [eb] at hY
  have X0:0≤X:=by rw [hX];exact qBj (by omega) q2
  have Y0:0≤Y:=by rw [hY];exact qBj (by omega) q1
  have X1:X≤1000000000000000000*1000000000000000000:=by rw [hX];exact qBk (by omega) (by omega) q2 (by omega)
  have Y1:Y≤1000000000000000000*1000000000000000000:=by rw [hY];exact qBk (by omega) (by omega) q1 (by omega)
  have ax:a*(d / (g:Int))=if a<0 then -X else X:=by
   split
   ·rw [hX,show ((a.natAbs:Nat):Int)=-a by omega,Int.neg_mul,Int.neg_neg]
   ·rw [hX,show ((a.natAbs:Nat):Int)=a by omega]
  have cy:c*(b / (g:Int))=if c<0 then -Y else Y:=by
   split
   ·rw [hY,show ((c.natAbs:Nat):Int)=-c by omega,Int.neg_mul,Int.neg_neg]
   ·rw [hY,show ((c.natAbs:Nat):Int)=c by omega]
  rw [ax,cy] at k
  clear hX hY ax cy ed eb n3
  by_cases hs:decide (a<0)=decide (c<0)
  ·have e:(decide (a<0) == decide (c<0))=true:=beq_iff_eq.2 hs
   rw [e,yau]
   refine yMA X0 Y0 (by omega) (fun c1 c2=>?_)
   refine yCB (by omega) (by omega) g1 (by omega) ⟨by omega,b2⟩ ⟨by omega,d2⟩ (yvG k ?_ ?_)
   ·by_cases h1:a<0
    ·have h2:c<0:=by simpa [h1] using hs.symm
     rw [if_pos h1,if_pos h2];omega
    ·have h2:¬c<0:=by simpa [h1] using hs.symm
     rw [if_neg h1,if_neg h2];omega
   ·intro h0
    by_cases h1:a<0
    ·have h2:c<0:=by simpa [h1] using hs.symm
     rw [if_pos h1,if_pos h2,decide_eq_true h1,decide_eq_true (by omega)]
    ·have h2:¬c<0:=by simpa [h1] using hs.symm
     rw [if_neg h1,if_neg h2,decide_eq_false h1,decide_eq_false (by omega)]
  ·have e:(decide (a<0) == decide (c<0))=false:=beq_eq_false_iff_ne.2 hs
   rw [e,yaf]
   have h12:(a<0∧¬c<0)∨(¬a<0∧c<0):=by
    by_cases h1:a<0 <;> by_cases h2:c<0 <;> simp [h1,h2] at hs ⊢
   by_cases hlt:X<Y
   ·have kk:outA (!decide (a<0)) (Y-X) b d g K:=by
     refine yvG k ?_ ?_
     ·rcases h12 with ⟨h1,h2⟩ | ⟨h1,h2⟩
      ·rw [if_pos h1,if_neg h2];omega
      ·rw [if_neg h1,if_pos h2];omega
     ·intro h0
      rcases h12 with ⟨h1,h2⟩ | ⟨h1,h2⟩
      ·rw [if_pos h1,if_neg h2,decide_eq_true h1,decide_eq_false (by omega)];rfl
      ·rw [if_neg h1,if_pos h2,decide_eq_false h1,decide_eq_true (by omega)];rfl
    by_cases h1:X / 18446744073709551616<Y / 18446744073709551616
    ·rw [decide_eq_true h1,yau]
     refine yxn X0 (by omega) (by omega) (fun c1 c2=>?_)
     exact yCB (by omega) (by omega) g1 (by omega) ⟨by omega,b2⟩ ⟨by omega,d2⟩ kk
    ·have e1:(X / 18446744073709551616 == Y / 18446744073709551616)=true:=beq_iff_eq.2 (by omega)
     rw [decide_eq_false h1,yaf,e1,yau,decide_eq_true (show X % 18446744073709551616<Y % 18446744073709551616 by have:=beq_iff_eq.1 e1;omega),yau]
     refine yxn X0 (by omega) (by omega) (fun c1 c2=>?_)
     exact yCB (by omega) (by omega) g1 (by omega) ⟨by omega,b2⟩ ⟨by omega,d2⟩ kk
   ·have kk:outA (decide (a<0)) (X-Y) b d g K:=by
     refine yvG k ?_ ?_
     ·rcases h12 with ⟨h1,h2⟩ | ⟨h1,h2⟩
      ·rw [if_pos h1,if_neg h2];omega
      ·rw [if_neg h1,if_pos h2];omega
     ·intro h0
      rcases h12 with ⟨h1,h2⟩ | ⟨h1,h2⟩
      ·rw [if_pos h1,if_neg h2,decide_eq_true h1,decide_eq_true (by omega)]
      ·rw [if_neg h1,if_pos h2,decide_eq_false h1,decide_eq_false (by omega)]
    have h1:¬X / 18446744073709551616<Y / 18446744073709551616:=by omega
    rw [decide_eq_false h1,yaf]
    cases e1:(X / 18446744073709551616 == Y / 18446744073709551616)
    ·rw [yaf]
     refine yxn Y0 (by omega) (by omega) (fun c1 c2=>?_)
     exact yCB (by omega) (by omega) g1 (by omega) ⟨by omega,b2⟩ ⟨by omega,d2⟩ kk
    ·rw [yau,decide_eq_false (show ¬X % 18446744073709551616<Y % 18446744073709551616 by have:=beq_iff_eq.1 e1;omega),yaf]
     refine yxn Y0 (by omega) (by omega) (fun c1 c2=>?_)
     exact yCB (by omega) (by omega) g1 (by omega) ⟨by omega,b2⟩ ⟨by omega,d2⟩ kk
 ·rw [if_neg h] at k
  have:(chk2 a b c d !=(0:Int))=true:=by rw [bne_iff_ne];exact h
  rw [this,yau]
  exact k
theorem RV.neg {c d:Int} (h:RV c d):RV (-c) d:=by
 obtain ⟨d1,d2,c1,c2,g⟩:=h
 exact ⟨d1,d2,by omega,by omega,by rw [Int.natAbs_neg];exact g⟩
theorem yPo {a b c d:Int} (ha:I64 a) (hb:I64 b) (hc:I64 c) (hd:I64 d) {K:Int→Int→Int→Prop}
  (k:if chk2 a b c d=0 then outA (decide (a*(d / (Nat.gcd b.natAbs d.natAbs:Nat))+-c*(b / (Nat.gcd b.natAbs d.natAbs:Nat))<0))
    ((a*(d / (Nat.gcd b.natAbs d.natAbs:Nat))+-c*(b / (Nat.gcd b.natAbs d.natAbs:Nat))).natAbs:Int) b d (Nat.gcd b.natAbs d.natAbs) K
   else K 0 0 (chk2 a b c d)):yaQ a b c d K:=by
 unfold yaQ ypq
 refine ysn ha hb hc hd ?_
 by_cases h:chk2 a b c d=0
 ·rw [if_pos h] at k
  have:(chk2 a b c d !=(0:Int))=false:=by rw [h];rfl
  rw [this,yaf]
  obtain ⟨hab,hcd⟩:=yeL.1 h
  obtain ⟨d1,d2,c1,c2,_⟩:=id hcd
  rw [wi64 (n:=0-c) ⟨by omega,by omega⟩,Int.zero_sub]
  refine yMB ha hb ⟨by omega,by omega⟩ hd ?_
  rw [if_pos (yeL.2 ⟨hab,hcd.neg⟩)]
  exact k
 ·rw [if_neg h] at k
  have:(chk2 a b c d !=(0:Int))=true:=by rw [bne_iff_ne];exact h
  rw [this,yau]
  exact k
def ints (l:List Int):List PV:=l.map (PV.int .i64)
theorem ybV (l:List Int):(ints l).length=l.length:=qAq ..
theorem yGy {l:List Int} {i:Nat} (h:i<l.length):List.getD (ints l) i .nils=.int .i64 (l.getD i 0):=by
 unfold ints
 rw [qAa,qAa,qA9,qAc h]
 rfl
theorem ydW {l:List Int} {i:Nat} (h:i<l.length):yaa (List.getD (ints l) i .nils)=l.getD i 0:=by
 rw [yGy h];rfl
theorem yj5 {l:List Int} {i:Nat} (h:i<l.length):conf zI (List.getD (ints l) i .nils)=true:=by
 rw [yGy h];rfl
theorem yn6 {c:Bool} {P:Prop} (h:c=true) (p:P):asr c P:=by rw [h,yaR];exact p
theorem yt4 {c:Prop} [Decidable c] {P:Prop} (h:c) (p:P):asr (decide c) P:=yn6 (decide_eq_true h) p
theorem yJZ {c:Prop} [Decidable c] {P Q:Prop} (h:c) (p:P):cbr (decide c) P Q:=by rw [decide_eq_true h,yau];exact p
theorem yEK {c:Prop} [Decidable c] {P Q:Prop} (h:¬c) (q:Q):cbr (decide c) P Q:=by rw [decide_eq_false h,yaf];exact q
def mnf (m x:Int):Int:=if x<m then x else m
theorem yMC {l:List Int} (hl:l.length<9223372036854775807) (x0:List PV→Int→Int→Bool→Prop) :
  ∀ (rest:List Int) (i:Nat) (m:Int) (n:Nat),l.drop i=rest→i≤l.length→rest.length<n→x0 (ints l) (rest.foldl mnf m) (l.length:Int) false →
   ydb x0 n (ints l) m (i:Int):=by
 intro rest
 induction rest with
 | nil =>
  intro i m n hd hi hn k
  have:i=l.length:=by
   have:=congrArg List.length hd
   rw [qA0] at this
   have h2:([]:List Int).length=0:=rfl
   omega
  match n,hn with
  | n+1,_ =>
   unfold ydb
   rw [ybV,this]
   exact yEK (by omega) k
 | cons x t ih =>
  intro i m n hd hi hn k
  have hlt:i<l.length:=by
   have:=congrArg List.length hd
   rw [qA0,qAo] at this
   omega
  have hx:l.getD i 0=x:=by
   have:=List.getElem_drop (xs:=l) (i:=i) (j:=0) (h:=by rw [hd];exact Nat.zero_lt_succ _)
   rw [qAa,qAc hlt]
   simp only [hd,List.getElem_cons_zero,Nat.add_zero] at this
   exact this.symm
  have ht:l.drop (i+1)=t:=by rw [← List.tail_drop,hd];rfl
  match n,hn with
  | n+1,hn =>
   unfold ydb
   rw [ybV]
   refine yJZ (by omega) ?_
   refine yt4 (by omega) (yt4 (by omega) (yn6 (yj5 (by omega)) ?_))
   rw [qAe,ydW hlt,hx,wi64 (n:=(i:Int)+1) ⟨by omega,by omega⟩]
   exact ih (i+1) _ n ht (by omega) (by rw [qAo] at hn;omega) k
theorem yPp {l:List Int} (hl:l.length<9223372036854775807) {x:Int} {t:List Int} (e:l=x::t) {K:Int→Prop} (k:K (t.foldl mnf x)):yeG (ints l) K:=by
 have h0:0<l.length:=by rw [e];exact Nat.zero_lt_succ _
 unfold yeG yjO
 rw [ybV]
 refine yEK (by omega) (yt4 (by omega) (yn6 (yj5 h0) ⟨l.length+1,?_⟩))
 have e0:l.getD 0 0=x:=by rw [e];rfl
 rw [ydW h0,e0]
 refine yMC hl _ t 1 x _ (by rw [e];rfl) (by omega) (by rw [e,qAo];omega) ?_
 exact k
def mxf (m x:Int):Int:=if x>m then x else m
theorem yMD {l:List Int} (hl:l.length<9223372036854775807) (x0:List PV→Int→Int→Bool→Prop) :
  ∀ (rest:List Int) (i:Nat) (m:Int) (n:Nat),l.drop i=rest→i≤l.length→rest.length<n→x0 (ints l) (rest.foldl mxf m) (l.length:Int) false →
   ydc x0 n (ints l) m (i:Int):=by
 intro rest
 induction rest with
 | nil =>
  intro i m n hd hi hn k
  have:i=l.length:=by
   have:=congrArg List.length hd
   rw [qA0] at this
   have h2:([]:List Int).length=0:=rfl
   omega
  match n,hn with
  | n+1,_ =>
   unfold ydc
   rw [ybV,this]
   exact yEK (by omega) k
 | cons x t ih =>
  intro i m n hd hi hn k
  have hlt:i<l.length:=by
   have:=congrArg List.length hd
   rw [qA0,qAo] at this
   omega
  have hx:l.getD i 0=x:=by
   have:=List.getElem_drop (xs:=l) (i:=i) (j:=0) (h:=by rw [hd];exact Nat.zero_lt_succ _)
   rw [qAa,qAc hlt]
   simp only [hd,List.getElem_cons_zero,Nat.add_zero] at this
   exact this.symm
  have ht:l.drop (i+1)=t:=by rw [← List.tail_drop,hd];rfl
  match n,hn with
  | n+1,hn =>
   unfold ydc
   rw [ybV]
   refine yJZ (by omega) ?_
   refine yt4 (by omega) (yt4 (by omega) (yn6 (yj5 (by omega)) ?_))
   rw [qAe,ydW hlt,hx,wi64 (n:=(i:Int)+1) ⟨by omega,by omega⟩]
   exact ih (i+1) _ n ht (by omega) (by rw [qAo] at hn;omega) k
theorem yME {l:List Int} (hl:l.length<9223372036854775807) {x:Int} {t:List Int} (e:l=x::t) {K:Int→Prop} (k:K (t.foldl mxf x)):yeH (ints l) K:=by
 have h0:0<l.length:=by rw [e];exact Nat.zero_lt_succ _
 unfold yeH yjQ
 rw [ybV]
 refine yEK (by omega) (yt4 (by omega) (yn6 (yj5 h0) ⟨l.length+1,?_⟩))
 have e0:l.getD 0 0=x:=by rw [e];rfl
 rw [ydW h0,e0]
 refine yMD hl _ t 1 x _ (by rw [e];rfl) (by omega) (by rw [e,qAo];omega) ?_
 exact k
def incr (l:List Int) (i:Nat):Prop:=∀ j,i≤j→j+1<l.length→l.getD j 0<l.getD (j+1) 0
theorem yJa {l:List Int} {p2:List PV} {p0:Int} (hl:l.length<9223372036854775807) (W1 W2:List PV→(Int→Prop)→Prop) (x0:Int→Prop) (x1:Int→List PV→List PV→Int→Int→Bool→Prop) :
  ∀ (r i n:Nat),i+r+1=l.length→r<n→(incr l i→x1 p0 (ints l) p2 ((l.length:Int)-1) ((l.length:Int)-1) false)→(¬incr l i→x0 8) →
   yel W1 W2 x0 x1 n p0 (ints l) p2 ((l.length:Int)-1) (i:Int):=by
 intro r
 induction r with
 | zero =>
  intro i n hi hn k _
  match n,hn with
  | n+1,_ =>
   unfold yel
   have e:(i:Int)=(l.length:Int)-1:=by omega
   refine yEK (by omega) ?_
   rw [e]
   exact k (fun j h1 h2=>by omega)
 | succ r ih =>
  intro i n hi hn k k0
  match n,hn with
  | n+1,hn =>
   unfold yel
   rw [wi64 (n:=(i:Int)+1) ⟨by omega,by omega⟩,ybV]
   have e1:((i:Int)+1)=((i+1:Nat):Int):=by omega
   rw [e1,qAe,qAe]
   refine yJZ (by omega) (yt4 (by omega) (yt4 (by omega) (yn6 (yj5 (by omega)) (yt4 (by omega) (yt4 (by omega) (yn6 (yj5 (by omega)) ?_))))))
   rw [ydW (by omega),ydW (by omega)]
   by_cases h:l.getD i 0≥l.getD (i+1) 0
   ·exact yJZ h (k0 fun hc=>absurd (hc i (qAm _) (by omega)) (by omega))
   ·refine yEK h (ih (i+1) n (by omega) (by omega) (fun hc=>k fun j h1 h2=>?_) (fun hc=>k0 fun hd=>hc fun j h1 h2=>hd j (by omega) h2))
    by_cases hj:j=i
    ·subst hj;omega
    ·exact hc j (by omega) h2
def small (q:Rat):Prop:=-1000000000000000000≤q.num∧q.num≤1000000000000000000∧(q.den:Int)≤1000000000000000000
instance (q:Rat):Decidable (small q):=by unfold small;infer_instance
theorem small.rv {q:Rat} (h:small q):RV q.num q.den:=by
 obtain ⟨h1,h2,h3⟩:=h
 have:=q.den_pos
 exact ⟨by omega,h3,h1,h2,q.reduced⟩
theorem yJb {n d:Int} (h:RV n d):∃ q:Rat,small q∧q.num=n∧(q.den:Int)=d:=by
 obtain ⟨h1,h2,h3,h4,h5⟩:=h
 refine ⟨⟨n,d.toNat,by omega,?_⟩,⟨h3,h4,by show ((d.toNat:Nat):Int)≤_;omega⟩,rfl,by show ((d.toNat:Nat):Int)=_;omega⟩
 have:d.natAbs=d.toNat:=by omega
 rw [this] at h5
 exact h5
theorem small.i1 {q:Rat} (h:small q):I64 q.num:=⟨by have:=h.1;omega,by have:=h.2.1;omega⟩
theorem small.i2 {q:Rat} (h:small q):I64 (q.den:Int):=⟨by omega,by have:=h.2.2;omega⟩
theorem ymp {q r:Rat} (h:small q) (k:small r):chk2 q.num q.den r.num r.den=0:=yeL.2 ⟨h.rv,k.rv⟩
def fitK (q:Rat) (K:Int→Int→Int→Prop):Prop:=if small q then K q.num q.den 0 else K 0 0 16
theorem yCC {q:Rat} {s:Bool} {a b:Int} (ha:a=(q.num.natAbs:Int)) (hb:b=(q.den:Int)) (hs:q.num≠0→s=decide (q.num<0)) (K:Int→Int→Int→Prop):outS s a b K=fitK q K:=by
 unfold outS fitK
 subst ha hb
 by_cases h:small q
 ·have h':=h
  obtain ⟨h1,h2,h3⟩:=h
  rw [if_pos (show _∧_ from ⟨by omega,h3⟩),if_pos h']
  have e:(if s=true then -((q.num.natAbs:Nat):Int) else ((q.num.natAbs:Nat):Int))=q.num:=by
   by_cases h0:q.num=0
   ·rw [h0];cases s <;> rfl
   ·rw [hs h0]
    by_cases h1:q.num<0
    ·rw [decide_eq_true h1,if_pos rfl];omega
    ·rw [decide_eq_false h1,if_neg (by simp)];omega
  rw [e]
 ·rw [if_neg h,if_neg]
  intro h2
  exact h ⟨by omega,by omega,h2.2⟩
theorem yHT (x:Int) (g:Nat):(Int.tdiv x g).natAbs=x.natAbs / g:=by rw [Int.natAbs_tdiv,Int.natAbs_natCast];rfl
theorem yEL {x:Int} {g:Nat} (h:(g:Int)∣x) (hx:x≠0):decide (Int.tdiv x g<0)=decide (x<0):=by
 obtain ⟨k,rfl⟩:=h
 have hg:(g:Int)≠0:=fun e=>hx (by rw [e,Int.zero_mul])
 rw [Int.mul_tdiv_cancel_left _ hg]
 have h1:(g:Int)>0:=by have:=Int.natCast_nonneg g;omega
 have:(g:Int)*k<0↔k<0:=by
  constructor
  ·intro h;refine Int.not_le.1 fun hk=>?_
   have:=qBj (show 0≤(g:Int) by omega) hk
   omega
  ·intro h;exact Int.mul_neg_of_pos_of_neg h1 h
 simp only [this]
theorem yLm (q r:Rat):(q*r).num=Int.tdiv q.num (Nat.gcd q.num.natAbs r.den)*Int.tdiv r.num (Nat.gcd r.num.natAbs q.den) ∧
  (q*r).den=(q.den / Nat.gcd r.num.natAbs q.den)*(r.den / Nat.gcd q.num.natAbs r.den):=by
 have e:q*r=Rat.mul q r:=rfl
 rw [e]
 delta Rat.mul
 constructor
 ·simp only [Int.divExact_eq_tdiv]
 ·simp only [Nat.divExact_eq_div]
theorem yo0 (x:Int) (d:Nat):((Nat.gcd x.natAbs d:Nat):Int)∣x:=by
 rw [← Int.dvd_natAbs,Int.ofNat_dvd];exact Nat.gcd_dvd_left _ _
theorem yJ0 {x:Int} {g:Nat} (h:(g:Int)∣x) (hx:x≠0):Int.tdiv x g≠0:=by
 obtain ⟨k,rfl⟩:=h
 have hg:(g:Int)≠0:=fun e=>hx (by rw [e,Int.zero_mul])
 rw [Int.mul_tdiv_cancel_left _ hg]
 intro e;rw [e,Int.mul_zero] at hx;exact hx rfl
theorem yMF {x y:Int} (hx:x≠0) (hy:y≠0):decide (x*y<0)=(decide (x<0) != decide (y<0)):=by
 by_cases h1:x<0 <;> by_cases h2:y<0
 ·have:=Int.mul_pos_of_neg_of_neg h1 h2
  simp [h1,h2];omega
 ·have:=Int.mul_neg_of_neg_of_pos h1 (show 0<y by omega)
  simp [h1,h2];omega
 ·have:=Int.mul_neg_of_pos_of_neg (show 0<x by omega) h2
  simp [h1,h2];omega
 ·have:=Int.mul_pos (show 0<x by omega) (show 0<y by omega)
  simp [h1,h2];omega
theorem yJ1 (q r:Rat) (K:Int→Int→Int→Prop):outS (decide (q.num<0) != decide (r.num<0)) (numM q.num r.num q.den r.den) (denM q.num r.num q.den r.den) K=fitK (q*r) K:=by
 obtain ⟨e1,e2⟩:=yLm q r
 refine yCC ?_ ?_ ?_ K
 ·rw [e1,Int.natAbs_mul,yHT,yHT]
  simp only [numM,Int.natAbs_natCast]
 ·rw [e2]
  simp only [denM,Int.natAbs_natCast]
 ·intro h
  rw [e1] at h ⊢
  have h1:q.num≠0:=fun e=>h (by rw [e,Int.zero_tdiv,Int.zero_mul])
  have h2:r.num≠0:=fun e=>h (by rw [e,Int.zero_tdiv,Int.mul_zero])
  rw [yMF (yJ0 (yo0 _ _) h1) (yJ0 (yo0 _ _) h2),yEL (yo0 _ _) h1,yEL (yo0 _ _) h2]
theorem yxo {w:(Int→Int→Int→Prop)→Prop} {q:Rat} (det:∀ r0 r1 r2,(∀ K:Int→Int→Int→Prop,K r0 r1 r2→w K)→∀ K,w K=K r0 r1 r2) (h:∀ K,fitK q K→w K) (K:Int→Int→Int→Prop):w K=fitK q K:=by
 unfold fitK at h ⊢
 by_cases hs:small q
 ·simp only [if_pos hs] at h ⊢
  exact det _ _ _ h K
 ·simp only [if_neg hs] at h ⊢
  exact det _ _ _ h K
theorem yxp {q r:Rat} (hq:small q) (hr:small r) (K:Int→Int→Int→Prop):ybJ q.num q.den r.num r.den K=fitK (q*r) K :=
 yxo (fun r0 r1 r2 h K=>yDB _ _ _ _ r0 r1 r2 h K) (fun K k=>yI9 hq.i1 hq.i2 hr.i1 hr.i2 (by rw [if_pos (ymp hq hr),yJ1];exact k)) K
theorem yLn {r:Rat} (h:r≠0):(r⁻¹).num=(if r.num<0 then -(r.den:Int) else r.den)∧(r⁻¹).den=r.num.natAbs:=by
 have h0:r.num≠0:=fun e=>h (Rat.num_eq_zero.1 e)
 constructor
 ·rw [Rat.num_inv]
  by_cases h1:r.num<0
  ·rw [if_pos h1,Int.sign_eq_neg_one_of_neg h1];omega
  ·rw [if_neg h1,Int.sign_eq_one_of_pos (by omega)];omega
 ·rw [Rat.den_inv,if_neg h0]
theorem yJ2 {q r:Rat} (hq:small q) (hr:small r) (h0:r≠0) (K:Int→Int→Int→Prop):ya8 q.num q.den r.num r.den K=fitK (q / r) K:=by
 have hn:r.num≠0:=fun e=>h0 (Rat.num_eq_zero.1 e)
 refine yxo (fun r0 r1 r2 h K=>yDF _ _ _ _ r0 r1 r2 h K) (fun K k=>yPn hq.i1 hq.i2 hr.i1 hr.i2 ?_) K
 rw [if_pos (ymp hq hr),if_neg hn]
 rw [Rat.div_def,← yJ1] at k
 obtain ⟨e1,e2⟩:=yLn h0
 rw [e1,e2] at k
 have s:decide ((if r.num<0 then -(r.den:Int) else (r.den:Int))<0)=decide (r.num<0):=by
  have:=r.den_pos
  split
  ·rename_i h;simp only [h];simp;omega
  ·rename_i h;simp only [h];simp
 rw [s] at k
 have hd:(if r.num<0 then -(r.den:Int) else (r.den:Int)).natAbs=r.den:=by split <;> omega
 unfold numM denM at k ⊢
 simp only [hd,Int.natAbs_natCast] at k ⊢
 exact k
theorem yLo (q r:Rat):(q+r).num=(q.num*(r.den / Nat.gcd q.den r.den:Nat)+r.num*(q.den / Nat.gcd q.den r.den:Nat)) / (Nat.gcd (q.num*(r.den / Nat.gcd q.den r.den:Nat)+r.num*(q.den / Nat.gcd q.den r.den:Nat)).natAbs (Nat.gcd q.den r.den):Nat) ∧
  (q+r).den=(q.den / Nat.gcd q.den r.den)*r.den / Nat.gcd (q.num*(r.den / Nat.gcd q.den r.den:Nat)+r.num*(q.den / Nat.gcd q.den r.den:Nat)).natAbs (Nat.gcd q.den r.den):=by
 have e:q+r=Rat.add q r:=rfl
 rw [e]
 delta Rat.add
 by_cases hg:q.den.gcd r.den=1
 ·simp only [hg,dif_pos,Nat.div_one,Nat.gcd_one_right,Int.natCast_one,Int.ediv_one,and_self]
 ·simp only [hg,dif_neg,not_false_eq_true,Rat.maybeNormalize_eq]
  constructor
  ·first | rfl | simp only [Int.divExact_eq_tdiv]
  ·first | rfl | simp only []
theorem yMG {q r:Rat} {Z:Int} {g:Nat} (e1:(q+r).num=Z / (Nat.gcd Z.natAbs g:Nat)) (e2:(q+r).den=(q.den / g)*r.den / Nat.gcd Z.natAbs g) (hgp:0<g) (hgd:g∣r.den) (K:Int→Int→Int→Prop) :
  outA (decide (Z<0)) (Z.natAbs:Int) q.den r.den g K=fitK (q+r) K:=by
 unfold outA
 by_cases h0:Z=0
 ·subst h0
  have:(q+r)=0:=by
   apply Rat.num_eq_zero.1
   rw [e1];simp
  rw [this,if_pos (by rfl)]
  unfold fitK
  rw [if_pos (by decide)];rfl
 ·have hne:¬((Z.natAbs:Nat):Int)=0:=by omega
  rw [if_neg hne]
  have hdv:((Nat.gcd Z.natAbs g:Nat):Int)∣Z:=yo0 _ _
  have hhp:0<Nat.gcd Z.natAbs g:=qB2 _ hgp
  have hhg:Nat.gcd Z.natAbs g∣r.den:=Nat.dvd_trans (Nat.gcd_dvd_right _ _) hgd
  refine yCC ?_ ?_ ?_ K
  ·rw [e1,Int.natAbs_ediv_of_dvd hdv];simp
  ·rw [e2];simp only [qAe];rw [Nat.mul_div_assoc _ hhg]
  ·intro h
   rw [e1]
   obtain ⟨k,hk⟩:=hdv
   revert hhp hk
   generalize Nat.gcd Z.natAbs g=h
   intro hhp hk
   have e:Z / (h:Int)=k:=by rw [hk,Int.mul_ediv_cancel_left _ (by omega)]
   rw [e]
   have:Z<0↔k<0:=by
    rw [hk]
    constructor
    ·intro hk;refine Int.not_le.1 fun hk2=>?_
     have:=qBj (show 0≤(h:Int) by omega) hk2
     omega
    ·intro hk;exact Int.mul_neg_of_pos_of_neg (by omega) hk
   simp only [this]
theorem yJ3 (q r:Rat) (K:Int→Int→Int→Prop) :
  outA (decide (q.num*((r.den:Int) / (Nat.gcd (q.den:Int).natAbs (r.den:Int).natAbs:Nat))+r.num*((q.den:Int) / (Nat.gcd (q.den:Int).natAbs (r.den:Int).natAbs:Nat))<0))
   ((q.num*((r.den:Int) / (Nat.gcd (q.den:Int).natAbs (r.den:Int).natAbs:Nat))+r.num*((q.den:Int) / (Nat.gcd (q.den:Int).natAbs (r.den:Int).natAbs:Nat))).natAbs:Int) q.den r.den (Nat.gcd (q.den:Int).natAbs (r.den:Int).natAbs) K=fitK (q+r) K:=by
 obtain ⟨e1,e2⟩:=yLo q r
 rw [qBx,qBx] at e1 e2
 exact yMG e1 e2 (Nat.gcd_pos_of_pos_left _ q.den_pos) (Nat.gcd_dvd_right _ _) K
theorem yAJ {q r:Rat} (hq:small q) (hr:small r) (K:Int→Int→Int→Prop):ybh q.num q.den r.num r.den K=fitK (q+r) K :=
 yxo (fun r0 r1 r2 h K=>yDD _ _ _ _ r0 r1 r2 h K) (fun K k=>yMB hq.i1 hq.i2 hr.i1 hr.i2 (by rw [if_pos (ymp hq hr),yJ3];exact k)) K
theorem ypW {q r:Rat} (hq:small q) (hr:small r) (K:Int→Int→Int→Prop):yaQ q.num q.den r.num r.den K=fitK (q-r) K :=
 yxo (fun r0 r1 r2 h K=>yDE _ _ _ _ r0 r1 r2 h K) (fun K k=>yPo hq.i1 hq.i2 hr.i1 hr.i2 (by
  rw [if_pos (ymp hq hr)]
  rw [Rat.sub_eq_add_neg,← yJ3] at k
  exact k)) K
theorem yMH {n d:Int} (hd:d≠0) (K:Int→Int→Int→Prop):outS (decide (n<0) != decide (d<0)) ((n.natAbs / Nat.gcd n.natAbs d.natAbs:Nat):Int) ((d.natAbs / Nat.gcd n.natAbs d.natAbs:Nat):Int) K=fitK ((n:Rat) / (d:Rat)) K:=by
 have e:(n:Rat) / (d:Rat)=mkRat (if d<0 then -n else n) d.natAbs:=by
  rw [Rat.mkRat_eq_div]
  split
  ·rename_i h
   have h1:((d.natAbs:Nat):Int)=-d:=by omega
   have h2:((d.natAbs:Nat):Rat)=-(d:Rat):=by rw [← Rat.intCast_natCast,h1,Rat.intCast_neg]
   rw [h2,Rat.intCast_neg]
   have h3:(d:Rat)≠0:=fun e=>hd (Rat.intCast_eq_zero_iff.1 e)
   grind
  ·rename_i h
   have h1:((d.natAbs:Nat):Int)=d:=by omega
   have h2:((d.natAbs:Nat):Rat)=(d:Rat):=by rw [← Rat.intCast_natCast,h1]
   rw [h2]
 have h0:d.natAbs≠0:=by omega
 have hab:(if d<0 then -n else n).natAbs=n.natAbs:=by split <;> omega
 rw [e]
 refine yCC ?_ ?_ ?_ K
 ·rw [Rat.num_mkRat,if_neg h0,hab,Int.natAbs_ediv_of_dvd,Int.natAbs_natCast,hab,Nat.gcd_comm]
  rw [← Int.dvd_natAbs,Int.ofNat_dvd,hab];exact Nat.gcd_dvd_right _ _
 ·rw [Rat.den_mkRat,if_neg h0,hab,Nat.gcd_comm]
 ·rw [Rat.num_mkRat,if_neg h0,hab]
  have hdv:((Nat.gcd d.natAbs n.natAbs:Nat):Int)∣(if d<0 then -n else n):=by
   rw [← Int.dvd_natAbs,Int.ofNat_dvd,hab];exact Nat.gcd_dvd_right _ _
  have hp:0<Nat.gcd d.natAbs n.natAbs:=Nat.gcd_pos_of_pos_left _ (by omega)
  obtain ⟨k,hk⟩:=hdv
  rw [hk,Int.mul_ediv_cancel_left _ (by omega)]
  intro hk0
  generalize Nat.gcd d.natAbs n.natAbs=g at *
  have h1:(g:Int)*k<0↔k<0:=by
   constructor
   ·intro hk;refine Int.not_le.1 fun hk2=>?_
    have:=qBj (show 0≤(g:Int) by omega) hk2
    omega
   ·intro hk;exact Int.mul_neg_of_pos_of_neg (by omega) hk
  have h2:(g:Int)*k≠0:=fun e=>by rcases Int.mul_eq_zero.1 e with e | e <;> omega
  by_cases hd2:d<0
  ·rw [if_pos hd2] at hk
   by_cases hn:n<0
   ·have:¬k<0:=by omega
    simp [hd2,hn,this]
   ·have:k<0:=by omega
    simp [hd2,this];omega
  ·rw [if_neg hd2] at hk
   by_cases hn:n<0
   ·have:k<0:=by omega
    simp [hd2,hn,this]
   ·have:¬k<0:=by omega
    simp [hd2,this];omega
theorem yMI {n d:Int} (hn:I64 n) (hd:I64 d) (h0:d≠0) (K:Int→Int→Int→Prop):yaA n d K=fitK ((n:Rat) / (d:Rat)) K :=
 yxo (fun r0 r1 r2 h K=>yB5 _ _ r0 r1 r2 h K) (fun K k=>Make_of hn hd (by rw [if_neg h0,yMH h0];exact k)) K
def cmpQ (q r:Rat):Int:=if q<r then -1 else if r<q then 1 else 0
theorem yJ4 (q r:Rat):cmpR q.num q.den r.num r.den=cmpQ q r:=by
 unfold cmpR cmp3 cmpQ
 simp only [Rat.lt_iff]
theorem yxq {q r:Rat} (hq:small q) (hr:small r) (K:Int→Int→Prop):ycs q.num q.den r.num r.den K=K (cmpQ q r) 0 :=
 yDC _ _ _ _ _ _ (fun K k=>yMw hq.i1 hq.i2 hr.i1 hr.i2 (by rw [ymp hq hr,if_pos rfl,yJ4];exact k)) K
theorem yEM {n d:Int} (hn:I64 n) (hd:I64 d) (K:Int→Prop):ycc n d K=K (chk n d) :=
 yzY _ _ _ (fun K k=>yCy hn hd k) K
theorem yPU {a b:Int} (h:a=b):(a != b)=false:=by simp [h]
theorem yPV {a b:Int} (h:a≠b):(a != b)=true:=by simp [h]
theorem yPW {a b:Int} (h:a≠b):(a == b)=false:=by simp [h]
theorem yPX {a b:Int} (h:a=b):(a == b)=true:=by simp [h]
theorem cbT {c:Prop} [Decidable c] {P Q:Prop} (h:c):cbr (decide c) P Q=P:=by rw [decide_eq_true h,yau]
theorem cbF {c:Prop} [Decidable c] {P Q:Prop} (h:¬c):cbr (decide c) P Q=Q:=by rw [decide_eq_false h,yaf]
theorem cnT {a b:Int} {P Q:Prop} (h:a≠b):cbr (a != b) P Q=P:=by rw [yPV h,yau]
theorem cnF {a b:Int} {P Q:Prop} (h:a=b):cbr (a != b) P Q=Q:=by rw [yPU h,yaf]
theorem ceT {a b:Int} {P Q:Prop} (h:a=b):cbr (a == b) P Q=P:=by rw [yPX h,yau]
theorem ceF {a b:Int} {P Q:Prop} (h:a≠b):cbr (a == b) P Q=Q:=by rw [yPW h,yaf]
theorem asT {c:Prop} [Decidable c] {P:Prop} (h:c):asr (decide c) P=P:=by rw [decide_eq_true h,yaR]
theorem asC {l:List Int} {i:Nat} {P:Prop} (h:i<l.length):asr (conf zI (List.getD (ints l) i .nils)) P=P:=by rw [yj5 h,yaR]
theorem wib {n:Int} (h1:-9223372036854775808≤n) (h2:n≤9223372036854775807):IntKind.i64.wrap n=n:=wi64 ⟨h1,h2⟩
theorem ycP (i:Nat):(i:Int)+1=((i+1:Nat):Int):=by omega
theorem yj6 {x:Int} (h:-1000000000000000000≤x∧x≤1000000000000000000):small (x:Rat):=by
 unfold small
 rw [Rat.num_intCast,Rat.den_intCast]
 omega
def allD (dens:List Int):Prop:=∀ d∈dens,0≤d∧d≤12
def yCD (dens:List Int):Prop:=∃ d∈dens,0<d
instance (l:List Int):Decidable (allD l):=by unfold allD;infer_instance
instance (l:List Int):Decidable (yCD l):=by unfold yCD;infer_instance
def VC (len:Int) (cuts dens:List Int):Prop :=
 1≤len∧len≤1000∧2≤cuts.length∧cuts.length≤40∧dens.length+1=cuts.length∧cuts.getD 0 0=0∧cuts.getD (cuts.length-1) 0=len∧incr cuts 0∧allD dens∧yCD dens
theorem yMJ (l:List Int):incr l 0↔∀ j,j<l.length→j+1<l.length→l.getD j 0<l.getD (j+1) 0:=⟨fun h j _ h2=>h j (by omega) h2,fun h j _ h2=>h j (by omega) h2⟩
instance (l:List Int):Decidable (incr l 0):=decidable_of_iff _ (yMJ l).symm
instance (len:Int) (cuts dens:List Int):Decidable (VC len cuts dens):=by unfold VC;infer_instance
def ckC (len:Int) (cuts dens:List Int):Int:=if len>1000∨cuts.length>40 then 4 else if VC len cuts dens then 0 else 8
theorem yJ5 (l:List Int) (x:Int):(l.foldl mnf x<0)↔¬(∀ d∈x::l,0≤d):=by
 induction l generalizing x with
 | nil=>simp
 | cons y t ih =>
  rw [List.foldl_cons,ih]
  unfold mnf
  simp only [List.forall_mem_cons]
  split
  ·constructor
   ·intro h h2;exact h ⟨h2.2.1,h2.2.2⟩
   ·intro h h2;exact h ⟨by omega,h2.1,h2.2⟩
  ·constructor
   ·intro h h2;exact h ⟨h2.1,h2.2.2⟩
   ·intro h h2;exact h ⟨h2.1,by omega,h2.2⟩
theorem yxr (l:List Int) (x k:Int):(l.foldl mxf x>k)↔¬(∀ d∈x::l,d≤k):=by
 induction l generalizing x with
 | nil=>simp
 | cons y t ih =>
  rw [List.foldl_cons,ih]
  unfold mxf
  simp only [List.forall_mem_cons]
  split
  ·constructor
   ·intro h h2;exact h ⟨h2.2.1,h2.2.2⟩
   ·intro h h2;exact h ⟨by omega,h2.1,h2.2⟩
  ·constructor
   ·intro h h2;exact h ⟨h2.1,h2.2.2⟩
   ·intro h h2;exact h ⟨h2.1,by omega,h2.2⟩
theorem ylm {len:Int} {cuts dens:List Int} (h1:cuts.length<4611686018427387904) (h2:dens.length<4611686018427387904) (K:Int→Prop) :
  yaU len (ints cuts) (ints dens) K=K (ckC len cuts dens):=by
 refine yB6 _ _ _ _ (fun K k=>?_) K
 unfold yaU ynv
 simp only [ybV]
 have bad:¬(len>1000∨cuts.length>40)→¬VC len cuts dens→K 8:=fun h h2=>by
  rw [ckC,if_neg h,if_neg h2] at k;exact k
 by_cases a1:len>1000
 ·rw [cbT a1];rw [ckC,if_pos (.inl a1)] at k;exact k
 rw [cbF a1]
 by_cases a2:cuts.length>40
 ·rw [cbT (by omega)];rw [ckC,if_pos (.inr a2)] at k;exact k
 have a12:¬(len>1000∨cuts.length>40):=by omega
 rw [cbF (by omega)]
 by_cases a3:len<1
 ·rw [cbT a3];exact bad a12 (fun h=>by have:=h.1;omega)
 rw [cbF a3]
 by_cases a4:cuts.length<2
 ·rw [cbT (by omega)];exact bad a12 (fun h=>by have:=h.2.2.1;omega)
 rw [cbF (by omega),wib (n:=(cuts.length:Int)-1) (by omega) (by omega)]
 by_cases a5:dens.length+1=cuts.length
 case neg=>rw [cnT (by omega)];exact bad a12 (fun h=>a5 h.2.2.2.2.1)
 rw [cnF (by omega),asT (by omega),asC (by omega),ydW (by omega)]
 by_cases a6:cuts.getD 0 0=0
 case neg=>rw [cnT a6];exact bad a12 (fun h=>a6 h.2.2.2.2.2.1)
 rw [cnF a6,asT (by omega),asT (by omega),asC (by omega),ydW (by omega)]
 have en:((cuts.length:Int)-1).toNat=cuts.length-1:=by omega
 rw [en]
 by_cases a7:cuts.getD (cuts.length-1) 0=len
 case neg=>rw [cnT a7];exact bad a12 (fun h=>a7 h.2.2.2.2.2.2.1)
 rw [cnF a7]
 refine ⟨cuts.length+1,?_⟩
 refine yJa (by omega) _ _ _ _ (cuts.length-1) 0 _ (by omega) (by omega) (fun hi=>?_) (fun hi=>bad a12 (fun h=>hi h.2.2.2.2.2.2.2.1))
 obtain ⟨x,t,e⟩:∃ x t,dens=x::t:=by
  cases dens with
  | nil=>exfalso;have:([]:List Int).length=0:=rfl;omega
  | cons x t=>exact ⟨x,t,rfl⟩
 refine yPp (by omega) e ?_
 by_cases b1:t.foldl mnf x<0
 ·rw [cbT b1]
  rw [yJ5] at b1
  exact bad a12 (fun h=>b1 fun d hd=>(h.2.2.2.2.2.2.2.2.1 d (by rw [e];exact hd)).1)
 rw [cbF b1]
 refine yME (by omega) e ?_
 by_cases b2:t.foldl mxf x>12
 ·rw [cbT b2]
  rw [yxr] at b2
  exact bad a12 (fun h=>b2 fun d hd=>(h.2.2.2.2.2.2.2.2.1 d (by rw [e];exact hd)).2)
 rw [cbF b2]
 refine yME (by omega) e ?_
 have c1:∀ d∈dens,0≤d:=by rw [yJ5,Classical.not_not,← e] at b1;exact b1
 have c2:∀ d∈dens,d≤12:=by rw [yxr,Classical.not_not,← e] at b2;exact b2
 by_cases b3:t.foldl mxf x=0
 ·rw [ceT b3]
  refine bad a12 (fun h=>?_)
  obtain ⟨d,hd,h0⟩:=h.2.2.2.2.2.2.2.2.2
  have:¬(t.foldl mxf x>0):=by omega
  rw [yxr,Classical.not_not,← e] at this
  have:=this d hd
  omega
 ·rw [ceF b3]
  have b4:t.foldl mxf x>0:=by
   refine Int.not_le.1 fun hle=>b3 ?_
   have:t.foldl mxf x>-1:=by
    rw [yxr]
    intro h
    have h1:=h x (qAg ..)
    have h2:=c1 x (by rw [e];exact qAg ..)
    omega
   omega
  rw [yxr,← e] at b4
  have b5:yCD dens:=by
   refine Classical.byContradiction fun hn=>b4 fun d hd=>?_
   exact Int.not_lt.1 fun hlt=>hn ⟨d,hd,hlt⟩
  rw [ckC,if_neg a12,if_pos ⟨by omega,by omega,by omega,by omega,a5,a6,a7,hi,fun d hd=>⟨c1 d hd,c2 d hd⟩,b5⟩] at k
  exact k
theorem yjf (n:Int) (K:Int→Int→Prop):ycQ n K=K (n:Rat).num (n:Rat).den:=rfl
theorem ygW {q r:Rat} (hq:small q) (hr:small r) (K:Bool→Prop):ycW q.num q.den r.num r.den K=K (decide (q<r)):=by
 unfold ycW yps
 rw [yxq hq hr]
 congr 1
 rw [decide_eq_decide,cmpQ]
 by_cases h:q<r
 ·simp [h]
 ·by_cases h2:r<q <;> simp [h,h2]
def PT (len:Int) (n d:Int):Prop:=RV n d∧0≤n∧n≤len*d
instance (len n d:Int):Decidable (PT len n d):=by unfold PT;infer_instance
theorem yPq {len n d:Int} (h:PT len n d):∃ q:Rat,small q∧q.num=n∧(q.den:Int)=d∧0≤q∧q≤(len:Rat):=by
 obtain ⟨h1,h2,h3⟩:=h
 obtain ⟨q,e1,e2,e3⟩:=yJb h1
 refine ⟨q,e1,e2,e3,?_,?_⟩
 ·rw [← Rat.num_nonneg,e2];exact h2
 ·rw [Rat.le_iff,e2,e3,Rat.num_intCast,Rat.den_intCast];simpa using h3
theorem yJc (x:Int) (q:Rat):((x:Rat)<q)↔x*(q.den:Int)<q.num:=by
 rw [Rat.lt_iff,Rat.num_intCast,Rat.den_intCast];simp
theorem yCE {len:Int} (hl:-1000000000000000000≤len∧len≤1000000000000000000) {n d:Int} (hn:I64 n) (hd:I64 d) (a b:List PV) (K:Bool→Prop) :
  ycS len a b n d K=K (decide (PT len n d)):=by
 unfold ycS yny
 rw [yEM hn hd]
 by_cases h:RV n d
 ·obtain ⟨q,e1,e2,e3⟩:=yJb h
  rw [chk,if_pos h,ceT rfl]
  by_cases h0:n≥0
  ·rw [cbT h0,yjf,← e2,← e3,ygW (yj6 hl) e1]
   congr 1
   have:((len:Rat)<q)↔len*(q.den:Int)<q.num:=yJc _ _
   by_cases h3:(len:Rat)<q
   ·have h4:=this.1 h3
    rw [decide_eq_true h3,decide_eq_false];rfl
    intro hp;have:=hp.2.2;omega
   ·have h4:¬_:=fun x=>h3 (this.2 x)
    rw [decide_eq_false h3,decide_eq_true];rfl
    exact ⟨e1.rv,by omega,by omega⟩
  ·rw [cbF h0,decide_eq_false]
   intro hp;have:=hp.2.1;omega
 ·rw [chk,if_neg h,ceF (by decide),decide_eq_false]
  intro hp;exact h hp.1
section
variable {len:Int} {cuts dens:List Int}
theorem VC.step (h:VC len cuts dens) {i:Nat} (hi:i+1<cuts.length):cuts.getD i 0<cuts.getD (i+1) 0:=h.2.2.2.2.2.2.2.1 i (qBf _) hi
theorem VC.mono (h:VC len cuts dens) {i:Nat}:∀ {j:Nat},i≤j→j<cuts.length→cuts.getD i 0≤cuts.getD j 0
 | 0,hij,_=>by
  have:i=0:=by omega
  subst this;exact Int.le_refl _
 | j+1,hij,hj=>by
  by_cases e:i=j+1
  ·subst e;exact Int.le_refl _
  ·have h1:=h.mono (i:=i) (j:=j) (by omega) (by omega)
   have h2:=h.step (i:=j) hj
   omega
theorem VC.lo (h:VC len cuts dens) {i:Nat} (hi:i<cuts.length):0≤cuts.getD i 0:=by
 have:=h.mono (qBf i) hi
 rw [h.2.2.2.2.2.1] at this;exact this
theorem VC.hi (h:VC len cuts dens) {i:Nat} (hi:i<cuts.length):cuts.getD i 0≤len:=by
 have:=h.mono (i:=i) (j:=cuts.length-1) (by omega) (by omega)
 rw [h.2.2.2.2.2.2.1] at this;exact this
theorem VC.den (h:VC len cuts dens) {i:Nat} (hi:i<dens.length):0≤dens.getD i 0∧dens.getD i 0≤12:=by
 rw [qAa,qAc hi]
 exact h.2.2.2.2.2.2.2.2.1 _ (qB5 hi)
theorem VC.l1 (h:VC len cuts dens):dens.length+1=cuts.length:=h.2.2.2.2.1
theorem VC.l2 (h:VC len cuts dens):cuts.length≤40:=h.2.2.2.1
theorem VC.len0 (h:VC len cuts dens):1≤len∧len≤1000:=⟨h.1,h.2.1⟩
theorem VC.sc (h:VC len cuts dens) {i:Nat} (hi:i<cuts.length):small ((cuts.getD i 0:Int):Rat):=yj6 (by have:=h.lo hi;have:=h.hi hi;have:=h.len0;omega)
theorem VC.sd (h:VC len cuts dens) {i:Nat} (hi:i<dens.length):small ((dens.getD i 0:Int):Rat):=yj6 (by have:=h.den hi;omega)
theorem yxs (h:ckC len cuts dens=0):VC len cuts dens:=by
 unfold ckC at h
 split at h
 ·omega
 ·split at h
  ·assumption
  ·omega
theorem VC.ck (h:VC len cuts dens):ckC len cuts dens=0:=by
 rw [ckC,if_neg (by have:=h.l2;have:=h.len0;omega),if_pos h]
def totS (cuts dens:List Int):Nat→Nat→Int→Int
 | 0,_,s=>s
 | r+1,i,s=>totS cuts dens r (i+1) (s+dens.getD i 0*(cuts.getD (i+1) 0-cuts.getD i 0))
def totC (cuts dens:List Int):Int:=totS cuts dens dens.length 0 0
theorem yJ6 {d x:Int} (h:0≤d∧d≤12) (hx:0≤x):0≤d*x∧d*x≤12*x:=⟨qBj h.1 hx,qBh h.2 hx⟩
theorem yCF (h:VC len cuts dens):∀ (r i:Nat) (s:Int),i+r=dens.length→0≤s→s≤12*cuts.getD i 0→0≤totS cuts dens r i s∧totS cuts dens r i s≤12*len
 | 0,i,s,hi,h0,h1=>by
  have:=h.l1
  have:=h.hi (i:=i) (by omega)
  unfold totS
  omega
 | r+1,i,s,hi,h0,h1=>by
  unfold totS
  have l1:=h.l1
  have h2:=h.step (i:=i) (by omega)
  have h3:=yJ6 (h.den (i:=i) (by omega)) (x:=cuts.getD (i+1) 0-cuts.getD i 0) (by omega)
  exact yCF h r (i+1) _ (by omega) (by omega) (by omega)
theorem yj7 (h:VC len cuts dens):0≤totC cuts dens∧totC cuts dens≤12000:=by
 have l1:=h.l1
 have h0:=h.lo (i:=0) (by omega)
 have:=yCF h dens.length 0 0 (by omega) (by omega) (by omega)
 have h2:=h.len0
 unfold totC;omega
theorem yCG (h:VC len cuts dens) (W:Int→List PV→List PV→(Int→Prop)→Prop) (x0:Int→List PV→List PV→Int→List PV→Int→Int→Bool→Prop) :
  ∀ (r i n:Nat) (s:Int),i+r=dens.length→r<n→0≤s→s≤12*cuts.getD i 0 →
   yem W x0 n len (ints cuts) (ints dens) s (ints dens) dens.length i=x0 len (ints cuts) (ints dens) (totS cuts dens r i s) (ints dens) dens.length dens.length false
 | 0,i,n+1,s,hi,hn,h0,h1=>by
  unfold yem totS
  rw [cbF (by omega)]
  have:(i:Int)=dens.length:=by omega
  rw [this]
 | r+1,i,n+1,s,hi,hn,h0,h1=>by
  unfold yem
  have l1:=h.l1;have l2:=h.l2
  have h2:=h.step (i:=i) (by omega)
  have h3:=yJ6 (h.den (i:=i) (by omega)) (x:=cuts.getD (i+1) 0-cuts.getD i 0) (by omega)
  have a1:=h.lo (i:=i) (by omega)
  have a2:=h.hi (i:=i+1) (by omega)
  have a3:=h.len0
  have e1:=wib (n:=(i:Int)+1) (by omega) (by omega)
  have e2:=wib (n:=cuts.getD (i+1) 0-cuts.getD i 0) (by omega) (by omega)
  have e3:=wib (n:=dens.getD i 0*(cuts.getD (i+1) 0-cuts.getD i 0)) (by omega) (by omega)
  have e4:=wib (n:=s+dens.getD i 0*(cuts.getD (i+1) 0-cuts.getD i 0)) (by omega) (by omega)
  rw [cbT (by omega),ybV,ybV,e1,ycP,qAe,qAe,asT (by omega),asT (by omega),asC (by omega),asT (by omega),asT (by omega),asC (by omega),asT (by omega),asT (by omega),asC (by omega),ydW (by omega),ydW (by omega),ydW (by omega),e2,e3,e4]
  exact yCG h W x0 r (i+1) n _ (by omega) (by omega) (by omega) (by omega)
theorem yyY (h1:cuts.length<4611686018427387904) (h2:dens.length<4611686018427387904) (K:Int→Int→Prop) :
  yan len (ints cuts) (ints dens) K=if ckC len cuts dens=0 then K (totC cuts dens) 0 else K 0 (ckC len cuts dens):=by
 by_cases h:ckC len cuts dens=0
 ·rw [if_pos h]
  refine yB7 _ _ _ _ _ (fun K k=>?_) K
  unfold yan ykf
  have hv:=yxs h
  rw [ylm h1 h2,h,cnF rfl]
  refine ⟨dens.length+1,?_⟩
  have l1:=hv.l1
  have a1:=hv.lo (i:=0) (by omega)
  rw [ybV]
  have:=yCG hv yaU (fun b c d a e f g j=>(K a (0:Int))) dens.length 0 (dens.length+1) 0 (by omega) (by omega) (by omega) (by omega)
  rw [show ((0:Nat):Int)=0 from rfl] at this
  rw [this]
  exact k
 ·rw [if_neg h]
  unfold yan ykf
  rw [ylm h1 h2,cnT h]
def exK (e:Except Int Rat) (K:Int→Int→Int→Prop):Prop:=match e with | .ok q=>K q.num q.den 0 | .error c=>K 0 0 c
def fit {α:Type} (q:Rat) (k:Rat→Except Int α):Except Int α:=if small q then k q else .error 16
def valS (cuts dens:List Int) (b:Rat):Nat→Nat→Rat→Rat→Except Int Rat
 | 0,_,_,sum=>.ok sum
 | r+1,i,p,sum =>
  let en:Rat:=if b<(cuts.getD (i+1) 0:Int) then b else (cuts.getD (i+1) 0:Int)
  if dens.getD i 0=0∨¬p<en then valS cuts dens b r (i+1) (if p<en then en else p) sum
  else fit (en-p) fun l=>fit (l*(dens.getD i 0:Int)) fun w=>fit (sum+w) fun s=>valS cuts dens b r (i+1) en s
end
end Go.Pf.Vc
