/- Part 4. -/
import Derived.Test.YtobbapakhillmaaGreatThW3
noncomputable section
namespace Go.Pf.Vc
open Go Go.Pf
set_option maxRecDepth 100000
set_option maxHeartbeats 0
def yfB (a0:yat) (a1:yaE) (a2:yaH) (a3:ybn) (a4:yaK) (g:Ls→Int→Int→Int→Int→Int→Int→Int→Int→Int→Int→Int→Int→Int→Int→Int→Int→Int→Int→Int→Int→Int→Ls→Ls→Int→Int→Int→Int→Int→Int→Int→Int→Int→Int→Int→Int→Int→Bool→Prop):Nat→Ls→Int→Int→Int→Int→Int→Int→Int→Int→Int→Int→Int→Int→Int→Int→Int→Int→Int→Int→Int→Int→Int→Ls→Ls→Int→Int→Int→Int→Int→Int→Int→Int→Int→Int→Int→Int→Int→Prop
 | 0,_,_,_,_,_,_,_,_,_,_,_,_,_,_,_,_,_,_,_,_,_,_,_,_,_,_,_,_,_,_,_,_,_,_,_,_,_=>False
 | h+1,l0,i3,i4,i5,i6,i7,i8,i9,i10,i11,i12,i13,i14,i15,i16,i17,i18,i19,i20,i21,i22,i23,l24,l25,i26,i27,i28,i29,i30,i31,i32,i33,i34,i35,i36,i37,i38 =>
 (cbr (decide (i38<(3:Int)))
 (jn (fun (a:Ls→Prop) =>
 (cbr (decide (i38=(0:Int)))
 (cbr (decide (i20=(0:Int)))
 (cbr (decide (i38=(0:Int)))
 (a ([(.agg [(.int .i64 i3),(.int .i64 i4),(.int .i64 i5),(.int .i64 i6)]),(.agg [(.int .i64 i26),(.int .i64 i27),(.int .i64 i28),(.int .i64 i29)])]:Ls))
 (cbr (decide (i38=(1:Int)))
 (a ([(.agg [(.int .i64 i3),(.int .i64 i4),(.int .i64 i5),(.int .i64 i6)]),(.agg [(.int .i64 i30),(.int .i64 i31),(.int .i64 i32),(.int .i64 i33)])]:Ls))
 (cbr (decide (i38=(2:Int)))
 (a ([(.agg [(.int .i64 i3),(.int .i64 i4),(.int .i64 i5),(.int .i64 i6)]),(.agg [(.int .i64 i34),(.int .i64 i35),(.int .i64 i36),(.int .i64 i37)])]:Ls))
 False)))
 (cbr (decide (i20=(1:Int)))
 (cbr (decide (i38=(0:Int)))
 (a ([(.agg [(.int .i64 i7),(.int .i64 i8),(.int .i64 i9),(.int .i64 i10)]),(.agg [(.int .i64 i26),(.int .i64 i27),(.int .i64 i28),(.int .i64 i29)])]:Ls))
 (cbr (decide (i38=(1:Int)))
 (a ([(.agg [(.int .i64 i7),(.int .i64 i8),(.int .i64 i9),(.int .i64 i10)]),(.agg [(.int .i64 i30),(.int .i64 i31),(.int .i64 i32),(.int .i64 i33)])]:Ls))
 (cbr (decide (i38=(2:Int)))
 (a ([(.agg [(.int .i64 i7),(.int .i64 i8),(.int .i64 i9),(.int .i64 i10)]),(.agg [(.int .i64 i34),(.int .i64 i35),(.int .i64 i36),(.int .i64 i37)])]:Ls))
 False)))
 (cbr (decide (i20=(2:Int)))
 (cbr (decide (i38=(0:Int)))
 (a ([(.agg [(.int .i64 i11),(.int .i64 i12),(.int .i64 i13),(.int .i64 i14)]),(.agg [(.int .i64 i26),(.int .i64 i27),(.int .i64 i28),(.int .i64 i29)])]:Ls))
 (cbr (decide (i38=(1:Int)))
 (a ([(.agg [(.int .i64 i11),(.int .i64 i12),(.int .i64 i13),(.int .i64 i14)]),(.agg [(.int .i64 i30),(.int .i64 i31),(.int .i64 i32),(.int .i64 i33)])]:Ls))
 (cbr (decide (i38=(2:Int)))
 (a ([(.agg [(.int .i64 i11),(.int .i64 i12),(.int .i64 i13),(.int .i64 i14)]),(.agg [(.int .i64 i34),(.int .i64 i35),(.int .i64 i36),(.int .i64 i37)])]:Ls))
 False)))
 False)))
 (cbr (decide (i38=(1:Int)))
 (cbr (decide (i21=(0:Int)))
 (cbr (decide (i38=(0:Int)))
 (a ([(.agg [(.int .i64 i3),(.int .i64 i4),(.int .i64 i5),(.int .i64 i6)]),(.agg [(.int .i64 i26),(.int .i64 i27),(.int .i64 i28),(.int .i64 i29)])]:Ls))
 (cbr (decide (i38=(1:Int)))
 (a ([(.agg [(.int .i64 i3),(.int .i64 i4),(.int .i64 i5),(.int .i64 i6)]),(.agg [(.int .i64 i30),(.int .i64 i31),(.int .i64 i32),(.int .i64 i33)])]:Ls))
 (cbr (decide (i38=(2:Int)))
 (a ([(.agg [(.int .i64 i3),(.int .i64 i4),(.int .i64 i5),(.int .i64 i6)]),(.agg [(.int .i64 i34),(.int .i64 i35),(.int .i64 i36),(.int .i64 i37)])]:Ls))
 False)))
 (cbr (decide (i21=(1:Int)))
 (cbr (decide (i38=(0:Int)))
 (a ([(.agg [(.int .i64 i7),(.int .i64 i8),(.int .i64 i9),(.int .i64 i10)]),(.agg [(.int .i64 i26),(.int .i64 i27),(.int .i64 i28),(.int .i64 i29)])]:Ls))
 (cbr (decide (i38=(1:Int)))
 (a ([(.agg [(.int .i64 i7),(.int .i64 i8),(.int .i64 i9),(.int .i64 i10)]),(.agg [(.int .i64 i30),(.int .i64 i31),(.int .i64 i32),(.int .i64 i33)])]:Ls))
 (cbr (decide (i38=(2:Int)))
 (a ([(.agg [(.int .i64 i7),(.int .i64 i8),(.int .i64 i9),(.int .i64 i10)]),(.agg [(.int .i64 i34),(.int .i64 i35),(.int .i64 i36),(.int .i64 i37)])]:Ls))
 False)))
 (cbr (decide (i21=(2:Int)))
 (cbr (decide (i38=(0:Int)))
 (a ([(.agg [(.int .i64 i11),(.int .i64 i12),(.int .i64 i13),(.int .i64 i14)]),(.agg [(.int .i64 i26),(.int .i64 i27),(.int .i64 i28),(.int .i64 i29)])]:Ls))
 (cbr (decide (i38=(1:Int)))
 (a ([(.agg [(.int .i64 i11),(.int .i64 i12),(.int .i64 i13),(.int .i64 i14)]),(.agg [(.int .i64 i30),(.int .i64 i31),(.int .i64 i32),(.int .i64 i33)])]:Ls))
 (cbr (decide (i38=(2:Int)))
 (a ([(.agg [(.int .i64 i11),(.int .i64 i12),(.int .i64 i13),(.int .i64 i14)]),(.agg [(.int .i64 i34),(.int .i64 i35),(.int .i64 i36),(.int .i64 i37)])]:Ls))
 False)))
 False)))
 (cbr (decide (i38=(2:Int)))
 (cbr (decide (i22=(0:Int)))
 (cbr (decide (i38=(0:Int)))
 (a ([(.agg [(.int .i64 i3),(.int .i64 i4),(.int .i64 i5),(.int .i64 i6)]),(.agg [(.int .i64 i26),(.int .i64 i27),(.int .i64 i28),(.int .i64 i29)])]:Ls))
 (cbr (decide (i38=(1:Int)))
 (a ([(.agg [(.int .i64 i3),(.int .i64 i4),(.int .i64 i5),(.int .i64 i6)]),(.agg [(.int .i64 i30),(.int .i64 i31),(.int .i64 i32),(.int .i64 i33)])]:Ls))
 (cbr (decide (i38=(2:Int)))
 (a ([(.agg [(.int .i64 i3),(.int .i64 i4),(.int .i64 i5),(.int .i64 i6)]),(.agg [(.int .i64 i34),(.int .i64 i35),(.int .i64 i36),(.int .i64 i37)])]:Ls))
 False)))
 (cbr (decide (i22=(1:Int)))
 (cbr (decide (i38=(0:Int)))
 (a ([(.agg [(.int .i64 i7),(.int .i64 i8),(.int .i64 i9),(.int .i64 i10)]),(.agg [(.int .i64 i26),(.int .i64 i27),(.int .i64 i28),(.int .i64 i29)])]:Ls))
 (cbr (decide (i38=(1:Int)))
 (a ([(.agg [(.int .i64 i7),(.int .i64 i8),(.int .i64 i9),(.int .i64 i10)]),(.agg [(.int .i64 i30),(.int .i64 i31),(.int .i64 i32),(.int .i64 i33)])]:Ls))
 (cbr (decide (i38=(2:Int)))
 (a ([(.agg [(.int .i64 i7),(.int .i64 i8),(.int .i64 i9),(.int .i64 i10)]),(.agg [(.int .i64 i34),(.int .i64 i35),(.int .i64 i36),(.int .i64 i37)])]:Ls))
 False)))
 (cbr (decide (i22=(2:Int)))
 (cbr (decide (i38=(0:Int)))
 (a ([(.agg [(.int .i64 i11),(.int .i64 i12),(.int .i64 i13),(.int .i64 i14)]),(.agg [(.int .i64 i26),(.int .i64 i27),(.int .i64 i28),(.int .i64 i29)])]:Ls))
 (cbr (decide (i38=(1:Int)))
 (a ([(.agg [(.int .i64 i11),(.int .i64 i12),(.int .i64 i13),(.int .i64 i14)]),(.agg [(.int .i64 i30),(.int .i64 i31),(.int .i64 i32),(.int .i64 i33)])]:Ls))
 (cbr (decide (i38=(2:Int)))
 (a ([(.agg [(.int .i64 i11),(.int .i64 i12),(.int .i64 i13),(.int .i64 i14)]),(.agg [(.int .i64 i34),(.int .i64 i35),(.int .i64 i36),(.int .i64 i37)])]:Ls))
 False)))
 False)))
 False))))
 (fun i=>(asr (decide ((List.length l0)=List.length l0)&&decide ((List.length l0)=List.length l0))
 (∃ j:Nat,yhW a0 a1 a2 a3 a4
 (fun b k l m n o p q r s t u v w x y z A B C D E F G H I J K L M N O Q R S T U _ _ _ _=>(a3 ([]:Ls) (fun V W =>
 (a4 V W (fun e =>
 (asr (decide ((List.length b)=(List.length b)))
 (asr (decide ((0+(List.length b))≤(List.length b)))
 (asr (!(decide (((0+(List.length b))+1)≤(List.length b))))
 (asr (decide ((List.length b)=(List.length b)))
 (asr (decide ((((List.length b)+1)+64)*(24+1)≤room))
 (lt (IntKind.i64.wrap (U+(1:Int))) (fun X =>
 (asr (decide ((List.length (b++([(.data e)]:Ls)))=List.length (b++([(.data e)]:Ls)))&&decide ((List.length (b++([(.data e)]:Ls)))=List.length (b++([(.data e)]:Ls))))
 (yfB a0 a1 a2 a3 a4 g h (b++([(.data e)]:Ls)) k l m n o p q r s t u v w x y z A B C D E F G H I J K L M N O Q R S T X))))))))))))))
 (fun c d Y Z va vb vc vd ve vf vg vh vi vj vk vl vm vn vo vp vq vr vs vt vu vv vw vx vy vz vA vB vC vD vE vF vG vH _ _ _ _=>(asr (decide ((List.length d)=(List.length d)))
 (asr (decide ((0+(List.length d))≤(List.length d)))
 (a3 (List.take (List.length d) d) (fun vI vJ =>
 (a4 vI vJ (fun f =>
 (asr (decide ((List.length c)=(List.length c)))
 (asr (decide ((0+(List.length c))≤(List.length c)))
 (asr (!(decide (((0+(List.length c))+1)≤(List.length c))))
 (asr (decide ((List.length c)=(List.length c)))
 (asr (decide ((((List.length c)+1)+64)*(24+1)≤room))
 (lt (IntKind.i64.wrap (vH+(1:Int))) (fun vK =>
 (asr (decide ((List.length (c++([(.data f)]:Ls)))=List.length (c++([(.data f)]:Ls)))&&decide ((List.length (c++([(.data f)]:Ls)))=List.length (c++([(.data f)]:Ls))))
 (yfB a0 a1 a2 a3 a4 g h (c++([(.data f)]:Ls)) Y Z va vb vc vd ve vf vg vh vi vj vk vl vm vn vo vp vq vr vs vt vu vv vw vx vy vz vA vB vC vD vE vF vG vK))))))))))))))))
 j l0 i3 i4 i5 i6 i7 i8 i9 i10 i11 i12 i13 i14 i15 i16 i17 i18 i19 i20 i21 i22 i23 l24 l25 i26 i27 i28 i29 i30 i31 i32 i33 i34 i35 i36 i37 i38 i (2:Int) (0:Int)))))
 (g l0 i3 i4 i5 i6 i7 i8 i9 i10 i11 i12 i13 i14 i15 i16 i17 i18 i19 i20 i21 i22 i23 l24 l25 i26 i27 i28 i29 i30 i31 i32 i33 i34 i35 i36 i37 i38 false))
def yaA (a0:yat) (a1:yaE) (a2:yaH) (a3:ybn) (a4:yaK) (g:Ls→Int→Int→Int→Int→Int→Int→Int→Int→Int→Int→Int→Int→Int→Int→Int→Int→Int→Int→Int→Int→Int→Ls→Ls→Int→Int→Int→Int→Int→Int→Int→Int→Int→Int→Int→Int→Int→Bool→Prop):Nat→Ls→Int→Int→Int→Int→Int→Int→Int→Int→Int→Int→Int→Int→Int→Int→Int→Int→Int→Int→Int→Int→Int→Ls→Ls→Int→Int→Int→Int→Int→Int→Int→Int→Int→Int→Int→Int→Int→Prop
 | 0,_,_,_,_,_,_,_,_,_,_,_,_,_,_,_,_,_,_,_,_,_,_,_,_,_,_,_,_,_,_,_,_,_,_,_,_,_=>False
 | h+1,l0,i3,i4,i5,i6,i7,i8,i9,i10,i11,i12,i13,i14,i15,i16,i17,i18,i19,i20,i21,i22,i23,l24,l25,i26,i27,i28,i29,i30,i31,i32,i33,i34,i35,i36,i37,i38 =>
 (cbr (decide (i38<(3:Int)))
 (jn (fun (a:Ls→Prop) =>
 (cbr (decide (i38=(0:Int)))
 (cbr (decide (i20=(0:Int)))
 (cbr (decide (i38=(0:Int)))
 (a ([(.agg [(.int .i64 i3),(.int .i64 i4),(.int .i64 i5),(.int .i64 i6)]),(.agg [(.int .i64 i26),(.int .i64 i27),(.int .i64 i28),(.int .i64 i29)])]:Ls))
 (cbr (decide (i38=(1:Int)))
 (a ([(.agg [(.int .i64 i3),(.int .i64 i4),(.int .i64 i5),(.int .i64 i6)]),(.agg [(.int .i64 i30),(.int .i64 i31),(.int .i64 i32),(.int .i64 i33)])]:Ls))
 (cbr (decide (i38=(2:Int)))
 (a ([(.agg [(.int .i64 i3),(.int .i64 i4),(.int .i64 i5),(.int .i64 i6)]),(.agg [(.int .i64 i34),(.int .i64 i35),(.int .i64 i36),(.int .i64 i37)])]:Ls))
 False)))
 (cbr (decide (i20=(1:Int)))
 (cbr (decide (i38=(0:Int)))
 (a ([(.agg [(.int .i64 i7),(.int .i64 i8),(.int .i64 i9),(.int .i64 i10)]),(.agg [(.int .i64 i26),(.int .i64 i27),(.int .i64 i28),(.int .i64 i29)])]:Ls))
 (cbr (decide (i38=(1:Int)))
 (a ([(.agg [(.int .i64 i7),(.int .i64 i8),(.int .i64 i9),(.int .i64 i10)]),(.agg [(.int .i64 i30),(.int .i64 i31),(.int .i64 i32),(.int .i64 i33)])]:Ls))
 (cbr (decide (i38=(2:Int)))
 (a ([(.agg [(.int .i64 i7),(.int .i64 i8),(.int .i64 i9),(.int .i64 i10)]),(.agg [(.int .i64 i34),(.int .i64 i35),(.int .i64 i36),(.int .i64 i37)])]:Ls))
 False)))
 (cbr (decide (i20=(2:Int)))
 (cbr (decide (i38=(0:Int)))
 (a ([(.agg [(.int .i64 i11),(.int .i64 i12),(.int .i64 i13),(.int .i64 i14)]),(.agg [(.int .i64 i26),(.int .i64 i27),(.int .i64 i28),(.int .i64 i29)])]:Ls))
 (cbr (decide (i38=(1:Int)))
 (a ([(.agg [(.int .i64 i11),(.int .i64 i12),(.int .i64 i13),(.int .i64 i14)]),(.agg [(.int .i64 i30),(.int .i64 i31),(.int .i64 i32),(.int .i64 i33)])]:Ls))
 (cbr (decide (i38=(2:Int)))
 (a ([(.agg [(.int .i64 i11),(.int .i64 i12),(.int .i64 i13),(.int .i64 i14)]),(.agg [(.int .i64 i34),(.int .i64 i35),(.int .i64 i36),(.int .i64 i37)])]:Ls))
 False)))
 False)))
 (cbr (decide (i38=(1:Int)))
 (cbr (decide (i21=(0:Int)))
 (cbr (decide (i38=(0:Int)))
 (a ([(.agg [(.int .i64 i3),(.int .i64 i4),(.int .i64 i5),(.int .i64 i6)]),(.agg [(.int .i64 i26),(.int .i64 i27),(.int .i64 i28),(.int .i64 i29)])]:Ls))
 (cbr (decide (i38=(1:Int)))
 (a ([(.agg [(.int .i64 i3),(.int .i64 i4),(.int .i64 i5),(.int .i64 i6)]),(.agg [(.int .i64 i30),(.int .i64 i31),(.int .i64 i32),(.int .i64 i33)])]:Ls))
 (cbr (decide (i38=(2:Int)))
 (a ([(.agg [(.int .i64 i3),(.int .i64 i4),(.int .i64 i5),(.int .i64 i6)]),(.agg [(.int .i64 i34),(.int .i64 i35),(.int .i64 i36),(.int .i64 i37)])]:Ls))
 False)))
 (cbr (decide (i21=(1:Int)))
 (cbr (decide (i38=(0:Int)))
 (a ([(.agg [(.int .i64 i7),(.int .i64 i8),(.int .i64 i9),(.int .i64 i10)]),(.agg [(.int .i64 i26),(.int .i64 i27),(.int .i64 i28),(.int .i64 i29)])]:Ls))
 (cbr (decide (i38=(1:Int)))
 (a ([(.agg [(.int .i64 i7),(.int .i64 i8),(.int .i64 i9),(.int .i64 i10)]),(.agg [(.int .i64 i30),(.int .i64 i31),(.int .i64 i32),(.int .i64 i33)])]:Ls))
 (cbr (decide (i38=(2:Int)))
 (a ([(.agg [(.int .i64 i7),(.int .i64 i8),(.int .i64 i9),(.int .i64 i10)]),(.agg [(.int .i64 i34),(.int .i64 i35),(.int .i64 i36),(.int .i64 i37)])]:Ls))
 False)))
 (cbr (decide (i21=(2:Int)))
 (cbr (decide (i38=(0:Int)))
 (a ([(.agg [(.int .i64 i11),(.int .i64 i12),(.int .i64 i13),(.int .i64 i14)]),(.agg [(.int .i64 i26),(.int .i64 i27),(.int .i64 i28),(.int .i64 i29)])]:Ls))
 (cbr (decide (i38=(1:Int)))
 (a ([(.agg [(.int .i64 i11),(.int .i64 i12),(.int .i64 i13),(.int .i64 i14)]),(.agg [(.int .i64 i30),(.int .i64 i31),(.int .i64 i32),(.int .i64 i33)])]:Ls))
 (cbr (decide (i38=(2:Int)))
 (a ([(.agg [(.int .i64 i11),(.int .i64 i12),(.int .i64 i13),(.int .i64 i14)]),(.agg [(.int .i64 i34),(.int .i64 i35),(.int .i64 i36),(.int .i64 i37)])]:Ls))
 False)))
 False)))
 (cbr (decide (i38=(2:Int)))
 (cbr (decide (i22=(0:Int)))
 (cbr (decide (i38=(0:Int)))
 (a ([(.agg [(.int .i64 i3),(.int .i64 i4),(.int .i64 i5),(.int .i64 i6)]),(.agg [(.int .i64 i26),(.int .i64 i27),(.int .i64 i28),(.int .i64 i29)])]:Ls))
 (cbr (decide (i38=(1:Int)))
 (a ([(.agg [(.int .i64 i3),(.int .i64 i4),(.int .i64 i5),(.int .i64 i6)]),(.agg [(.int .i64 i30),(.int .i64 i31),(.int .i64 i32),(.int .i64 i33)])]:Ls))
 (cbr (decide (i38=(2:Int)))
 (a ([(.agg [(.int .i64 i3),(.int .i64 i4),(.int .i64 i5),(.int .i64 i6)]),(.agg [(.int .i64 i34),(.int .i64 i35),(.int .i64 i36),(.int .i64 i37)])]:Ls))
 False)))
 (cbr (decide (i22=(1:Int)))
 (cbr (decide (i38=(0:Int)))
 (a ([(.agg [(.int .i64 i7),(.int .i64 i8),(.int .i64 i9),(.int .i64 i10)]),(.agg [(.int .i64 i26),(.int .i64 i27),(.int .i64 i28),(.int .i64 i29)])]:Ls))
 (cbr (decide (i38=(1:Int)))
 (a ([(.agg [(.int .i64 i7),(.int .i64 i8),(.int .i64 i9),(.int .i64 i10)]),(.agg [(.int .i64 i30),(.int .i64 i31),(.int .i64 i32),(.int .i64 i33)])]:Ls))
 (cbr (decide (i38=(2:Int)))
 (a ([(.agg [(.int .i64 i7),(.int .i64 i8),(.int .i64 i9),(.int .i64 i10)]),(.agg [(.int .i64 i34),(.int .i64 i35),(.int .i64 i36),(.int .i64 i37)])]:Ls))
 False)))
 (cbr (decide (i22=(2:Int)))
 (cbr (decide (i38=(0:Int)))
 (a ([(.agg [(.int .i64 i11),(.int .i64 i12),(.int .i64 i13),(.int .i64 i14)]),(.agg [(.int .i64 i26),(.int .i64 i27),(.int .i64 i28),(.int .i64 i29)])]:Ls))
 (cbr (decide (i38=(1:Int)))
 (a ([(.agg [(.int .i64 i11),(.int .i64 i12),(.int .i64 i13),(.int .i64 i14)]),(.agg [(.int .i64 i30),(.int .i64 i31),(.int .i64 i32),(.int .i64 i33)])]:Ls))
 (cbr (decide (i38=(2:Int)))
 (a ([(.agg [(.int .i64 i11),(.int .i64 i12),(.int .i64 i13),(.int .i64 i14)]),(.agg [(.int .i64 i34),(.int .i64 i35),(.int .i64 i36),(.int .i64 i37)])]:Ls))
 False)))
 False)))
 False))))
 (fun i=>(asr (decide ((List.length l0)=List.length l0)&&decide ((List.length l0)=List.length l0))
 (∃ j:Nat,ycr a0 a1 a2 a3 a4
 (fun b k l m n o p q r s t u v w x y z A B C D E F G H I J K L M N O Q R S T U _ _ _ _=>(a3 ([]:Ls) (fun V W =>
 (a4 V W (fun e =>
 (asr (decide ((List.length b)=(List.length b)))
 (asr (decide ((0+(List.length b))≤(List.length b)))
 (asr (!(decide (((0+(List.length b))+1)≤(List.length b))))
 (asr (decide ((List.length b)=(List.length b)))
 (asr (decide ((((List.length b)+1)+64)*(24+1)≤room))
 (lt (IntKind.i64.wrap (U+(1:Int))) (fun X =>
 (asr (decide ((List.length (b++([(.data e)]:Ls)))=List.length (b++([(.data e)]:Ls)))&&decide ((List.length (b++([(.data e)]:Ls)))=List.length (b++([(.data e)]:Ls))))
 (yaA a0 a1 a2 a3 a4 g h (b++([(.data e)]:Ls)) k l m n o p q r s t u v w x y z A B C D E F G H I J K L M N O Q R S T X))))))))))))))
 (fun c d Y Z va vb vc vd ve vf vg vh vi vj vk vl vm vn vo vp vq vr vs vt vu vv vw vx vy vz vA vB vC vD vE vF vG vH _ _ _ _=>(asr (decide ((List.length d)=(List.length d)))
 (asr (decide ((0+(List.length d))≤(List.length d)))
 (a3 (List.take (List.length d) d) (fun vI vJ =>
 (a4 vI vJ (fun f =>
 (asr (decide ((List.length c)=(List.length c)))
 (asr (decide ((0+(List.length c))≤(List.length c)))
 (asr (!(decide (((0+(List.length c))+1)≤(List.length c))))
 (asr (decide ((List.length c)=(List.length c)))
 (asr (decide ((((List.length c)+1)+64)*(24+1)≤room))
 (lt (IntKind.i64.wrap (vH+(1:Int))) (fun vK =>
 (asr (decide ((List.length (c++([(.data f)]:Ls)))=List.length (c++([(.data f)]:Ls)))&&decide ((List.length (c++([(.data f)]:Ls)))=List.length (c++([(.data f)]:Ls))))
 (yaA a0 a1 a2 a3 a4 g h (c++([(.data f)]:Ls)) Y Z va vb vc vd ve vf vg vh vi vj vk vl vm vn vo vp vq vr vs vt vu vv vw vx vy vz vA vB vC vD vE vF vG vK))))))))))))))))
 j l0 i3 i4 i5 i6 i7 i8 i9 i10 i11 i12 i13 i14 i15 i16 i17 i18 i19 i20 i21 i22 i23 l24 l25 i26 i27 i28 i29 i30 i31 i32 i33 i34 i35 i36 i37 i38 i (2:Int) (0:Int)))))
 (g l0 i3 i4 i5 i6 i7 i8 i9 i10 i11 i12 i13 i14 i15 i16 i17 i18 i19 i20 i21 i22 i23 l24 l25 i26 i27 i28 i29 i30 i31 i32 i33 i34 i35 i36 i37 i38 false))
def ybw (a0:yat) (a1:yaE) (a2:yaH) (a3:ybn) (a4:yaK) (f:Int→Int→Int→Int→Int→Int→Int→Int→Int→Int→Int→Int→Int→Int→Int→Int→Int→Int→Int→Int→Int→Ls→Ls→Int→Int→Int→Int→Int→Int→Int→Int→Int→Int→Int→Int→Int→Bool→Prop) (g:Ls→Int→Int→Int→Int→Int→Int→Int→Int→Int→Int→Int→Int→Int→Int→Int→Int→Int→Int→Int→Int→Int→Ls→Ls→Int→Int→Int→Int→Int→Int→Int→Int→Int→Int→Int→Int→Int→Bool→Prop) (h:Ls→Int→Int→Int→Int→Int→Int→Int→Int→Int→Int→Int→Int→Int→Int→Int→Int→Int→Int→Int→Int→Int→Ls→Ls→Int→Int→Int→Int→Int→Int→Int→Int→Int→Int→Int→Int→Int→Bool→Prop):Nat→Int→Int→Int→Int→Int→Int→Int→Int→Int→Int→Int→Int→Int→Int→Int→Int→Int→Int→Int→Int→Int→Ls→Ls→Int→Int→Int→Int→Int→Int→Int→Int→Int→Int→Int→Int→Int→Prop
 | 0,_,_,_,_,_,_,_,_,_,_,_,_,_,_,_,_,_,_,_,_,_,_,_,_,_,_,_,_,_,_,_,_,_,_,_,_=>False
 | e+1,i0,i1,i2,i3,i4,i5,i6,i7,i8,i9,i10,i11,i12,i13,i14,i15,i16,i17,i18,i19,i20,l21,l22,i23,i24,i25,i26,i27,i28,i29,i30,i31,i32,i33,i34,i35 =>
 (cbr (decide (i35<(3:Int)))
 (jn (fun (a:Ls→Prop) =>
 (cbr (decide (i35=(0:Int)))
 (cbr (decide (i17=(0:Int)))
 (cbr (decide (i35=(0:Int)))
 (a ([(.agg [(.int .i64 i0),(.int .i64 i1),(.int .i64 i2),(.int .i64 i3)]),(.agg [(.int .i64 i23),(.int .i64 i24),(.int .i64 i25),(.int .i64 i26)])]:Ls))
 (cbr (decide (i35=(1:Int)))
 (a ([(.agg [(.int .i64 i0),(.int .i64 i1),(.int .i64 i2),(.int .i64 i3)]),(.agg [(.int .i64 i27),(.int .i64 i28),(.int .i64 i29),(.int .i64 i30)])]:Ls))
 (cbr (decide (i35=(2:Int)))
 (a ([(.agg [(.int .i64 i0),(.int .i64 i1),(.int .i64 i2),(.int .i64 i3)]),(.agg [(.int .i64 i31),(.int .i64 i32),(.int .i64 i33),(.int .i64 i34)])]:Ls))
 False)))
 (cbr (decide (i17=(1:Int)))
 (cbr (decide (i35=(0:Int)))
 (a ([(.agg [(.int .i64 i4),(.int .i64 i5),(.int .i64 i6),(.int .i64 i7)]),(.agg [(.int .i64 i23),(.int .i64 i24),(.int .i64 i25),(.int .i64 i26)])]:Ls))
 (cbr (decide (i35=(1:Int)))
 (a ([(.agg [(.int .i64 i4),(.int .i64 i5),(.int .i64 i6),(.int .i64 i7)]),(.agg [(.int .i64 i27),(.int .i64 i28),(.int .i64 i29),(.int .i64 i30)])]:Ls))
 (cbr (decide (i35=(2:Int)))
 (a ([(.agg [(.int .i64 i4),(.int .i64 i5),(.int .i64 i6),(.int .i64 i7)]),(.agg [(.int .i64 i31),(.int .i64 i32),(.int .i64 i33),(.int .i64 i34)])]:Ls))
 False)))
 (cbr (decide (i17=(2:Int)))
 (cbr (decide (i35=(0:Int)))
 (a ([(.agg [(.int .i64 i8),(.int .i64 i9),(.int .i64 i10),(.int .i64 i11)]),(.agg [(.int .i64 i23),(.int .i64 i24),(.int .i64 i25),(.int .i64 i26)])]:Ls))
 (cbr (decide (i35=(1:Int)))
 (a ([(.agg [(.int .i64 i8),(.int .i64 i9),(.int .i64 i10),(.int .i64 i11)]),(.agg [(.int .i64 i27),(.int .i64 i28),(.int .i64 i29),(.int .i64 i30)])]:Ls))
 (cbr (decide (i35=(2:Int)))
 (a ([(.agg [(.int .i64 i8),(.int .i64 i9),(.int .i64 i10),(.int .i64 i11)]),(.agg [(.int .i64 i31),(.int .i64 i32),(.int .i64 i33),(.int .i64 i34)])]:Ls))
 False)))
 False)))
 (cbr (decide (i35=(1:Int)))
 (cbr (decide (i18=(0:Int)))
 (cbr (decide (i35=(0:Int)))
 (a ([(.agg [(.int .i64 i0),(.int .i64 i1),(.int .i64 i2),(.int .i64 i3)]),(.agg [(.int .i64 i23),(.int .i64 i24),(.int .i64 i25),(.int .i64 i26)])]:Ls))
 (cbr (decide (i35=(1:Int)))
 (a ([(.agg [(.int .i64 i0),(.int .i64 i1),(.int .i64 i2),(.int .i64 i3)]),(.agg [(.int .i64 i27),(.int .i64 i28),(.int .i64 i29),(.int .i64 i30)])]:Ls))
 (cbr (decide (i35=(2:Int)))
 (a ([(.agg [(.int .i64 i0),(.int .i64 i1),(.int .i64 i2),(.int .i64 i3)]),(.agg [(.int .i64 i31),(.int .i64 i32),(.int .i64 i33),(.int .i64 i34)])]:Ls))
 False)))
 (cbr (decide (i18=(1:Int)))
 (cbr (decide (i35=(0:Int)))
 (a ([(.agg [(.int .i64 i4),(.int .i64 i5),(.int .i64 i6),(.int .i64 i7)]),(.agg [(.int .i64 i23),(.int .i64 i24),(.int .i64 i25),(.int .i64 i26)])]:Ls))
 (cbr (decide (i35=(1:Int)))
 (a ([(.agg [(.int .i64 i4),(.int .i64 i5),(.int .i64 i6),(.int .i64 i7)]),(.agg [(.int .i64 i27),(.int .i64 i28),(.int .i64 i29),(.int .i64 i30)])]:Ls))
 (cbr (decide (i35=(2:Int)))
 (a ([(.agg [(.int .i64 i4),(.int .i64 i5),(.int .i64 i6),(.int .i64 i7)]),(.agg [(.int .i64 i31),(.int .i64 i32),(.int .i64 i33),(.int .i64 i34)])]:Ls))
 False)))
 (cbr (decide (i18=(2:Int)))
 (cbr (decide (i35=(0:Int)))
 (a ([(.agg [(.int .i64 i8),(.int .i64 i9),(.int .i64 i10),(.int .i64 i11)]),(.agg [(.int .i64 i23),(.int .i64 i24),(.int .i64 i25),(.int .i64 i26)])]:Ls))
 (cbr (decide (i35=(1:Int)))
 (a ([(.agg [(.int .i64 i8),(.int .i64 i9),(.int .i64 i10),(.int .i64 i11)]),(.agg [(.int .i64 i27),(.int .i64 i28),(.int .i64 i29),(.int .i64 i30)])]:Ls))
 (cbr (decide (i35=(2:Int)))
 (a ([(.agg [(.int .i64 i8),(.int .i64 i9),(.int .i64 i10),(.int .i64 i11)]),(.agg [(.int .i64 i31),(.int .i64 i32),(.int .i64 i33),(.int .i64 i34)])]:Ls))
 False)))
 False)))
 (cbr (decide (i35=(2:Int)))
 (cbr (decide (i19=(0:Int)))
 (cbr (decide (i35=(0:Int)))
 (a ([(.agg [(.int .i64 i0),(.int .i64 i1),(.int .i64 i2),(.int .i64 i3)]),(.agg [(.int .i64 i23),(.int .i64 i24),(.int .i64 i25),(.int .i64 i26)])]:Ls))
 (cbr (decide (i35=(1:Int)))
 (a ([(.agg [(.int .i64 i0),(.int .i64 i1),(.int .i64 i2),(.int .i64 i3)]),(.agg [(.int .i64 i27),(.int .i64 i28),(.int .i64 i29),(.int .i64 i30)])]:Ls))
 (cbr (decide (i35=(2:Int)))
 (a ([(.agg [(.int .i64 i0),(.int .i64 i1),(.int .i64 i2),(.int .i64 i3)]),(.agg [(.int .i64 i31),(.int .i64 i32),(.int .i64 i33),(.int .i64 i34)])]:Ls))
 False)))
 (cbr (decide (i19=(1:Int)))
 (cbr (decide (i35=(0:Int)))
 (a ([(.agg [(.int .i64 i4),(.int .i64 i5),(.int .i64 i6),(.int .i64 i7)]),(.agg [(.int .i64 i23),(.int .i64 i24),(.int .i64 i25),(.int .i64 i26)])]:Ls))
 (cbr (decide (i35=(1:Int)))
 (a ([(.agg [(.int .i64 i4),(.int .i64 i5),(.int .i64 i6),(.int .i64 i7)]),(.agg [(.int .i64 i27),(.int .i64 i28),(.int .i64 i29),(.int .i64 i30)])]:Ls))
 (cbr (decide (i35=(2:Int)))
 (a ([(.agg [(.int .i64 i4),(.int .i64 i5),(.int .i64 i6),(.int .i64 i7)]),(.agg [(.int .i64 i31),(.int .i64 i32),(.int .i64 i33),(.int .i64 i34)])]:Ls))
 False)))
 (cbr (decide (i19=(2:Int)))
 (cbr (decide (i35=(0:Int)))
 (a ([(.agg [(.int .i64 i8),(.int .i64 i9),(.int .i64 i10),(.int .i64 i11)]),(.agg [(.int .i64 i23),(.int .i64 i24),(.int .i64 i25),(.int .i64 i26)])]:Ls))
 (cbr (decide (i35=(1:Int)))
 (a ([(.agg [(.int .i64 i8),(.int .i64 i9),(.int .i64 i10),(.int .i64 i11)]),(.agg [(.int .i64 i27),(.int .i64 i28),(.int .i64 i29),(.int .i64 i30)])]:Ls))
 (cbr (decide (i35=(2:Int)))
 (a ([(.agg [(.int .i64 i8),(.int .i64 i9),(.int .i64 i10),(.int .i64 i11)]),(.agg [(.int .i64 i31),(.int .i64 i32),(.int .i64 i33),(.int .i64 i34)])]:Ls))
 False)))
 False)))
 False))))
 (fun i=>(∃ j:Nat,ydY a0 a1 a2 a3 a4
 (fun k l m n o p q r s t u v w x y z A B C D E F G H I J K L M N O Q R S T U _ _ _ _=>(a3 ([]:Ls) (fun V W =>
 (a4 V W (fun c =>
 (lt (IntKind.i64.wrap (U+(1:Int))) (fun X =>
 (asr (decide (1=List.length ([(.data c)]:Ls))&&decide (1=List.length ([(.data c)]:Ls)))
 (yfB a0 a1 a2 a3 a4 g e ([(.data c)]:Ls) k l m n o p q r s t u v w x y z A B C D E F G H I J K L M N O Q R S T X)))))))))
 (fun b Y Z va vb vc vd ve vf vg vh vi vj vk vl vm vn vo vp vq vr vs vt vu vv vw vx vy vz vA vB vC vD vE vF vG vH _ _ _ _=>(asr (decide ((List.length b)=(List.length b)))
 (asr (decide ((0+(List.length b))≤(List.length b)))
 (a3 (List.take (List.length b) b) (fun vI vJ =>
 (a4 vI vJ (fun d =>
 (lt (IntKind.i64.wrap (vH+(1:Int))) (fun vK =>
 (asr (decide (1=List.length ([(.data d)]:Ls))&&decide (1=List.length ([(.data d)]:Ls)))
 (yaA a0 a1 a2 a3 a4 h e ([(.data d)]:Ls) Y Z va vb vc vd ve vf vg vh vi vj vk vl vm vn vo vp vq vr vs vt vu vv vw vx vy vz vA vB vC vD vE vF vG vK)))))))))))
 j i0 i1 i2 i3 i4 i5 i6 i7 i8 i9 i10 i11 i12 i13 i14 i15 i16 i17 i18 i19 i20 l21 l22 i23 i24 i25 i26 i27 i28 i29 i30 i31 i32 i33 i34 i35 i (2:Int) (0:Int))))
 (f i0 i1 i2 i3 i4 i5 i6 i7 i8 i9 i10 i11 i12 i13 i14 i15 i16 i17 i18 i19 i20 l21 l22 i23 i24 i25 i26 i27 i28 i29 i30 i31 i32 i33 i34 i35 false))
def yld (a0:yat) (a1:yaE) (a2:yaH) (a3:ybn) (a4:yaK) (p0:Ls) (K:Ls→Int→Int→Int→Int→Int→Int→Int→Int→Int→Int→Int→Int→Int→Int→Int→Int→Int→Int→Int→Int→Ls→Int→Prop):Prop :=
 (a0 p0 ([]:Ls) (fun d =>
 (cbr (d !=(0:Int))
 (K ([]:Ls) (0:Int) (0:Int) (0:Int) (0:Int) (0:Int) (0:Int) (0:Int) (0:Int) (0:Int) (0:Int) (0:Int) (0:Int) (0:Int) (0:Int) (0:Int) (0:Int) (0:Int) (0:Int) (0:Int) (0:Int) ([]:Ls) d)
 (a1 p0 ([]:Ls) (fun e f g h i j k l m n o p c q r s t u v w x y =>
 (jn (fun (z:Ls→Ls→Int→Int→Int→Int→Int→Int→Int→Int→Int→Int→Int→Int→Prop) =>
 (cbr (decide (c≥(0:Int)))
 (a2 x y e f g h i j k l m n o p c q r s t u v w (fun D E F G H I J L M N O Q R S =>
 (z R S D E F G H I J L M N O Q)))
 (z x y (0:Int) (0:Int) (0:Int) (0:Int) (0:Int) (0:Int) (0:Int) (0:Int) (0:Int) (0:Int) (0:Int) (0:Int))))
 (fun T U V W X Y Z va vb vc vd ve vf vg=>(∃ vh:Nat,ybw a0 a1 a2 a3 a4
 (fun vi vj vk vl vm vn vo vp vq vr vs vt vu vv vw vx vy vz vA vB A _ vC _ _ _ _ _ _ _ _ _ _ _ _ _ _=>(cbr (A !=(0:Int))
 (K ([]:Ls) (0:Int) (0:Int) (0:Int) (0:Int) (0:Int) (0:Int) (0:Int) (0:Int) (0:Int) (0:Int) (0:Int) (0:Int) (0:Int) (0:Int) (0:Int) (0:Int) (0:Int) (0:Int) (0:Int) (0:Int) ([]:Ls) A)
 (K ([]:Ls) vi vj vk vl vm vn vo vp vq vr vs vt vu vv vw vx vy vz vA vB vC (0:Int))))
 (fun a vD vE vF vG vH vI vJ vK vL vM vN vO vP vQ vR vS vT vU vV vW B _ vX _ _ _ _ _ _ _ _ _ _ _ _ _ _=>(cbr (B !=(0:Int))
 (K ([]:Ls) (0:Int) (0:Int) (0:Int) (0:Int) (0:Int) (0:Int) (0:Int) (0:Int) (0:Int) (0:Int) (0:Int) (0:Int) (0:Int) (0:Int) (0:Int) (0:Int) (0:Int) (0:Int) (0:Int) (0:Int) ([]:Ls) B)
 (asr (decide ((List.length a)=(List.length a)))
 (asr (decide ((0+(List.length a))≤(List.length a)))
 (K (List.take (List.length a) a) vD vE vF vG vH vI vJ vK vL vM vN vO vP vQ vR vS vT vU vV vW vX (0:Int))))))
 (fun b vY vZ v0 v1 v2 v3 v4 v5 v6 v7 v8 v9 wa wb wc wd we wf wg wh C _ wi _ _ _ _ _ _ _ _ _ _ _ _ _ _=>(cbr (C !=(0:Int))
 (K ([]:Ls) (0:Int) (0:Int) (0:Int) (0:Int) (0:Int) (0:Int) (0:Int) (0:Int) (0:Int) (0:Int) (0:Int) (0:Int) (0:Int) (0:Int) (0:Int) (0:Int) (0:Int) (0:Int) (0:Int) (0:Int) ([]:Ls) C)
 (asr (decide ((List.length b)=(List.length b)))
 (asr (decide ((0+(List.length b))≤(List.length b)))
 (K (List.take (List.length b) b) vY vZ v0 v1 v2 v3 v4 v5 v6 v7 v8 v9 wa wb wc wd we wf wg wh wi (0:Int))))))
 vh e f g h i j k l m n o p c q r s t u v w (0:Int) T U V W X Y Z va vb vc vd ve vf vg (0:Int)))))))))
def yiY:yna:=yld yao yag yah yaj yaf
def yzz:Sg:=⟨pt9,Ls→Int→Int→Int→Int→Int→Int→Int→Int→Int→Int→Int→Int→Int→Int→Int→Int→Int→Int→Int→Int→Ls→Int→Prop,fun K=>(fun r0 r1 r2 r3 r4 r5 r6 r7 r8 r9 r10 r11 r12 r13 r14 r15 r16 r17 r18 r19 r20 r21 r22=>K (.tup [(.agg [(.data r0)]),(.agg [(.int .i64 r1),(.int .i64 r2),(.int .i64 r3),(.int .i64 r4),(.int .i64 r5),(.int .i64 r6),(.int .i64 r7),(.int .i64 r8),(.int .i64 r9),(.int .i64 r10),(.int .i64 r11),(.int .i64 r12),(.int .i64 r13),(.int .i64 r14),(.int .i64 r15),(.int .i64 r16),(.int .i64 r17),(.int .i64 r18),(.int .i64 r19),(.int .i64 r20)]),(.data r21),(.int .i64 r22)]))⟩
def yu9 (Q:Qx):Int→Int→Int→Int→Int→Int→Int→Int→Int→Int→Int→Int→Int→Int→Int→Int→Int→Int→Int→Int→Int→Ls→Ls→Int→Int→Int→Int→Int→Int→Int→Int→Int→Int→Int→Int→Int→Ls→Int→Int→Bool→Prop:=(fun i0 i1 i2 i3 i4 i5 i6 i7 i8 i9 i10 i11 i12 i13 i14 i15 i16 i17 i18 i19 i20 l21 l22 i23 i24 i25 i26 i27 i28 i29 i30 i31 i32 i33 i34 i35 l36 i37 i38 b39=>Q (.exit 2) [(2,.v (.ptr 1 1 0 0)),(3,.v (.ptr 0 1 0 0)),(4,.box (.agg [(.int .i64 i23),(.int .i64 i24),(.int .i64 i25),(.int .i64 i26),(.int .i64 i27),(.int .i64 i28),(.int .i64 i29),(.int .i64 i30),(.int .i64 i31),(.int .i64 i32),(.int .i64 i33),(.int .i64 i34)])),(6,.v .nils),(15,.v (.int .i64 i35)),(28,.v (.data l36)),(29,.v (.int .i64 i37)),(30,.v (.int .i64 i38)),(31,.v (.bool b39))] [⟨false,false,1,([(.agg [.nils])]:Ls)⟩,⟨false,true,20,([(.agg [(.int .i64 i0),(.int .i64 i1),(.int .i64 i2),(.int .i64 i3),(.int .i64 i4),(.int .i64 i5),(.int .i64 i6),(.int .i64 i7),(.int .i64 i8),(.int .i64 i9),(.int .i64 i10),(.int .i64 i11),(.int .i64 i12),(.int .i64 i13),(.int .i64 i14),(.int .i64 i15),(.int .i64 i16),(.int .i64 i17),(.int .i64 i18),(.int .i64 i19)])]:Ls)⟩,⟨false,true,1,([(.int .i64 i20)]:Ls)⟩,⟨false,true,2,([(.agg [(.data l21),(.data l22)])]:Ls)⟩])
def ylP (Q:Qx):Ls→Int→Int→Int→Int→Int→Int→Int→Int→Int→Int→Int→Int→Int→Int→Int→Int→Int→Int→Int→Int→Int→Ls→Ls→Int→Int→Int→Int→Int→Int→Int→Int→Int→Int→Int→Int→Int→Ls→Int→Int→Bool→Prop:=(fun l0 i1 i2 i3 i4 i5 i6 i7 i8 i9 i10 i11 i12 i13 i14 i15 i16 i17 i18 i19 i20 i21 l22 l23 i24 i25 i26 i27 i28 i29 i30 i31 i32 i33 i34 i35 i38 l39 i40 i41 b42=>Q (.exit 2) [(2,.v (.ptr 1 1 0 0)),(3,.v (.ptr 0 1 0 0)),(4,.box (.agg [(.int .i64 i24),(.int .i64 i25),(.int .i64 i26),(.int .i64 i27),(.int .i64 i28),(.int .i64 i29),(.int .i64 i30),(.int .i64 i31),(.int .i64 i32),(.int .i64 i33),(.int .i64 i34),(.int .i64 i35)])),(6,.v (.own 4 0 (List.length l0) (List.length l0) none)),(15,.v (.int .i64 i38)),(28,.v (.data l39)),(29,.v (.int .i64 i40)),(30,.v (.int .i64 i41)),(31,.v (.bool b42))] [⟨false,false,1,([(.agg [.nils])]:Ls)⟩,⟨false,true,20,([(.agg [(.int .i64 i1),(.int .i64 i2),(.int .i64 i3),(.int .i64 i4),(.int .i64 i5),(.int .i64 i6),(.int .i64 i7),(.int .i64 i8),(.int .i64 i9),(.int .i64 i10),(.int .i64 i11),(.int .i64 i12),(.int .i64 i13),(.int .i64 i14),(.int .i64 i15),(.int .i64 i16),(.int .i64 i17),(.int .i64 i18),(.int .i64 i19),(.int .i64 i20)])]:Ls)⟩,⟨false,true,1,([(.int .i64 i21)]:Ls)⟩,⟨false,true,2,([(.agg [(.data l22),(.data l23)])]:Ls)⟩,⟨false,true,4,l0⟩])
def yva (Q:Qx):Ls→Int→Int→Int→Int→Int→Int→Int→Int→Int→Int→Int→Int→Int→Int→Int→Int→Int→Int→Int→Int→Int→Ls→Ls→Int→Int→Int→Int→Int→Int→Int→Int→Int→Int→Int→Int→Int→Ls→Int→Int→Bool→Prop:=(fun l0 i3 i4 i5 i6 i7 i8 i9 i10 i11 i12 i13 i14 i15 i16 i17 i18 i19 i20 i21 i22 i23 l24 l25 i26 i27 i28 i29 i30 i31 i32 i33 i34 i35 i36 i37 i38 l39 i40 i41 b42=>Q (.exit 2) [(2,.v (.ptr 1 1 0 0)),(3,.v (.ptr 0 1 0 0)),(4,.box (.agg [(.int .i64 i26),(.int .i64 i27),(.int .i64 i28),(.int .i64 i29),(.int .i64 i30),(.int .i64 i31),(.int .i64 i32),(.int .i64 i33),(.int .i64 i34),(.int .i64 i35),(.int .i64 i36),(.int .i64 i37)])),(6,.v .nils),(15,.v (.int .i64 i38)),(28,.v (.data l39)),(29,.v (.int .i64 i40)),(30,.v (.int .i64 i41)),(31,.v (.bool b42))] [⟨false,false,1,([(.agg [(.own 4 0 (List.length l0) (List.length l0) none)])]:Ls)⟩,⟨false,true,20,([(.agg [(.int .i64 i3),(.int .i64 i4),(.int .i64 i5),(.int .i64 i6),(.int .i64 i7),(.int .i64 i8),(.int .i64 i9),(.int .i64 i10),(.int .i64 i11),(.int .i64 i12),(.int .i64 i13),(.int .i64 i14),(.int .i64 i15),(.int .i64 i16),(.int .i64 i17),(.int .i64 i18),(.int .i64 i19),(.int .i64 i20),(.int .i64 i21),(.int .i64 i22)])]:Ls)⟩,⟨false,true,1,([(.int .i64 i23)]:Ls)⟩,⟨false,true,2,([(.agg [(.data l24),(.data l25)])]:Ls)⟩,⟨false,true,1,l0⟩])
def ylQ (Q:Qx):Ls→Ls→Int→Int→Int→Int→Int→Int→Int→Int→Int→Int→Int→Int→Int→Int→Int→Int→Int→Int→Int→Int→Int→Ls→Ls→Int→Int→Int→Int→Int→Int→Int→Int→Int→Int→Int→Int→Int→Ls→Int→Int→Bool→Prop:=(fun l0 l1 i4 i5 i6 i7 i8 i9 i10 i11 i12 i13 i14 i15 i16 i17 i18 i19 i20 i21 i22 i23 i24 l25 l26 i27 i28 i29 i30 i31 i32 i33 i34 i35 i36 i37 i38 i41 l42 i43 i44 b45=>Q (.exit 2) [(2,.v (.ptr 1 1 0 0)),(3,.v (.ptr 0 1 0 0)),(4,.box (.agg [(.int .i64 i27),(.int .i64 i28),(.int .i64 i29),(.int .i64 i30),(.int .i64 i31),(.int .i64 i32),(.int .i64 i33),(.int .i64 i34),(.int .i64 i35),(.int .i64 i36),(.int .i64 i37),(.int .i64 i38)])),(6,.v (.own 5 0 (List.length l1) (List.length l1) none)),(15,.v (.int .i64 i41)),(28,.v (.data l42)),(29,.v (.int .i64 i43)),(30,.v (.int .i64 i44)),(31,.v (.bool b45))] [⟨false,false,1,([(.agg [(.own 4 0 (List.length l0) (List.length l0) none)])]:Ls)⟩,⟨false,true,20,([(.agg [(.int .i64 i4),(.int .i64 i5),(.int .i64 i6),(.int .i64 i7),(.int .i64 i8),(.int .i64 i9),(.int .i64 i10),(.int .i64 i11),(.int .i64 i12),(.int .i64 i13),(.int .i64 i14),(.int .i64 i15),(.int .i64 i16),(.int .i64 i17),(.int .i64 i18),(.int .i64 i19),(.int .i64 i20),(.int .i64 i21),(.int .i64 i22),(.int .i64 i23)])]:Ls)⟩,⟨false,true,1,([(.int .i64 i24)]:Ls)⟩,⟨false,true,2,([(.agg [(.data l25),(.data l26)])]:Ls)⟩,⟨false,true,1,l0⟩,⟨false,true,4,l1⟩])
def yvb (Q:Qx):Ls→Int→Int→Int→Int→Int→Int→Int→Int→Int→Int→Int→Int→Int→Int→Int→Int→Int→Int→Int→Int→Int→Ls→Ls→Int→Int→Int→Int→Int→Int→Int→Int→Int→Int→Int→Int→Int→Ls→Int→Int→Bool→Prop:=(fun l0 i3 i4 i5 i6 i7 i8 i9 i10 i11 i12 i13 i14 i15 i16 i17 i18 i19 i20 i21 i22 i23 l24 l25 i26 i27 i28 i29 i30 i31 i32 i33 i34 i35 i36 i37 i38 l39 i40 i41 b42=>Q (.exit 2) [(2,.v (.ptr 1 1 0 0)),(3,.v (.ptr 0 1 0 0)),(4,.box (.agg [(.int .i64 i26),(.int .i64 i27),(.int .i64 i28),(.int .i64 i29),(.int .i64 i30),(.int .i64 i31),(.int .i64 i32),(.int .i64 i33),(.int .i64 i34),(.int .i64 i35),(.int .i64 i36),(.int .i64 i37)])),(6,.v .nils),(15,.v (.int .i64 i38)),(28,.v (.data l39)),(29,.v (.int .i64 i40)),(30,.v (.int .i64 i41)),(31,.v (.bool b42))] [⟨false,false,1,([(.agg [(.own 5 0 (List.length l0) (List.length l0) none)])]:Ls)⟩,⟨false,true,20,([(.agg [(.int .i64 i3),(.int .i64 i4),(.int .i64 i5),(.int .i64 i6),(.int .i64 i7),(.int .i64 i8),(.int .i64 i9),(.int .i64 i10),(.int .i64 i11),(.int .i64 i12),(.int .i64 i13),(.int .i64 i14),(.int .i64 i15),(.int .i64 i16),(.int .i64 i17),(.int .i64 i18),(.int .i64 i19),(.int .i64 i20),(.int .i64 i21),(.int .i64 i22)])]:Ls)⟩,⟨false,true,1,([(.int .i64 i23)]:Ls)⟩,⟨false,true,2,([(.agg [(.data l24),(.data l25)])]:Ls)⟩,⟨true,true,4,([]:Ls)⟩,⟨false,true,1,l0⟩])
def ylR (Q:Qx):Ls→Ls→Int→Int→Int→Int→Int→Int→Int→Int→Int→Int→Int→Int→Int→Int→Int→Int→Int→Int→Int→Int→Int→Ls→Ls→Int→Int→Int→Int→Int→Int→Int→Int→Int→Int→Int→Int→Int→Ls→Int→Int→Bool→Prop:=(fun l0 l1 i4 i5 i6 i7 i8 i9 i10 i11 i12 i13 i14 i15 i16 i17 i18 i19 i20 i21 i22 i23 i24 l25 l26 i27 i28 i29 i30 i31 i32 i33 i34 i35 i36 i37 i38 i41 l42 i43 i44 b45=>Q (.exit 2) [(2,.v (.ptr 1 1 0 0)),(3,.v (.ptr 0 1 0 0)),(4,.box (.agg [(.int .i64 i27),(.int .i64 i28),(.int .i64 i29),(.int .i64 i30),(.int .i64 i31),(.int .i64 i32),(.int .i64 i33),(.int .i64 i34),(.int .i64 i35),(.int .i64 i36),(.int .i64 i37),(.int .i64 i38)])),(6,.v (.own 6 0 (List.length l1) (List.length l1) none)),(15,.v (.int .i64 i41)),(28,.v (.data l42)),(29,.v (.int .i64 i43)),(30,.v (.int .i64 i44)),(31,.v (.bool b45))] [⟨false,false,1,([(.agg [(.own 5 0 (List.length l0) (List.length l0) none)])]:Ls)⟩,⟨false,true,20,([(.agg [(.int .i64 i4),(.int .i64 i5),(.int .i64 i6),(.int .i64 i7),(.int .i64 i8),(.int .i64 i9),(.int .i64 i10),(.int .i64 i11),(.int .i64 i12),(.int .i64 i13),(.int .i64 i14),(.int .i64 i15),(.int .i64 i16),(.int .i64 i17),(.int .i64 i18),(.int .i64 i19),(.int .i64 i20),(.int .i64 i21),(.int .i64 i22),(.int .i64 i23)])]:Ls)⟩,⟨false,true,1,([(.int .i64 i24)]:Ls)⟩,⟨false,true,2,([(.agg [(.data l25),(.data l26)])]:Ls)⟩,⟨true,true,4,([]:Ls)⟩,⟨false,true,1,l0⟩,⟨false,true,4,l1⟩])
def yvc (Q:Qx):Int→Int→Int→Int→Int→Int→Int→Int→Int→Int→Int→Int→Int→Int→Int→Int→Int→Int→Int→Int→Int→Ls→Ls→Int→Int→Int→Int→Int→Int→Int→Int→Int→Int→Int→Int→Int→Bool→Prop:=(fun i0 i1 i2 i3 i4 i5 i6 i7 i8 i9 i10 i11 i12 i13 i14 i15 i16 i17 i18 i19 i20 l21 l22 i23 i24 i25 i26 i27 i28 i29 i30 i31 i32 i33 i34 i35 b36=>Q (.exit 0) [(2,.v (.ptr 1 1 0 0)),(3,.v (.ptr 0 1 0 0)),(4,.box (.agg [(.int .i64 i23),(.int .i64 i24),(.int .i64 i25),(.int .i64 i26),(.int .i64 i27),(.int .i64 i28),(.int .i64 i29),(.int .i64 i30),(.int .i64 i31),(.int .i64 i32),(.int .i64 i33),(.int .i64 i34)])),(15,.v (.int .i64 i35)),(16,.v (.bool b36))] [⟨false,false,1,([(.agg [.nils])]:Ls)⟩,⟨false,true,20,([(.agg [(.int .i64 i0),(.int .i64 i1),(.int .i64 i2),(.int .i64 i3),(.int .i64 i4),(.int .i64 i5),(.int .i64 i6),(.int .i64 i7),(.int .i64 i8),(.int .i64 i9),(.int .i64 i10),(.int .i64 i11),(.int .i64 i12),(.int .i64 i13),(.int .i64 i14),(.int .i64 i15),(.int .i64 i16),(.int .i64 i17),(.int .i64 i18),(.int .i64 i19)])]:Ls)⟩,⟨false,true,1,([(.int .i64 i20)]:Ls)⟩,⟨false,true,2,([(.agg [(.data l21),(.data l22)])]:Ls)⟩])
def ylS (Q:Qx):Ls→Int→Int→Int→Int→Int→Int→Int→Int→Int→Int→Int→Int→Int→Int→Int→Int→Int→Int→Int→Int→Int→Ls→Ls→Int→Int→Int→Int→Int→Int→Int→Int→Int→Int→Int→Int→Int→Bool→Prop:=(fun l0 i3 i4 i5 i6 i7 i8 i9 i10 i11 i12 i13 i14 i15 i16 i17 i18 i19 i20 i21 i22 i23 l24 l25 i26 i27 i28 i29 i30 i31 i32 i33 i34 i35 i36 i37 i38 b39=>Q (.exit 0) [(2,.v (.ptr 1 1 0 0)),(3,.v (.ptr 0 1 0 0)),(4,.box (.agg [(.int .i64 i26),(.int .i64 i27),(.int .i64 i28),(.int .i64 i29),(.int .i64 i30),(.int .i64 i31),(.int .i64 i32),(.int .i64 i33),(.int .i64 i34),(.int .i64 i35),(.int .i64 i36),(.int .i64 i37)])),(15,.v (.int .i64 i38)),(16,.v (.bool b39))] [⟨false,false,1,([(.agg [(.own 4 0 (List.length l0) (List.length l0) none)])]:Ls)⟩,⟨false,true,20,([(.agg [(.int .i64 i3),(.int .i64 i4),(.int .i64 i5),(.int .i64 i6),(.int .i64 i7),(.int .i64 i8),(.int .i64 i9),(.int .i64 i10),(.int .i64 i11),(.int .i64 i12),(.int .i64 i13),(.int .i64 i14),(.int .i64 i15),(.int .i64 i16),(.int .i64 i17),(.int .i64 i18),(.int .i64 i19),(.int .i64 i20),(.int .i64 i21),(.int .i64 i22)])]:Ls)⟩,⟨false,true,1,([(.int .i64 i23)]:Ls)⟩,⟨false,true,2,([(.agg [(.data l24),(.data l25)])]:Ls)⟩,⟨false,true,1,l0⟩])
def ylT (Q:Qx):Ls→Int→Int→Int→Int→Int→Int→Int→Int→Int→Int→Int→Int→Int→Int→Int→Int→Int→Int→Int→Int→Int→Ls→Ls→Int→Int→Int→Int→Int→Int→Int→Int→Int→Int→Int→Int→Int→Bool→Prop:=(fun l0 i3 i4 i5 i6 i7 i8 i9 i10 i11 i12 i13 i14 i15 i16 i17 i18 i19 i20 i21 i22 i23 l24 l25 i26 i27 i28 i29 i30 i31 i32 i33 i34 i35 i36 i37 i38 b39=>Q (.exit 0) [(2,.v (.ptr 1 1 0 0)),(3,.v (.ptr 0 1 0 0)),(4,.box (.agg [(.int .i64 i26),(.int .i64 i27),(.int .i64 i28),(.int .i64 i29),(.int .i64 i30),(.int .i64 i31),(.int .i64 i32),(.int .i64 i33),(.int .i64 i34),(.int .i64 i35),(.int .i64 i36),(.int .i64 i37)])),(15,.v (.int .i64 i38)),(16,.v (.bool b39))] [⟨false,false,1,([(.agg [(.own 5 0 (List.length l0) (List.length l0) none)])]:Ls)⟩,⟨false,true,20,([(.agg [(.int .i64 i3),(.int .i64 i4),(.int .i64 i5),(.int .i64 i6),(.int .i64 i7),(.int .i64 i8),(.int .i64 i9),(.int .i64 i10),(.int .i64 i11),(.int .i64 i12),(.int .i64 i13),(.int .i64 i14),(.int .i64 i15),(.int .i64 i16),(.int .i64 i17),(.int .i64 i18),(.int .i64 i19),(.int .i64 i20),(.int .i64 i21),(.int .i64 i22)])]:Ls)⟩,⟨false,true,1,([(.int .i64 i23)]:Ls)⟩,⟨false,true,2,([(.agg [(.data l24),(.data l25)])]:Ls)⟩,⟨true,true,4,([]:Ls)⟩,⟨false,true,1,l0⟩])
def pt46:HPt:=hB false false 1 (rC (vA (lC vNs lN)) rN) (hB false true 20 pt36 (hB false true 1 pt16 (hB false true 2 pt33 hN)))
def pt47:Pat Frm:=fV 15 pt0 (fV 28 vD (fV 29 pt0 (fV 30 pt0 fN)))
def pt48:Pat Frm:=fV 2 pt19 (fV 3 pt18 (fX 4 (vA pt34) (fV 6 vNs pt47)))
def pt49:HPt:=hB false false 1 (rC (vA (lC pt45 lN)) rN) (hB false true 20 pt36 (hB false true 1 pt16 (hB false true 2 pt33 pt32)))
def pt50:VPt:=vW 5 (nK 0) (nT 5) (nT 5)
def pt51:HPt:=hB false false 1 (rC (vA (lC pt50 lN)) rN) (hB false true 20 pt36 (hB false true 1 pt16 (hB false true 2 pt33 (hB true true 4 rN pt32))))
def ynH (a0:yat) (a1:yaE) (a2:yaH) (a3:ybn) (a4:yaK) (Q:Qx):List St:=[⟨(pS pt46 pt48 fN),ydY a0 a1 a2 a3 a4 (yu9 Q) (ylP Q)⟩,⟨(pS (hB false false 1 (rC (vA (lC vNs lN)) rN) (hB false true 20 pt36 (hB false true 1 pt16 (hB false true 2 pt33 pt21)))) (fV 2 pt19 (fV 3 pt18 (fX 4 (vA pt34) (fV 6 pt45 pt47)))) fN),fun n i1 i2 i3 i4 i5 i6 i7 i8 i9 i10 i11 i12 i13 i14 i15 i16 i17 i18 i19 i20 i21 l22 l23 l0 i24 i25 i26 i27 i28 i29 i30 i31 i32 i33 i34 i35 i38 l39 i40 i41=>yfA a0 a1 a2 a3 a4 (ylP Q) n l0 i1 i2 i3 i4 i5 i6 i7 i8 i9 i10 i11 i12 i13 i14 i15 i16 i17 i18 i19 i20 i21 l22 l23 i24 i25 i26 i27 i28 i29 i30 i31 i32 i33 i34 i35 i38 l39 i40 i41⟩,⟨(pS pt49 pt48 fN),fun n i3 i4 i5 i6 i7 i8 i9 i10 i11 i12 i13 i14 i15 i16 i17 i18 i19 i20 i21 i22 i23 l24 l25 l0 i26 i27 i28 i29 i30 i31 i32 i33 i34 i35 i36 i37 i38 l39 i40 i41=>yhW a0 a1 a2 a3 a4 (yva Q) (ylQ Q) n l0 i3 i4 i5 i6 i7 i8 i9 i10 i11 i12 i13 i14 i15 i16 i17 i18 i19 i20 i21 i22 i23 l24 l25 i26 i27 i28 i29 i30 i31 i32 i33 i34 i35 i36 i37 i38 l39 i40 i41⟩,⟨(pS (hB false false 1 (rC (vA (lC pt45 lN)) rN) (hB false true 20 pt36 (hB false true 1 pt16 (hB false true 2 pt33 (hB false true 1 rA pt21))))) (fV 2 pt19 (fV 3 pt18 (fX 4 (vA pt34) (fV 6 pt50 pt47)))) fN),fun n i4 i5 i6 i7 i8 i9 i10 i11 i12 i13 i14 i15 i16 i17 i18 i19 i20 i21 i22 i23 i24 l25 l26 l0 l1 i27 i28 i29 i30 i31 i32 i33 i34 i35 i36 i37 i38 i41 l42 i43 i44=>yhV a0 a1 a2 a3 a4 (ylQ Q) n l0 l1 i4 i5 i6 i7 i8 i9 i10 i11 i12 i13 i14 i15 i16 i17 i18 i19 i20 i21 i22 i23 i24 l25 l26 i27 i28 i29 i30 i31 i32 i33 i34 i35 i36 i37 i38 i41 l42 i43 i44⟩,⟨(pS pt51 pt48 fN),fun n i3 i4 i5 i6 i7 i8 i9 i10 i11 i12 i13 i14 i15 i16 i17 i18 i19 i20 i21 i22 i23 l24 l25 l0 i26 i27 i28 i29 i30 i31 i32 i33 i34 i35 i36 i37 i38 l39 i40 i41=>ycr a0 a1 a2 a3 a4 (yvb Q) (ylR Q) n l0 i3 i4 i5 i6 i7 i8 i9 i10 i11 i12 i13 i14 i15 i16 i17 i18 i19 i20 i21 i22 i23 l24 l25 i26 i27 i28 i29 i30 i31 i32 i33 i34 i35 i36 i37 i38 l39 i40 i41⟩,⟨(pS (hB false false 1 (rC (vA (lC pt50 lN)) rN) (hB false true 20 pt36 (hB false true 1 pt16 (hB false true 2 pt33 (hB true true 4 rN (hB false true 1 rA pt21)))))) (fV 2 pt19 (fV 3 pt18 (fX 4 (vA pt34) (fV 6 (vW 6 (nK 0) (nT 6) (nT 6)) pt47)))) fN),fun n i4 i5 i6 i7 i8 i9 i10 i11 i12 i13 i14 i15 i16 i17 i18 i19 i20 i21 i22 i23 i24 l25 l26 l0 l1 i27 i28 i29 i30 i31 i32 i33 i34 i35 i36 i37 i38 i41 l42 i43 i44=>ydZ a0 a1 a2 a3 a4 (ylR Q) n l0 l1 i4 i5 i6 i7 i8 i9 i10 i11 i12 i13 i14 i15 i16 i17 i18 i19 i20 i21 i22 i23 i24 l25 l26 i27 i28 i29 i30 i31 i32 i33 i34 i35 i36 i37 i38 i41 l42 i43 i44⟩]
def pt52:Pat Frm:=fV 2 pt19 (fV 3 pt18 (fX 4 (vA pt34) (fV 15 pt0 fN)))
def ynI (a0:yat) (a1:yaE) (a2:yaH) (a3:ybn) (a4:yaK) (Q:Qx):List St:=[⟨(pS pt46 pt52 fN),ybw a0 a1 a2 a3 a4 (yvc Q) (ylS Q) (ylT Q)⟩,⟨(pS pt49 pt52 fN),fun n i3 i4 i5 i6 i7 i8 i9 i10 i11 i12 i13 i14 i15 i16 i17 i18 i19 i20 i21 i22 i23 l24 l25 l0 i26 i27 i28 i29 i30 i31 i32 i33 i34 i35 i36 i37 i38=>yfB a0 a1 a2 a3 a4 (ylS Q) n l0 i3 i4 i5 i6 i7 i8 i9 i10 i11 i12 i13 i14 i15 i16 i17 i18 i19 i20 i21 i22 i23 l24 l25 i26 i27 i28 i29 i30 i31 i32 i33 i34 i35 i36 i37 i38⟩,⟨(pS pt51 pt52 fN),fun n i3 i4 i5 i6 i7 i8 i9 i10 i11 i12 i13 i14 i15 i16 i17 i18 i19 i20 i21 i22 i23 l24 l25 l0 i26 i27 i28 i29 i30 i31 i32 i33 i34 i35 i36 i37 i38=>yaA a0 a1 a2 a3 a4 (ylT Q) n l0 i3 i4 i5 i6 i7 i8 i9 i10 i11 i12 i13 i14 i15 i16 i17 i18 i19 i20 i21 i22 i23 l24 l25 i26 i27 i28 i29 i30 i31 i32 i33 i34 i35 i36 i37 i38⟩]
def yh8 (a0:yat) (a1:yaE) (a2:yaH) (a3:ybn) (a4:yaK):LP:=lpS [(52887900,ynH a0 a1 a2 a3 a4),(52887901,ynI a0 a1 a2 a3 a4)]
def yle (a0:yat) (a1:yaE) (a2:yaH) (a3:ybn) (a4:yaK):SE:=⟨(E ef0),ygu [(ydk,ymH.pw a0),(ygZ,yzj.pw a3),(ycc,ylM.pw a4)],ygv [],yh8 a0 a1 a2 a3 a4,ylr [(ybU,ycn a1),(ycm,ycY a2)]⟩
def yq1 (a0:yat) (a1:yaE) (a2:yaH) (a3:ybn) (a4:yaK):SE:=⟨(E ef0),ygu [(ydk,ymH.pw a0),(ygZ,yzj.pw a3),(ycc,ylM.pw a4)],ygv [(yoi,yjy)],yh8 a0 a1 a2 a3 a4,ylr [(ybU,ycn a1),(ycm,ycY a2)]⟩
theorem ypf:SEOk (Uni (E ef0)) (yle yao yag yah yaj yaf):=yid (Sub.uni _) ⟨(yhT ef0 ydT),yqT,(ygL ef0 ydT),trivial⟩ trivial ydT.ok ⟨(yeH ef0 ydT),(yhk ef0 ydT),trivial⟩
theorem ytJ (a0 a1 a2 a3 a4):yct (yle a0 a1 a2 a3 a4) 5 a ymm true (ynH a0 a1 a2 a3 a4):=fun _=>⟨fun _=>by kernel_rfl,fun _ _=>by kernel_rfl,fun _=>by kernel_rfl,fun _ _=>by kernel_rfl,fun _=>by kernel_rfl,fun _ _=>by kernel_rfl,fun _=>by kernel_rfl,fun _ _=>by kernel_rfl,fun _=>by kernel_rfl,fun _ _=>by kernel_rfl,fun _=>by kernel_rfl,fun _ _=>by kernel_rfl,trivial⟩
theorem ykG:LpT (Uni (E ef0)) (yh8 yao yag yah yaj yaf) [] 52887900 (.lG 52887900 ymm):=fun _ _ _=>yof.stG (Sub.uni _) (ya3 (ypf) 5) (YOk.no _ _) (yaq (by kernel_rfl)) (ytJ _ _ _ _ _ _)
theorem ytK (a0 a1 a2 a3 a4):yct (yle a0 a1 a2 a3 a4) 5 a yrG true (ynI a0 a1 a2 a3 a4):=fun _=>⟨fun _=>by kernel_rfl,fun _ _=>by kernel_rfl,fun _=>by kernel_rfl,fun _ _=>by kernel_rfl,fun _=>by kernel_rfl,fun _ _=>by kernel_rfl,trivial⟩
theorem ytL:LpT (Uni (E ef0)) (yh8 yao yag yah yaj yaf) [] 52887901 (.lG 52887901 yrG):=fun _ _ _=>yof.stG (Sub.uni _) (ya3 (ypf) 5) (YOk.no _ _) (ybq (l:=[(52887900,.lG 52887900 ymm)]) ⟨ykG,trivial⟩ (by kernel_rfl)) (ytK _ _ _ _ _ _)
theorem yym:SEOk (Uni (E ef0)) (yq1 yao yag yah yaj yaf):=yid (Sub.uni _) ⟨(yhT ef0 ydT),yqT,(ygL ef0 ydT),trivial⟩ ⟨⟨by kernel_rfl,by kernel_rfl,rfl,fun az=>ycp (by kernel_rfl) az,ydT.num _ (by kernel_rfl),by kernel_rfl,(ybq (l:=[(52887900,.lG 52887900 ymm),(52887901,.lG 52887901 yrG)]) ⟨ykG,ytL,trivial⟩ (by kernel_rfl))⟩,trivial⟩ ydT.ok ⟨(yeH ef0 ydT),(yhk ef0 ydT),trivial⟩
theorem yzA (a0 a1 a2 a3 a4):EqW (yq1 a0 a1 a2 a3 a4) 6 yA9 yzz (yld a0 a1 a2 a3 a4):=fun _ _=>by kernel_rfl
theorem yzB:OkF (E ef0) (yzz.pw yiY) yiQ:=okU ydT (yzA _ _ _ _ _) (yym) ynq.flat (yaq (by kernel_rfl))
abbrev ybO:Type:=Ls→Ls→(Ls→Ls→Int→Int→Int→Int→Int→Int→Int→Int→Int→Int→Int→Int→Int→Int→Int→Int→Int→Int→Int→Int→Int→Prop)→Prop
def yiw (a0:yat) (a1:yaE) (p0 p1:Ls) (K:Ls→Ls→Int→Int→Int→Int→Int→Int→Int→Int→Int→Int→Int→Int→Int→Int→Int→Int→Int→Int→Int→Int→Int→Prop):Prop :=
 (a0 p0 p1 (fun a =>
 (cbr (a !=(0:Int))
 (K ([]:Ls) ([]:Ls) (0:Int) (0:Int) (0:Int) (0:Int) (0:Int) (0:Int) (0:Int) (0:Int) (0:Int) (0:Int) (0:Int) (0:Int) (0:Int) (0:Int) (0:Int) (0:Int) (0:Int) (0:Int) (0:Int) (0:Int) a)
 (a1 p0 p1 (fun b c d e f g h i j k l m n o p q r s t u v w =>
 (K v w b c d e f g h i j k l m n o p q r s t u (0:Int)))))))
def yaP:ybO:=yiw yao yag
def ywx:Sg:=⟨pt26,Ls→Ls→Int→Int→Int→Int→Int→Int→Int→Int→Int→Int→Int→Int→Int→Int→Int→Int→Int→Int→Int→Int→Int→Prop,fun K=>(fun r0 r1 r2 r3 r4 r5 r6 r7 r8 r9 r10 r11 r12 r13 r14 r15 r16 r17 r18 r19 r20 r21 r22=>K (.tup [(.agg [(.data r0),(.data r1)]),(.agg [(.int .i64 r2),(.int .i64 r3),(.int .i64 r4),(.int .i64 r5),(.int .i64 r6),(.int .i64 r7),(.int .i64 r8),(.int .i64 r9),(.int .i64 r10),(.int .i64 r11),(.int .i64 r12),(.int .i64 r13),(.int .i64 r14),(.int .i64 r15),(.int .i64 r16),(.int .i64 r17),(.int .i64 r18),(.int .i64 r19),(.int .i64 r20),(.int .i64 r21)]),(.int .i64 r22)]))⟩
def ywy (e:Es) (a0:yat) (a1:yaE):SE:=⟨(E e),ygu [(ydk,ymH.pw a0)],ygv [(ylu,yuu)],lp0,ylr [(ybU,ycn a1)]⟩
theorem ywz (e:Es) (a0 a1):EqW (ywy e a0 a1) 6 yxT ywx (yiw a0 a1):=fun _ _=>by kernel_rfl
theorem ywA (e:Es) (he:EG e):OkF (E e) (ywx.pw yaP) yg0:=okU he (ywz e _ _) (yid (Sub.uni _) ⟨(yhT e he),trivial⟩ ⟨⟨by kernel_rfl,by kernel_rfl,rfl,fun az=>ycp (by kernel_rfl) az,he.num _ (by kernel_rfl),by kernel_rfl,(yaq (by kernel_rfl))⟩,trivial⟩ he.ok ⟨(yeH e he),trivial⟩) ynq.flat (yaq (by kernel_rfl))
set_option linter.unusedVariables false
theorem ywB (p0:Ls) (p1:Ls) (r0:Int) (h:∀ K:Int→Prop,K r0→yak p0 p1 K) (K:Int→Prop):yak p0 p1 K=K r0 :=
 propext ⟨fun k=>detC (yfj [] ybm) (az:=[(.data p0),(.data p1)]) (x:=(.int .i64 r0)) (fun K' k'=>h (fun r0=>K' (.int .i64 r0)) k') (K:=fun x=>match x with | (.int .i64 r0)=>K r0 | _=>False) k,h K⟩
theorem ybB (p0:Ls) (r0:Ls) (h:∀ K:Ls→Prop,K r0→yai p0 K) (K:Ls→Prop):yai p0 K=K r0 :=
 propext ⟨fun k=>detC (ydX [] ybm) (az:=[(.data p0)]) (x:=(.data r0)) (fun K' k'=>h (fun r0=>K' (.data r0)) k') (K:=fun x=>match x with | (.data r0)=>K r0 | _=>False) k,h K⟩
set_option maxHeartbeats 0
def ysn (a0:ybc) (a1:yat) (p0:Ls) (K:Bool→Prop):Prop :=
 (jn (fun (a:Bool→Prop) =>
 (a0 p0 (fun b =>
 (cbr (!b)
 (cbr ((((List.length p0):Nat):Int) ==(3:Int))
 (a1 p0 ([]:Ls) (fun c =>
 (a (c ==(0:Int)))))
 (a false))
 (a false)))))
 (fun d=>(K d)))
def ybi:ybc:=ysn ydd yfg
def yFu (e:Es) (a0:ybc) (a1:yat):SE:=sE (E e) [(yfr,yhc.pw a0),(ykh,ymH.pw a1)] lp0
theorem yFv (e:Es) (a0 a1):EqW (yFu e a0 a1) 6 yHq yhc (ysn a0 a1):=fun _ _=>by kernel_rfl
theorem yFw (e:Es) (he:EG e):OkF (E e) (yhc.pw ybi) ypL:=okU he (yFv e _ _) (yaz (Sub.uni _) ⟨(ykE e he),(ytE e he),trivial⟩ trivial he.ok) ynq.flat (yaq (by kernel_rfl))
abbrev ypg:Type:=(Ls→Prop)→Prop
def ytM (K:Ls→Prop):Prop :=
 (K ([(.agg [(.int .i64 (6:Int)),(.data ([(.int .i64 (0:Int)),(.int .i64 (6:Int))]:Ls)),(.data ([(.int .i64 (1:Int))]:Ls))]),(.agg [(.int .i64 (6:Int)),(.data ([(.int .i64 (0:Int)),(.int .i64 (4:Int)),(.int .i64 (6:Int))]:Ls)),(.data ([(.int .i64 (1:Int)),(.int .i64 (4:Int))]:Ls))]),(.agg [(.int .i64 (6:Int)),(.data ([(.int .i64 (0:Int)),(.int .i64 (2:Int)),(.int .i64 (6:Int))]:Ls)),(.data ([(.int .i64 (2:Int)),(.int .i64 (0:Int))]:Ls))])]:Ls))
def yph:ypg:=ytM
def yB7:Sg:=⟨lN,Ls→Prop,fun K=>(fun r0=>K (.data r0))⟩
def yB8 (e:Es):SE:=sE (E e) [] lp0
theorem yB9 (e:Es):EqW (yB8 e) 6 yDm yB7 ytM:=fun _ _=>by kernel_rfl
theorem yCa (e:Es) (he:EG e):OkF (E e) (yB7.pw yph) yki:=okU he (yB9 e) (yaz (Sub.uni _) trivial trivial he.ok) ynq.flat (yaq (by kernel_rfl))
def yAc (a0:yax) (p0:Int) (K:Int→Int→Prop):Prop :=
 (a0 p0 (fun a b =>
 (K a b)))
def ybt:yax:=yAc yoO
def yHB (e:Es) (a0:yax):SE:=sE (E e) [(ylt,yh6.pw a0)] lp0
theorem yHC (e:Es) (a0):EqW (yHB e a0) 6 yIM yh6 (yAc a0):=fun _ _=>by kernel_rfl
theorem yAd (e:Es) (he:EG e):OkF (E e) (yh6.pw ybt) yoj:=okU he (yHC e _) (yaz (Sub.uni _) ⟨(yuT e he),trivial⟩ trivial he.ok) ynq.flat (yaq (by kernel_rfl))
abbrev yc5:Type:=(Bool→Prop)→Prop
def ynb (a0:ypg) (a1:yna) (a2:yax) (a3:yem) (K:Bool→Prop):Prop :=
 (a0  (fun b =>
 (a1 b (fun c d e f g h i j k l m n o p q r s t u v w x y =>
 (a2 (0:Int) (fun z A =>
 (a2 (2:Int) (fun B C =>
 (a2 (2:Int) (fun D E =>
 (a2 (4:Int) (fun F G =>
 (a2 (6:Int) (fun H I =>
 (a2 (4:Int) (fun J L =>
 (jn (fun (a:Bool→Prop) =>
 (cbr (y ==(0:Int))
 (cbr ((d == z)&&((e == A)&&((f == B)&&((g == C)&&((h == D)&&((i == E)&&((j == F)&&((k == G)&&((l ==(11:Int))&&((m ==(2:Int))&&((n == H)&&((o == I)&&((p ==(2:Int))&&((q == J)&&((r == L)&&((s ==(11:Int))&&((t ==(2:Int))&&((u ==(1:Int))&&((v ==(2:Int))&&((w ==(0:Int))&&true))))))))))))))))))))
 (cbr ((((List.length x):Nat):Int) ==(16:Int))
 (a2 (2:Int) (fun M N =>
 (a2 (4:Int) (fun O Q =>
 (a2 (4:Int) (fun R S =>
 (a2 (6:Int) (fun T U =>
 (a2 (0:Int) (fun V W =>
 (a2 (2:Int) (fun X Y =>
 (a3 c ([(.data ([(.agg [(.int .i64 M),(.int .i64 N),(.int .i64 O),(.int .i64 Q)])]:Ls)),(.data ([(.agg [(.int .i64 R),(.int .i64 S),(.int .i64 T),(.int .i64 U)])]:Ls)),(.data ([(.agg [(.int .i64 V),(.int .i64 W),(.int .i64 X),(.int .i64 Y)])]:Ls))]:Ls) (fun Z =>
 (a Z)))))))))))))))
 (a false))
 (a false))
 (a false)))
 (fun va=>(K va)))))))))))))))))))
def yaR:yc5:=ynb yph yiY ybt ygp
def yCb:Sg:=⟨lN,Bool→Prop,fun K=>(fun r0=>K (.bool r0))⟩
def yCc (a0:ypg) (a1:yna) (a2:yax) (a3:yem):SE:=sE (E ef0) [(yki,yB7.pw a0),(yiQ,yzz.pw a1),(yoj,yh6.pw a2),(ymj,yDZ.pw a3)] lp0
theorem yCd (a0 a1 a2 a3):EqW (yCc a0 a1 a2 a3) 6 yDw yCb (ynb a0 a1 a2 a3):=fun _ _=>by kernel_rfl
theorem yCe:OkF (E ef0) (yCb.pw yaR) ykn:=okU ydT (yCd _ _ _ _) (yaz (Sub.uni _) ⟨(yCa ef0 ydT),yzB,(yAd ef0 ydT),(yvR ef0 ydT),trivial⟩ trivial ydT.ok) ynq.flat (yaq (by kernel_rfl))
def ya1 (a0:ybc) (a1:yc5) (a2:ybO) (a3:yax) (a4:yap) (a5:yay) (a6:yap) (a7:yav) (a8:ydG) (a9:yby) (f:Ls→Int→Int→Int→Int→Int→Int→Int→Int→Int→Int→Int→Int→Int→Int→Int→Int→Int→Int→Int→Int→Int→Int→Int→Bool→Prop) (d:Bool→Prop):Nat→Ls→Int→Int→Int→Int→Int→Int→Int→Int→Int→Int→Int→Int→Int→Int→Int→Int→Int→Int→Int→Int→Int→Int→Int→Prop
 | 0,_,_,_,_,_,_,_,_,_,_,_,_,_,_,_,_,_,_,_,_,_,_,_,_=>False
 | i+1,l0,i1,i2,i3,i4,i5,i6,i7,i8,i9,i10,i11,i12,i13,i14,i15,i16,i17,i18,i19,i20,i21,i22,i23 =>
 (cbr (decide (i23<(3:Int)))
 (jn (fun (e:Int→Int→Prop) =>
 (jn (fun (g:Int→Int→Prop) =>
 (cbr (i23 == i13)
 (jn (fun (h:Bool→Prop) =>
 (cbr (!((i14 == i21)&&((i15 == i22)&&true)))
 (h true)
 (a4 i14 i15 i16 i17 (fun j =>
 (h (!j))))))
 (fun k=>(cbr k
 (d false)
 (g i16 i17))))
 (g i21 i22)))
 (fun b c=>(jn (fun (a:Bool→Prop) =>
 (cbr (decide (i23=(0:Int)))
 (cbr (!((i1 == b)&&((i2 == c)&&true)))
 (a true)
 (cbr (decide (i23=(0:Int)))
 (a5 i3 i4 (fun l =>
 (cbr (l !=(0:Int))
 (a true)
 (cbr (decide (i23=(0:Int)))
 (a6 i3 i4 b c (fun m =>
 (a m)))
 (cbr (decide (i23=(1:Int)))
 (a6 i7 i8 b c (fun n =>
 (a n)))
 (cbr (decide (i23=(2:Int)))
 (a6 i11 i12 b c (fun o =>
 (a o)))
 False))))))
 (cbr (decide (i23=(1:Int)))
 (a5 i7 i8 (fun p =>
 (cbr (p !=(0:Int))
 (a true)
 (cbr (decide (i23=(0:Int)))
 (a6 i3 i4 b c (fun q =>
 (a q)))
 (cbr (decide (i23=(1:Int)))
 (a6 i7 i8 b c (fun r =>
 (a r)))
 (cbr (decide (i23=(2:Int)))
 (a6 i11 i12 b c (fun s =>
 (a s)))
 False))))))
 (cbr (decide (i23=(2:Int)))
 (a5 i11 i12 (fun t =>
 (cbr (t !=(0:Int))
 (a true)
 (cbr (decide (i23=(0:Int)))
 (a6 i3 i4 b c (fun u =>
 (a u)))
 (cbr (decide (i23=(1:Int)))
 (a6 i7 i8 b c (fun v =>
 (a v)))
 (cbr (decide (i23=(2:Int)))
 (a6 i11 i12 b c (fun w =>
 (a w)))
 False))))))
 False))))
 (cbr (decide (i23=(1:Int)))
 (cbr (!((i5 == b)&&((i6 == c)&&true)))
 (a true)
 (cbr (decide (i23=(0:Int)))
 (a5 i3 i4 (fun x =>
 (cbr (x !=(0:Int))
 (a true)
 (cbr (decide (i23=(0:Int)))
 (a6 i3 i4 b c (fun y =>
 (a y)))
 (cbr (decide (i23=(1:Int)))
 (a6 i7 i8 b c (fun z =>
 (a z)))
 (cbr (decide (i23=(2:Int)))
 (a6 i11 i12 b c (fun A =>
 (a A)))
 False))))))
 (cbr (decide (i23=(1:Int)))
 (a5 i7 i8 (fun B =>
 (cbr (B !=(0:Int))
 (a true)
 (cbr (decide (i23=(0:Int)))
 (a6 i3 i4 b c (fun C =>
 (a C)))
 (cbr (decide (i23=(1:Int)))
 (a6 i7 i8 b c (fun D =>
 (a D)))
 (cbr (decide (i23=(2:Int)))
 (a6 i11 i12 b c (fun E =>
 (a E)))
 False))))))
 (cbr (decide (i23=(2:Int)))
 (a5 i11 i12 (fun F =>
 (cbr (F !=(0:Int))
 (a true)
 (cbr (decide (i23=(0:Int)))
 (a6 i3 i4 b c (fun G =>
 (a G)))
 (cbr (decide (i23=(1:Int)))
 (a6 i7 i8 b c (fun H =>
 (a H)))
 (cbr (decide (i23=(2:Int)))
 (a6 i11 i12 b c (fun I =>
 (a I)))
 False))))))
 False))))
 (cbr (decide (i23=(2:Int)))
 (cbr (!((i9 == b)&&((i10 == c)&&true)))
 (a true)
 (cbr (decide (i23=(0:Int)))
 (a5 i3 i4 (fun J =>
 (cbr (J !=(0:Int))
 (a true)
 (cbr (decide (i23=(0:Int)))
 (a6 i3 i4 b c (fun K =>
 (a K)))
 (cbr (decide (i23=(1:Int)))
 (a6 i7 i8 b c (fun L =>
 (a L)))
 (cbr (decide (i23=(2:Int)))
 (a6 i11 i12 b c (fun M =>
 (a M)))
 False))))))
 (cbr (decide (i23=(1:Int)))
 (a5 i7 i8 (fun N =>
 (cbr (N !=(0:Int))
 (a true)
 (cbr (decide (i23=(0:Int)))
 (a6 i3 i4 b c (fun O =>
 (a O)))
 (cbr (decide (i23=(1:Int)))
 (a6 i7 i8 b c (fun Q =>
 (a Q)))
 (cbr (decide (i23=(2:Int)))
 (a6 i11 i12 b c (fun R =>
 (a R)))
 False))))))
 (cbr (decide (i23=(2:Int)))
 (a5 i11 i12 (fun S =>
 (cbr (S !=(0:Int))
 (a true)
 (cbr (decide (i23=(0:Int)))
 (a6 i3 i4 b c (fun T =>
 (a T)))
 (cbr (decide (i23=(1:Int)))
 (a6 i7 i8 b c (fun U =>
 (a U)))
 (cbr (decide (i23=(2:Int)))
 (a6 i11 i12 b c (fun V =>
 (a V)))
 False))))))
 False))))
 False))))
 (fun W=>(cbr W
 (d false)
 (cbr (decide (i23=(0:Int)))
 (e i3 i4)
 (cbr (decide (i23=(1:Int)))
 (e i7 i8)
 (cbr (decide (i23=(2:Int)))
 (e i11 i12)
 False)))))))))
 (fun X Y=>(lt (IntKind.i64.wrap (i23+(1:Int))) (fun Z =>
 (ya1 a0 a1 a2 a3 a4 a5 a6 a7 a8 a9 f d i l0 i1 i2 i3 i4 i5 i6 i7 i8 i9 i10 i11 i12 i13 i14 i15 i16 i17 i18 i19 i20 X Y Z)))))
 (f l0 i1 i2 i3 i4 i5 i6 i7 i8 i9 i10 i11 i12 i13 i14 i15 i16 i17 i18 i19 i20 i21 i22 i23 false))
def ybk (a0:ybc) (a1:yc5) (a2:ybO) (a3:yax) (a4:yap) (a5:yay) (a6:yap) (a7:yav) (a8:ydG) (a9:yby) (c:Ls→Int→Int→Int→Int→Int→Int→Int→Int→Int→Int→Int→Int→Int→Int→Int→Int→Int→Int→Int→Int→Int→Int→Bool→Bool→Bool→Int→Bool→Prop) (d:Bool→Prop):Nat→Ls→Int→Int→Int→Int→Int→Int→Int→Int→Int→Int→Int→Int→Int→Int→Int→Int→Int→Int→Int→Int→Int→Int→Bool→Bool→Bool→Int→Prop
 | 0,_,_,_,_,_,_,_,_,_,_,_,_,_,_,_,_,_,_,_,_,_,_,_,_,_,_,_=>False
 | e+1,l0,i1,i2,i3,i4,i5,i6,i7,i8,i9,i10,i11,i12,i13,i14,i15,i16,i17,i18,i19,i20,i21,i22,b23,b24,b25,i26 =>
 (cbr (decide (i26<(3:Int)))
 (jn (fun (b:Bool→Bool→Bool→Prop) =>
 (jn (fun (a:Bool→Prop) =>
 (cbr (decide (i26=(0:Int)))
 (cbr (decide (i18<(0:Int)))
 (a true)
 (cbr (decide (i26=(0:Int)))
 (cbr (decide (i18>(2:Int)))
 (a true)
 (cbr (decide (i26=(0:Int)))
 (cbr (decide (i18=(0:Int)))
 (a b23)
 (cbr (decide (i18=(1:Int)))
 (a b24)
 (cbr (decide (i18=(2:Int)))
 (a b25)
 False)))
 (cbr (decide (i26=(1:Int)))
 (cbr (decide (i19=(0:Int)))
 (a b23)
 (cbr (decide (i19=(1:Int)))
 (a b24)
 (cbr (decide (i19=(2:Int)))
 (a b25)
 False)))
 (cbr (decide (i26=(2:Int)))
 (cbr (decide (i20=(0:Int)))
 (a b23)
 (cbr (decide (i20=(1:Int)))
 (a b24)
 (cbr (decide (i20=(2:Int)))
 (a b25)
 False)))
 False))))
 (cbr (decide (i26=(1:Int)))
 (cbr (decide (i19>(2:Int)))
 (a true)
 (cbr (decide (i26=(0:Int)))
 (cbr (decide (i18=(0:Int)))
 (a b23)
 (cbr (decide (i18=(1:Int)))
 (a b24)
 (cbr (decide (i18=(2:Int)))
 (a b25)
 False)))
 (cbr (decide (i26=(1:Int)))
 (cbr (decide (i19=(0:Int)))
 (a b23)
 (cbr (decide (i19=(1:Int)))
 (a b24)
 (cbr (decide (i19=(2:Int)))
 (a b25)
 False)))
 (cbr (decide (i26=(2:Int)))
 (cbr (decide (i20=(0:Int)))
 (a b23)
 (cbr (decide (i20=(1:Int)))
 (a b24)
 (cbr (decide (i20=(2:Int)))
 (a b25)
 False)))
 False))))
 (cbr (decide (i26=(2:Int)))
 (cbr (decide (i20>(2:Int)))
 (a true)
 (cbr (decide (i26=(0:Int)))
 (cbr (decide (i18=(0:Int)))
 (a b23)
 (cbr (decide (i18=(1:Int)))
 (a b24)
 (cbr (decide (i18=(2:Int)))
 (a b25)
 False)))
 (cbr (decide (i26=(1:Int)))
 (cbr (decide (i19=(0:Int)))
 (a b23)
 (cbr (decide (i19=(1:Int)))
 (a b24)
 (cbr (decide (i19=(2:Int)))
 (a b25)
 False)))
 (cbr (decide (i26=(2:Int)))
 (cbr (decide (i20=(0:Int)))
 (a b23)
 (cbr (decide (i20=(1:Int)))
 (a b24)
 (cbr (decide (i20=(2:Int)))
 (a b25)
 False)))
 False))))
 False))))
 (cbr (decide (i26=(1:Int)))
 (cbr (decide (i19<(0:Int)))
 (a true)
 (cbr (decide (i26=(0:Int)))
 (cbr (decide (i18>(2:Int)))
 (a true)
 (cbr (decide (i26=(0:Int)))
 (cbr (decide (i18=(0:Int)))
 (a b23)
 (cbr (decide (i18=(1:Int)))
 (a b24)
 (cbr (decide (i18=(2:Int)))
 (a b25)
 False)))
 (cbr (decide (i26=(1:Int)))
 (cbr (decide (i19=(0:Int)))
 (a b23)
 (cbr (decide (i19=(1:Int)))
 (a b24)
 (cbr (decide (i19=(2:Int)))
 (a b25)
 False)))
 (cbr (decide (i26=(2:Int)))
 (cbr (decide (i20=(0:Int)))
 (a b23)
 (cbr (decide (i20=(1:Int)))
 (a b24)
 (cbr (decide (i20=(2:Int)))
 (a b25)
 False)))
 False))))
 (cbr (decide (i26=(1:Int)))
 (cbr (decide (i19>(2:Int)))
 (a true)
 (cbr (decide (i26=(0:Int)))
 (cbr (decide (i18=(0:Int)))
 (a b23)
 (cbr (decide (i18=(1:Int)))
 (a b24)
 (cbr (decide (i18=(2:Int)))
 (a b25)
 False)))
 (cbr (decide (i26=(1:Int)))
 (cbr (decide (i19=(0:Int)))
 (a b23)
 (cbr (decide (i19=(1:Int)))
 (a b24)
 (cbr (decide (i19=(2:Int)))
 (a b25)
 False)))
 (cbr (decide (i26=(2:Int)))
 (cbr (decide (i20=(0:Int)))
 (a b23)
 (cbr (decide (i20=(1:Int)))
 (a b24)
 (cbr (decide (i20=(2:Int)))
 (a b25)
 False)))
 False))))
 (cbr (decide (i26=(2:Int)))
 (cbr (decide (i20>(2:Int)))
 (a true)
 (cbr (decide (i26=(0:Int)))
 (cbr (decide (i18=(0:Int)))
 (a b23)
 (cbr (decide (i18=(1:Int)))
 (a b24)
 (cbr (decide (i18=(2:Int)))
 (a b25)
 False)))
 (cbr (decide (i26=(1:Int)))
 (cbr (decide (i19=(0:Int)))
 (a b23)
 (cbr (decide (i19=(1:Int)))
 (a b24)
 (cbr (decide (i19=(2:Int)))
 (a b25)
 False)))
 (cbr (decide (i26=(2:Int)))
 (cbr (decide (i20=(0:Int)))
 (a b23)
 (cbr (decide (i20=(1:Int)))
 (a b24)
 (cbr (decide (i20=(2:Int)))
 (a b25)
 False)))
 False))))
 False))))
 (cbr (decide (i26=(2:Int)))
 (cbr (decide (i20<(0:Int)))
 (a true)
 (cbr (decide (i26=(0:Int)))
 (cbr (decide (i18>(2:Int)))
 (a true)
 (cbr (decide (i26=(0:Int)))
 (cbr (decide (i18=(0:Int)))
 (a b23)
 (cbr (decide (i18=(1:Int)))
 (a b24)
 (cbr (decide (i18=(2:Int)))
 (a b25)
 False)))
 (cbr (decide (i26=(1:Int)))
 (cbr (decide (i19=(0:Int)))
 (a b23)
 (cbr (decide (i19=(1:Int)))
 (a b24)
 (cbr (decide (i19=(2:Int)))
 (a b25)
 False)))
 (cbr (decide (i26=(2:Int)))
 (cbr (decide (i20=(0:Int)))
 (a b23)
 (cbr (decide (i20=(1:Int)))
 (a b24)
 (cbr (decide (i20=(2:Int)))
 (a b25)
 False)))
 False))))
 (cbr (decide (i26=(1:Int)))
 (cbr (decide (i19>(2:Int)))
 (a true)
 (cbr (decide (i26=(0:Int)))
 (cbr (decide (i18=(0:Int)))
 (a b23)
 (cbr (decide (i18=(1:Int)))
 (a b24)
 (cbr (decide (i18=(2:Int)))
 (a b25)
 False)))
 (cbr (decide (i26=(1:Int)))
 (cbr (decide (i19=(0:Int)))
 (a b23)
 (cbr (decide (i19=(1:Int)))
 (a b24)
 (cbr (decide (i19=(2:Int)))
 (a b25)
 False)))
 (cbr (decide (i26=(2:Int)))
 (cbr (decide (i20=(0:Int)))
 (a b23)
 (cbr (decide (i20=(1:Int)))
 (a b24)
 (cbr (decide (i20=(2:Int)))
 (a b25)
 False)))
 False))))
 (cbr (decide (i26=(2:Int)))
 (cbr (decide (i20>(2:Int)))
 (a true)
 (cbr (decide (i26=(0:Int)))
 (cbr (decide (i18=(0:Int)))
 (a b23)
 (cbr (decide (i18=(1:Int)))
 (a b24)
 (cbr (decide (i18=(2:Int)))
 (a b25)
 False)))
 (cbr (decide (i26=(1:Int)))
 (cbr (decide (i19=(0:Int)))
 (a b23)
 (cbr (decide (i19=(1:Int)))
 (a b24)
 (cbr (decide (i19=(2:Int)))
 (a b25)
 False)))
 (cbr (decide (i26=(2:Int)))
 (cbr (decide (i20=(0:Int)))
 (a b23)
 (cbr (decide (i20=(1:Int)))
 (a b24)
 (cbr (decide (i20=(2:Int)))
 (a b25)
 False)))
 False))))
 False))))
 False))))
 (fun f=>(cbr f
 (d false)
 (cbr (decide (i26=(0:Int)))
 (cbr (decide (i18=(0:Int)))
 (b true b24 b25)
 (cbr (decide (i18=(1:Int)))
 (b b23 true b25)
 (cbr (decide (i18=(2:Int)))
 (b b23 b24 true)
 False)))
 (cbr (decide (i26=(1:Int)))
 (cbr (decide (i19=(0:Int)))
 (b true b24 b25)
 (cbr (decide (i19=(1:Int)))
 (b b23 true b25)
 (cbr (decide (i19=(2:Int)))
 (b b23 b24 true)
 False)))
 (cbr (decide (i26=(2:Int)))
 (cbr (decide (i20=(0:Int)))
 (b true b24 b25)
 (cbr (decide (i20=(1:Int)))
 (b b23 true b25)
 (cbr (decide (i20=(2:Int)))
 (b b23 b24 true)
 False)))
 False)))))))
 (fun g h i=>(lt (IntKind.i64.wrap (i26+(1:Int))) (fun j =>
 (ybk a0 a1 a2 a3 a4 a5 a6 a7 a8 a9 c d e l0 i1 i2 i3 i4 i5 i6 i7 i8 i9 i10 i11 i12 i13 i14 i15 i16 i17 i18 i19 i20 i21 i22 g h i j)))))
 (c l0 i1 i2 i3 i4 i5 i6 i7 i8 i9 i10 i11 i12 i13 i14 i15 i16 i17 i18 i19 i20 i21 i22 b23 b24 b25 i26 false))
def ybg (a0:ybc) (a1:yc5) (a2:ybO) (a3:yax) (a4:yap) (a5:yay) (a6:yap) (a7:yav) (a8:ydG) (a9:yby) (d:Ls→Int→Int→Int→Int→Int→Int→Int→Int→Int→Int→Int→Int→Int→Int→Int→Int→Int→Int→Int→Int→Int→Int→Int→Int→Bool→Prop) (e:Bool→Prop):Nat→Ls→Int→Int→Int→Int→Int→Int→Int→Int→Int→Int→Int→Int→Int→Int→Int→Int→Int→Int→Int→Int→Int→Int→Int→Int→Prop
 | 0,_,_,_,_,_,_,_,_,_,_,_,_,_,_,_,_,_,_,_,_,_,_,_,_,_=>False
 | f+1,l0,i1,i2,i3,i4,i5,i6,i7,i8,i9,i10,i11,i12,i13,i14,i15,i16,i17,i18,i19,i20,i21,i22,i23,i24 =>
 (cbr (decide (i24<(3:Int)))
 (jn (fun (b:Int→Int→Int→Prop) =>
 (asr (decide ((1:Int)<(((List.length l0):Nat):Int)))
 (lt (List.getD l0 1 .nils) (fun a =>
 (asr (conf zK a)
 (cbr (decide (i24=(0:Int)))
 (cbr (decide (i24=(0:Int)))
 (a9 (yaa (yab a 0)) (yaM (yab a 1)) (yaM (yab a 2)) i1 i2 i3 i4 (fun g h i =>
 (b g h i)))
 (cbr (decide (i24=(1:Int)))
 (a9 (yaa (yab a 0)) (yaM (yab a 1)) (yaM (yab a 2)) i1 i2 i7 i8 (fun j k l =>
 (b j k l)))
 (cbr (decide (i24=(2:Int)))
 (a9 (yaa (yab a 0)) (yaM (yab a 1)) (yaM (yab a 2)) i1 i2 i11 i12 (fun m n o =>
 (b m n o)))
 False)))
 (cbr (decide (i24=(1:Int)))
 (cbr (decide (i24=(0:Int)))
 (a9 (yaa (yab a 0)) (yaM (yab a 1)) (yaM (yab a 2)) i5 i6 i3 i4 (fun p q r =>
 (b p q r)))
 (cbr (decide (i24=(1:Int)))
 (a9 (yaa (yab a 0)) (yaM (yab a 1)) (yaM (yab a 2)) i5 i6 i7 i8 (fun s t u =>
 (b s t u)))
 (cbr (decide (i24=(2:Int)))
 (a9 (yaa (yab a 0)) (yaM (yab a 1)) (yaM (yab a 2)) i5 i6 i11 i12 (fun v w x =>
 (b v w x)))
 False)))
 (cbr (decide (i24=(2:Int)))
 (cbr (decide (i24=(0:Int)))
 (a9 (yaa (yab a 0)) (yaM (yab a 1)) (yaM (yab a 2)) i9 i10 i3 i4 (fun y z A =>
 (b y z A)))
 (cbr (decide (i24=(1:Int)))
 (a9 (yaa (yab a 0)) (yaM (yab a 1)) (yaM (yab a 2)) i9 i10 i7 i8 (fun B C D =>
 (b B C D)))
 (cbr (decide (i24=(2:Int)))
 (a9 (yaa (yab a 0)) (yaM (yab a 1)) (yaM (yab a 2)) i9 i10 i11 i12 (fun E F G =>
 (b E F G)))
 False)))
 False))))))))
 (fun H I J=>(jn (fun (c:Bool→Prop) =>
 (cbr (i23 !=(0:Int))
 (c true)
 (cbr (J !=(0:Int))
 (c true)
 (a6 i21 i22 H I (fun K =>
 (c K))))))
 (fun L=>(cbr L
 (e false)
 (lt (IntKind.i64.wrap (i24+(1:Int))) (fun M =>
 (ybg a0 a1 a2 a3 a4 a5 a6 a7 a8 a9 d e f l0 i1 i2 i3 i4 i5 i6 i7 i8 i9 i10 i11 i12 i13 i14 i15 i16 i17 i18 i19 i20 i21 i22 i23 M))))))))
 (d l0 i1 i2 i3 i4 i5 i6 i7 i8 i9 i10 i11 i12 i13 i14 i15 i16 i17 i18 i19 i20 i21 i22 i23 i24 false))
def yhl (a0:ybc) (a1:yc5) (a2:ybO) (a3:yax) (a4:yap) (a5:yay) (a6:yap) (a7:yav) (a8:ydG) (a9:yby) (p0:Ls) (K:Bool→Prop):Prop :=
 (a0 p0 (fun B =>
 (cbr (!B)
 (a1  (fun C =>
 (K C)))
 (a2 p0 ([]:Ls) (fun wT v D E F G H I J L M N O Q u R S T U V W X Y =>
 (jn (fun (t:Bool→Prop) =>
 (cbr (Y !=(0:Int))
 (t true)
 (cbr (decide (u<(-1:Int)))
 (t true)
 (cbr (decide (u>(2:Int)))
 (t true)
 (cbr ((((List.length v):Nat):Int) !=(7:Int))
 (cbr ((((List.length v):Nat):Int) !=(8:Int))
 (t true)
 (t ((decide (u≥(0:Int))) !=((((List.length v):Nat):Int) ==(8:Int)))))
 (t ((decide (u≥(0:Int))) !=((((List.length v):Nat):Int) ==(8:Int)))))))))
 (fun Z=>(cbr Z
 (K false)
 (a3 (0:Int) (fun va vb =>
 (∃ vc:Nat,ya1 a0 a1 a2 a3 a4 a5 a6 a7 a8 a9
 (fun vd ve vf vg vh vi vj vk vl vm vn vo vp vq vr vs vt vu vv vw vx vy vz wU wV=>(∃ vA:Nat,ybk a0 a1 a2 a3 a4 a5 a6 a7 a8 a9
 (fun e h i j k l m n o p q r s x vB vC vD vE c d vF vG vH wW wX wY wZ w0=>(jn (fun (y:Bool→Prop) =>
 (asr (decide ((0:Int)<(((List.length e):Nat):Int)))
 (lt (List.getD e 0 .nils) (fun A =>
 (asr (conf zK A)
 (a3 (yaa (yab A 0)) (fun vI vJ =>
 (cbr (!((vG == vI)&&((vH == vJ)&&true)))
 (y true)
 (cbr (decide (x≥(0:Int)))
 (y (c == x))
 (y false))))))))))
 (fun vK=>(cbr vK
 (K false)
 (asr (decide ((0:Int)<(((List.length e):Nat):Int)))
 (lt (List.getD e 0 .nils) (fun w =>
 (asr (conf zK w)
 (a7 (yaa (yab w 0)) (yaM (yab w 1)) (yaM (yab w 2)) (fun vL =>
 (a8 vL (3:Int) (fun vM vN vO =>
 (jn (fun (f:Int→Int→Int→Prop) =>
 (asr (decide ((0:Int)<(((List.length e):Nat):Int)))
 (lt (List.getD e 0 .nils) (fun a =>
 (asr (conf zK a)
 (cbr (decide (c=(0:Int)))
 (cbr (decide (c=(0:Int)))
 (a9 (yaa (yab a 0)) (yaM (yab a 1)) (yaM (yab a 2)) h i j k (fun vP vQ vR =>
 (f vP vQ vR)))
 (cbr (decide (c=(1:Int)))
 (a9 (yaa (yab a 0)) (yaM (yab a 1)) (yaM (yab a 2)) h i n o (fun vS vT vU =>
 (f vS vT vU)))
 (cbr (decide (c=(2:Int)))
 (a9 (yaa (yab a 0)) (yaM (yab a 1)) (yaM (yab a 2)) h i r s (fun vV vW vX =>
 (f vV vW vX)))
 False)))
 (cbr (decide (c=(1:Int)))
 (cbr (decide (c=(0:Int)))
 (a9 (yaa (yab a 0)) (yaM (yab a 1)) (yaM (yab a 2)) l m j k (fun vY vZ v0 =>
 (f vY vZ v0)))
 (cbr (decide (c=(1:Int)))
 (a9 (yaa (yab a 0)) (yaM (yab a 1)) (yaM (yab a 2)) l m n o (fun v1 v2 v3 =>
 (f v1 v2 v3)))
 (cbr (decide (c=(2:Int)))
 (a9 (yaa (yab a 0)) (yaM (yab a 1)) (yaM (yab a 2)) l m r s (fun v4 v5 v6 =>
 (f v4 v5 v6)))
 False)))
 (cbr (decide (c=(2:Int)))
 (cbr (decide (c=(0:Int)))
 (a9 (yaa (yab a 0)) (yaM (yab a 1)) (yaM (yab a 2)) p q j k (fun v7 v8 v9 =>
 (f v7 v8 v9)))
 (cbr (decide (c=(1:Int)))
 (a9 (yaa (yab a 0)) (yaM (yab a 1)) (yaM (yab a 2)) p q n o (fun wa wb wc =>
 (f wa wb wc)))
 (cbr (decide (c=(2:Int)))
 (a9 (yaa (yab a 0)) (yaM (yab a 1)) (yaM (yab a 2)) p q r s (fun wd we wf =>
 (f wd we wf)))
 False)))
 False))))))))
 (fun wg wh wi=>(jn (fun (z:Bool→Prop) =>
 (cbr (vO !=(0:Int))
 (z true)
 (cbr (wi !=(0:Int))
 (z true)
 (z (!((wg == vM)&&((wh == vN)&&true)))))))
 (fun wj=>(cbr wj
 (K false)
 (jn (fun (g:Int→Int→Int→Prop) =>
 (asr (decide ((1:Int)<(((List.length e):Nat):Int)))
 (lt (List.getD e 1 .nils) (fun b =>
 (asr (conf zK b)
 (cbr (decide (d=(0:Int)))
 (cbr (decide (d=(0:Int)))
 (a9 (yaa (yab b 0)) (yaM (yab b 1)) (yaM (yab b 2)) h i j k (fun wk wl wm =>
 (g wk wl wm)))
 (cbr (decide (d=(1:Int)))
 (a9 (yaa (yab b 0)) (yaM (yab b 1)) (yaM (yab b 2)) h i n o (fun wn wo wp =>
 (g wn wo wp)))
 (cbr (decide (d=(2:Int)))
 (a9 (yaa (yab b 0)) (yaM (yab b 1)) (yaM (yab b 2)) h i r s (fun wq wr ws =>
 (g wq wr ws)))
 False)))
 (cbr (decide (d=(1:Int)))
 (cbr (decide (d=(0:Int)))
 (a9 (yaa (yab b 0)) (yaM (yab b 1)) (yaM (yab b 2)) l m j k (fun wt wu wv =>
 (g wt wu wv)))
 (cbr (decide (d=(1:Int)))
 (a9 (yaa (yab b 0)) (yaM (yab b 1)) (yaM (yab b 2)) l m n o (fun ww wx wy =>
 (g ww wx wy)))
 (cbr (decide (d=(2:Int)))
 (a9 (yaa (yab b 0)) (yaM (yab b 1)) (yaM (yab b 2)) l m r s (fun wz wA wB =>
 (g wz wA wB)))
 False)))
 (cbr (decide (d=(2:Int)))
 (cbr (decide (d=(0:Int)))
 (a9 (yaa (yab b 0)) (yaM (yab b 1)) (yaM (yab b 2)) p q j k (fun wC wD wE =>
 (g wC wD wE)))
 (cbr (decide (d=(1:Int)))
 (a9 (yaa (yab b 0)) (yaM (yab b 1)) (yaM (yab b 2)) p q n o (fun wF wG wH =>
 (g wF wG wH)))
 (cbr (decide (d=(2:Int)))
 (a9 (yaa (yab b 0)) (yaM (yab b 1)) (yaM (yab b 2)) p q r s (fun wI wJ wK =>
 (g wI wJ wK)))
 False)))
 False))))))))
 (fun wL wM wN=>(∃ wO:Nat,ybg a0 a1 a2 a3 a4 a5 a6 a7 a8 a9
 (fun w1 w2 w3 w4 w5 w6 w7 w8 w9 vaa vab vac vad vae vaf vag vah vai vaj vak val vam van vao vap vaq=>(a1  (fun wP =>
 (K wP))))
 (fun wQ=>(K wQ))
 wO e h i j k l m n o p q r s x vB vC vD vE c d vF wL wM wN (0:Int)))))))))))))))))))))
 (fun wR=>(K wR))
 vA vd ve vf vg vh vi vj vk vl vm vn vo vp vq vr vs vt vu vv vw vx vy vz false false false (0:Int)))
 (fun wS=>(K wS))
 vc p0 D E F G H I J L M N O Q u R S T U V W X va vb (0:Int))))))))))))
def yfC:ybc:=yhl ybi yaR yaP ybt yaS yaX yaG yaY ya9 yaN
def ypi (Q:Qx):Ls→Int→Int→Int→Int→Int→Int→Int→Int→Int→Int→Int→Int→Int→Int→Int→Int→Int→Int→Int→Int→Int→Int→Int→Bool→Prop:=(fun l0 i1 i2 i3 i4 i5 i6 i7 i8 i9 i10 i11 i12 i13 i14 i15 i16 i17 i18 i19 i20 i21 i22 i23 b24=>Q (.exit 0) [(0,.v (.data l0)),(4,.box (.agg [(.int .i64 i1),(.int .i64 i2),(.int .i64 i3),(.int .i64 i4),(.int .i64 i5),(.int .i64 i6),(.int .i64 i7),(.int .i64 i8),(.int .i64 i9),(.int .i64 i10),(.int .i64 i11),(.int .i64 i12),(.int .i64 i13),(.int .i64 i14),(.int .i64 i15),(.int .i64 i16),(.int .i64 i17),(.int .i64 i18),(.int .i64 i19),(.int .i64 i20)])),(6,.box (.agg [(.int .i64 i21),(.int .i64 i22)])),(7,.v (.int .i64 i23)),(66,.v (.bool b24))] [])
def ypj (Q:Qx):Bool→Prop:=(fun b0=>Q .ret [(2,.v (.bool b0))] [])
def ypk (Q:Qx):Ls→Int→Int→Int→Int→Int→Int→Int→Int→Int→Int→Int→Int→Int→Int→Int→Int→Int→Int→Int→Int→Int→Int→Bool→Bool→Bool→Int→Bool→Prop:=(fun l0 i1 i2 i3 i4 i5 i6 i7 i8 i9 i10 i11 i12 i13 i14 i15 i16 i17 i18 i19 i20 i21 i22 b23 b24 b25 i26 b27=>Q (.exit 2) [(0,.v (.data l0)),(4,.box (.agg [(.int .i64 i1),(.int .i64 i2),(.int .i64 i3),(.int .i64 i4),(.int .i64 i5),(.int .i64 i6),(.int .i64 i7),(.int .i64 i8),(.int .i64 i9),(.int .i64 i10),(.int .i64 i11),(.int .i64 i12),(.int .i64 i13),(.int .i64 i14),(.int .i64 i15),(.int .i64 i16),(.int .i64 i17),(.int .i64 i18),(.int .i64 i19),(.int .i64 i20)])),(6,.box (.agg [(.int .i64 i21),(.int .i64 i22)])),(8,.box (.agg [(.bool b23),(.bool b24),(.bool b25)])),(9,.v (.int .i64 i26)),(119,.v (.bool b27))] [])
def ypl (Q:Qx):Bool→Prop:=(fun b0=>Q .ret [(2,.v (.bool b0))] [])
def ypm (Q:Qx):Ls→Int→Int→Int→Int→Int→Int→Int→Int→Int→Int→Int→Int→Int→Int→Int→Int→Int→Int→Int→Int→Int→Int→Int→Int→Bool→Prop:=(fun l0 i1 i2 i3 i4 i5 i6 i7 i8 i9 i10 i11 i12 i13 i14 i15 i16 i17 i18 i19 i20 i21 i22 i23 i24 b25=>Q (.exit 4) [(0,.v (.data l0)),(4,.box (.agg [(.int .i64 i1),(.int .i64 i2),(.int .i64 i3),(.int .i64 i4),(.int .i64 i5),(.int .i64 i6),(.int .i64 i7),(.int .i64 i8),(.int .i64 i9),(.int .i64 i10),(.int .i64 i11),(.int .i64 i12),(.int .i64 i13),(.int .i64 i14),(.int .i64 i15),(.int .i64 i16),(.int .i64 i17),(.int .i64 i18),(.int .i64 i19),(.int .i64 i20)])),(14,.box (.agg [(.int .i64 i21),(.int .i64 i22)])),(15,.v (.int .i64 i23)),(16,.v (.int .i64 i24)),(229,.v (.bool b25))] [])
def ypn (Q:Qx):Bool→Prop:=(fun b0=>Q .ret [(2,.v (.bool b0))] [])
def yiD (a0:ybc) (a1:yc5) (a2:ybO) (a3:yax) (a4:yap) (a5:yay) (a6:yap) (a7:yav) (a8:ydG) (a9:yby) (Q:Qx):List St:=[⟨(pS hN (fV 0 vD (fX 4 pt35 (fX 6 pt7 (fV 7 pt0 fN)))) fN),ya1 a0 a1 a2 a3 a4 a5 a6 a7 a8 a9 (ypi Q) (ypj Q)⟩]
def yiE (a0:ybc) (a1:yc5) (a2:ybO) (a3:yax) (a4:yap) (a5:yay) (a6:yap) (a7:yav) (a8:ydG) (a9:yby) (Q:Qx):List St:=[⟨(pS hN (fV 0 vD (fX 4 pt35 (fX 6 pt7 (fX 8 (vA (lC vB (lC vB (lC vB lN)))) (fV 9 pt0 fN))))) fN),ybk a0 a1 a2 a3 a4 a5 a6 a7 a8 a9 (ypk Q) (ypl Q)⟩]
def yiF (a0:ybc) (a1:yc5) (a2:ybO) (a3:yax) (a4:yap) (a5:yay) (a6:yap) (a7:yav) (a8:ydG) (a9:yby) (Q:Qx):List St:=[⟨(pS hN (fV 0 vD (fX 4 pt35 (fX 14 pt7 (fV 15 pt0 (fV 16 pt0 fN))))) fN),ybg a0 a1 a2 a3 a4 a5 a6 a7 a8 a9 (ypm Q) (ypn Q)⟩]
def yeP (a0:ybc) (a1:yc5) (a2:ybO) (a3:yax) (a4:yap) (a5:yay) (a6:yap) (a7:yav) (a8:ydG) (a9:yby):LP:=lpS [(89186100,yiD a0 a1 a2 a3 a4 a5 a6 a7 a8 a9),(89186101,yiE a0 a1 a2 a3 a4 a5 a6 a7 a8 a9),(89186102,yiF a0 a1 a2 a3 a4 a5 a6 a7 a8 a9)]
def ydB (a0:ybc) (a1:yc5) (a2:ybO) (a3:yax) (a4:yap) (a5:yay) (a6:yap) (a7:yav) (a8:ydG) (a9:yby):SE:=sE (E ef0) [(ypL,yhc.pw a0),(ykn,yCb.pw a1),(yg0,ywx.pw a2),(yoj,yh6.pw a3),(yko,yoF.pw a4),(ygy,yor.pw a5),(ydF,ytd.pw a6),(ykp,ykT.pw a7),(ymk,yDQ.pw a8),(ykv,ymC.pw a9)] (yeP a0 a1 a2 a3 a4 a5 a6 a7 a8 a9)
theorem yeq:SEOk (Uni (E ef0)) (ydB ybi yaR yaP ybt yaS yaX yaG yaY ya9 yaN):=yaz (Sub.uni _) ⟨(yFw ef0 ydT),yCe,(ywA ef0 ydT),(yAd ef0 ydT),(yB4 ef0 ydT),(ymM ef0 ydT),(yfc ef0 ydT),(ytz ef0 ydT),(yDT ef0 ydT),(ytC ef0 ydT),trivial⟩ trivial ydT.ok
theorem ynW (a0 a1 a2 a3 a4 a5 a6 a7 a8 a9):yct (ydB a0 a1 a2 a3 a4 a5 a6 a7 a8 a9) 5 a yrN false (yiD a0 a1 a2 a3 a4 a5 a6 a7 a8 a9):=fun _=>⟨fun _=>by kernel_rfl,fun _ _=>by kernel_rfl,trivial⟩
theorem ynX:LpT (Uni (E ef0)) (yeP ybi yaR yaP ybt yaS yaX yaG yaY ya9 yaN) [] 89186100 (.loop 89186100 yrN):=fun _ _ _=>yof.st (Sub.uni _) (ya3 (yeq) 5) (YOk.no _ _) (yaq (by kernel_rfl)) (ynW _ _ _ _ _ _ _ _ _ _ _)
theorem ynY (a0 a1 a2 a3 a4 a5 a6 a7 a8 a9):yct (ydB a0 a1 a2 a3 a4 a5 a6 a7 a8 a9) 5 a yrO false (yiE a0 a1 a2 a3 a4 a5 a6 a7 a8 a9):=fun _=>⟨fun _=>by kernel_rfl,fun _ _=>by kernel_rfl,trivial⟩
theorem ynZ:LpT (Uni (E ef0)) (yeP ybi yaR yaP ybt yaS yaX yaG yaY ya9 yaN) [] 89186101 (.loop 89186101 yrO):=fun _ _ _=>yof.st (Sub.uni _) (ya3 (yeq) 5) (YOk.no _ _) (yaq (by kernel_rfl)) (ynY _ _ _ _ _ _ _ _ _ _ _)
theorem yn2 (a0 a1 a2 a3 a4 a5 a6 a7 a8 a9):yct (ydB a0 a1 a2 a3 a4 a5 a6 a7 a8 a9) 5 a yrP false (yiF a0 a1 a2 a3 a4 a5 a6 a7 a8 a9):=fun _=>⟨fun _=>by kernel_rfl,fun _ _=>by kernel_rfl,trivial⟩
theorem yn3:LpT (Uni (E ef0)) (yeP ybi yaR yaP ybt yaS yaX yaG yaY ya9 yaN) [] 89186102 (.loop 89186102 yrP):=fun _ _ _=>yof.st (Sub.uni _) (ya3 (yeq) 5) (YOk.no _ _) (yaq (by kernel_rfl)) (yn2 _ _ _ _ _ _ _ _ _ _ _)
theorem ytN (a0 a1 a2 a3 a4 a5 a6 a7 a8 a9):EqW (ydB a0 a1 a2 a3 a4 a5 a6 a7 a8 a9) 6 yft yhc (yhl a0 a1 a2 a3 a4 a5 a6 a7 a8 a9):=fun _ _=>by kernel_rfl
theorem ytO:OkF (E ef0) (yhc.pw yfC) yhK:=okU ydT (ytN _ _ _ _ _ _ _ _ _ _) (yeq) ynq.flat (ybq (l:=[(89186100,.loop 89186100 yrN),(89186101,.loop 89186101 yrO),(89186102,.loop 89186102 yrP)]) ⟨ynX,ynZ,yn3,trivial⟩ (by kernel_rfl))
def I64 (n:Int):Prop:=-9223372036854775808≤n∧n≤9223372036854775807
def U64 (n:Int):Prop:=0≤n∧n≤18446744073709551615
theorem yiG (n:Int):IntKind.u64.wrap n=n % 18446744073709551616:=by
 simp only [IntKind.wrap,IntKind.signed,IntKind.bits,qB4,qAo,if_false]
 rfl
theorem yLM (n:Int):IntKind.i64.wrap n=if n % 18446744073709551616≥9223372036854775808 then n % 18446744073709551616-18446744073709551616 else n % 18446744073709551616:=by
 have e1:(2:Int) ^ 64=18446744073709551616:=rfl
 have e2:(2:Int) ^ (64-1)=9223372036854775808:=rfl
 simp only [IntKind.wrap,IntKind.signed,IntKind.bits,qBq,e1,e2]
 by_cases h:n % 18446744073709551616≥9223372036854775808 <;> simp [h]
theorem wu64 {n:Int} (h:U64 n):IntKind.u64.wrap n=n:=by
 unfold U64 at h
 rw [yiG]
 omega
theorem wi64 {n:Int} (h:I64 n):IntKind.i64.wrap n=n:=by
 unfold I64 at h
 rw [yLM]
 split <;> omega
theorem yam {x y:Prop}:cbr true x y=x:=rfl
theorem yae {x y:Prop}:cbr false x y=y:=rfl
theorem yaU {x:Prop}:asr true x=x:=rfl
theorem ykH {p:Int} (h:I64 p) (K:Int→Prop):yeh p K=K (p.natAbs:Int):=by
 unfold I64 at h
 unfold yeh ykP
 by_cases hp:p<0
 ·have e:IntKind.u64.wrap ((0:Int)-IntKind.u64.wrap p)=(p.natAbs:Int):=by
   rw [yiG,yiG]
   omega
  rw [decide_eq_true hp,yam,e]
 ·rw [decide_eq_false hp,yae,wu64 ⟨by omega,by omega⟩]
  congr 1
  omega
theorem yD1 (x:Int→Int→Bool→Prop):∀ (n a b:Nat),b<n→yeu x n (a:Int) (b:Int)=x ((Nat.gcd a b:Nat):Int) 0 false
 | 0,a,b,h=>by omega
 | n+1,a,b,h=>by
  unfold yeu
  by_cases hb:b=0
  ·subst hb
   simp [cbr]
  ·have h1:(b:Int)>0:=by omega
   have h2:¬((b:Int)=0):=by omega
   rw [decide_eq_true h1,yam,decide_eq_false h2,qBn,yaU]
   have e:Int.tmod (a:Int) (b:Int)=((a % b:Nat):Int):=by rw [Int.tmod_eq_emod_of_nonneg (by omega)];omega
   rw [e,yD1 x n b (a % b) (by have:=Nat.mod_lt a (show b>0 by omega);omega)]
   rw [Nat.gcd_comm a b,Nat.gcd_rec b a,Nat.gcd_comm]
theorem yyn (a b:Nat) (K:Int→Prop) (h:K ((Nat.gcd a b:Nat):Int)):ycB (a:Int) (b:Int) K:=by
 unfold ycB ymn
 exact ⟨b+1,by rw [yD1 _ (b+1) a b (by omega)];exact h⟩
def RV (n d:Int):Prop:=1≤d∧d≤1000000000000000000∧-1000000000000000000≤n∧n≤1000000000000000000∧Nat.gcd n.natAbs d.natAbs=1
instance (n d:Int):Decidable (RV n d):=by unfold RV;infer_instance
def chk (n d:Int):Int:=if RV n d then 0 else 8
theorem yyo {n d:Int} (hn:I64 n) (hd:I64 d) {K:Int→Prop} (h:K (chk n d)):ybu n d K:=by
 unfold ybu yjz
 by_cases h1:d<1
 ·have e:chk n d=8:=if_neg fun h=>by have:=h.1;omega
  rw [decide_eq_true h1,yam,← e];exact h
 ·have hd':=hd;have hn':=hn
  unfold I64 at hd' hn'
  have ed:IntKind.u64.wrap d=((d.natAbs:Nat):Int):=by rw [wu64 ⟨by omega,by omega⟩];omega
  rw [decide_eq_false h1,yae,ykH hn,ed]
  by_cases h2:((if ((d.natAbs:Nat):Int)>((n.natAbs:Nat):Int) then ((d.natAbs:Nat):Int) else ((n.natAbs:Nat):Int))>1000000000000000000)
  ·have e:chk n d=8:=if_neg fun h=>by
    obtain ⟨a1,a2,a3,a4,_⟩:=h
    revert h2;split <;> omega
   rw [decide_eq_true h2,yam,← e];exact h
  ·rw [decide_eq_false h2,yae,ykH hn]
   refine yyn _ _ _ ?_
   have h3:0<Nat.gcd n.natAbs d.natAbs:=qA9 _ (by omega)
   have h4:d≤1000000000000000000∧-1000000000000000000≤n∧n≤1000000000000000000:=by
    revert h2;split <;> omega
   by_cases h5:((Nat.gcd n.natAbs d.natAbs:Nat):Int)>1
   ·have e:chk n d=8:=if_neg fun h=>by have:=h.2.2.2.2;omega
    rw [decide_eq_true h5,yam,← e];exact h
   ·have e:chk n d=0:=if_pos ⟨by omega,h4.1,h4.2.1,h4.2.2,by omega⟩
    rw [decide_eq_false h5,yae,← e];exact h
theorem ync {p:Int} (h:U64 p):IntKind.u64.wrap (BitVec.ofInt IntKind.u64.bits p&&&BitVec.ofInt IntKind.u64.bits (4294967295:Int)).toNat=p % 4294967296:=by
 unfold U64 at h
 have e1:(BitVec.ofInt 64 p).toNat=p.toNat:=by
  rw [BitVec.toNat_ofInt];omega
 have e2:(BitVec.ofInt 64 (4294967295:Int)).toNat=4294967295:=rfl
 have e3:(BitVec.ofInt IntKind.u64.bits p&&&BitVec.ofInt IntKind.u64.bits (4294967295:Int)).toNat=p.toNat % 4294967296:=by
  show (BitVec.ofInt 64 p&&&BitVec.ofInt 64 (4294967295:Int)).toNat=_
  rw [BitVec.toNat_and,e1,e2]
  exact Nat.and_two_pow_sub_one_eq_mod p.toNat 32
 rw [e3,yiG]
 omega
theorem yIN (p:Int):Int.fdiv p 4294967296=p / 4294967296:=by
 rw [Int.fdiv_eq_ediv_of_nonneg _ (by omega)]
theorem yjT {a b:Int} (ha:U64 a) (hb:U64 b) (K:Int→Int→Prop):yfu a b K=K (a*b / 18446744073709551616) (a*b % 18446744073709551616):=by
 unfold yfu yrU
 simp only [yIN]
 rw [ync ha,ync hb]
 unfold U64 at ha hb
 have ha':=ha;have hb':=hb
 obtain ⟨x1,hx1⟩:∃ x,x=a / 4294967296:=⟨_,rfl⟩
 obtain ⟨x0,hx0⟩:∃ x,x=a % 4294967296:=⟨_,rfl⟩
 obtain ⟨y1,hy1⟩:∃ x,x=b / 4294967296:=⟨_,rfl⟩
 obtain ⟨y0,hy0⟩:∃ x,x=b % 4294967296:=⟨_,rfl⟩
 rw [← hx1,← hx0,← hy1,← hy0]
 have b1:0≤x1∧x1≤4294967295:=by omega
 have b2:0≤x0∧x0≤4294967295:=by omega
 have b3:0≤y1∧y1≤4294967295:=by omega
 have b4:0≤y0∧y0≤4294967295:=by omega
 have pb:∀ x y:Int,0≤x∧x≤4294967295→0≤y∧y≤4294967295→0≤x*y∧x*y≤18446744065119617025:=by
  intro x y hx hy
  refine ⟨qA4 hx.1 hy.1,?_⟩
  have:=qA6 hx.2 hy.2 hy.1 (by omega:(0:Int)≤4294967295)
  omega
 have p1:=pb x1 y1 b1 b3
 have p2:=pb x1 y0 b1 b4
 have p3:=pb x0 y1 b2 b3
 have p4:=pb x0 y0 b2 b4
 have ea:a=x1*4294967296+x0:=by omega
 have eb:b=y1*4294967296+y0:=by omega
 have eab:a*b=x1*y1*18446744073709551616+x1*y0*4294967296+x0*y1*4294967296+x0*y0:=by
  rw [ea,eb];grind
 obtain ⟨P,hP⟩:∃ x,x=x1*y1:=⟨_,rfl⟩
 obtain ⟨Q,hQ⟩:∃ x,x=x1*y0:=⟨_,rfl⟩
 obtain ⟨R,hR⟩:∃ x,x=x0*y1:=⟨_,rfl⟩
 obtain ⟨S,hS⟩:∃ x,x=x0*y0:=⟨_,rfl⟩
 rw [← hP] at p1;rw [← hQ] at p2;rw [← hR] at p3;rw [← hS] at p4
 rw [← hP,← hQ,← hR,← hS] at eab ⊢
 have w1:IntKind.u64.wrap S=S:=wu64 ⟨by omega,by omega⟩
 have w2:IntKind.u64.wrap Q=Q:=wu64 ⟨by omega,by omega⟩
 have w3:IntKind.u64.wrap R=R:=wu64 ⟨by omega,by omega⟩
 have w4:IntKind.u64.wrap P=P:=wu64 ⟨by omega,by omega⟩
 rw [w1,w2,w3,w4]
 have w5:IntKind.u64.wrap (Q+S / 4294967296)=Q+S / 4294967296:=wu64 ⟨by omega,by omega⟩
 rw [w5,ync ⟨by omega,by omega⟩]
 have w6:IntKind.u64.wrap ((Q+S / 4294967296) % 4294967296+R)=(Q+S / 4294967296) % 4294967296+R:=wu64 ⟨by omega,by omega⟩
 rw [w6]
 have w7:IntKind.u64.wrap (P+(Q+S / 4294967296) / 4294967296)=P+(Q+S / 4294967296) / 4294967296:=by
  have:a*b / 18446744073709551616≤18446744073709551615:=by
   have h1:a*b≤18446744073709551615*18446744073709551615:=by
    have:=qA6 ha'.2 hb'.2 hb'.1 (by omega:(0:Int)≤18446744073709551615)
    exact this
   omega
  exact wu64 ⟨by omega,by omega⟩
 rw [w7]
 have hab:a*b≤18446744073709551615*18446744073709551615:=qA6 ha'.2 hb'.2 hb'.1 (by omega:(0:Int)≤18446744073709551615)
 rw [eab] at hab ⊢
 rw [yiG,yiG]
 congr 1
 omega
theorem yLf {a b:Int} {K:Int→Prop} (h:K (if a=0 then b else a)):yei [.int .i64 a,.int .i64 b] K:=by
 unfold yei yfM
 refine ⟨3,?_⟩
 have e1:IntKind.i64.wrap 1=1:=by decide
 have e2:IntKind.i64.wrap 2=2:=by decide
 by_cases ha:a=0
 ·by_cases hb:b=0
  ·simp [ybH,yam,yae,yaU,conf,ynp,yaa,e1,e2,ha,hb] at h ⊢;exact h
  ·have e3:(b != 0)=true:=by simpa using hb
   simp [ybH,yam,yae,yaU,conf,ynp,yaa,e1,e2,ha,e3] at h ⊢;exact h
 ·have e3:(a != 0)=true:=by simpa using ha
  simp [ybH,yam,yae,yaU,conf,ynp,yaa,e1,e2,ha,e3] at h ⊢;exact h
def chk2 (a b c d:Int):Int:=if chk a b=0 then chk c d else chk a b
theorem ypo {a b c d:Int} (ha:I64 a) (hb:I64 b) (hc:I64 c) (hd:I64 d) {K:Int→Prop} (h:K (chk2 a b c d)):yc1 a b c d K:=by
 unfold yc1 yjA
 exact yyo ha hb (yyo hc hd (yLf h))
def cmp3 (a b:Int):Int:=if a<b then -1 else if a>b then 1 else 0
theorem yCf (a b:Int) (K:Int→Prop):ydM a b K=K (cmp3 a b):=by
 unfold ydM yfa
 simp only [yg2,yge,bne_self_eq_false,yae,cmp3]
 by_cases h:a<b
 ·simp [h,yam]
 ·by_cases h2:a>b
  ·simp [h,h2,yam,yae]
  ·simp [h,h2,yae]
theorem ytP (a b:Int) (K:Int→Prop):ydz a b K=K (cmp3 a b):=by
 unfold ydz yeD
 simp only [ygf,yfO,bne_self_eq_false,yae,cmp3]
 by_cases h:a<b
 ·simp [h,yam]
 ·by_cases h2:a>b
  ·simp [h,h2,yam,yae]
  ·simp [h,h2,yae]
theorem yKa {a b:Int} {K:Int→Prop} (h:K (if a=0 then b else a)):yiS [.int .i64 a,.int .i64 b] K:=by
 unfold yiS ykQ
 refine ⟨3,?_⟩
 have e1:IntKind.i64.wrap 1=1:=by decide
 have e2:IntKind.i64.wrap 2=2:=by decide
 by_cases ha:a=0
 ·by_cases hb:b=0
  ·simp [yc8,yam,yae,yaU,conf,ynp,yaa,e1,e2,ha,hb] at h ⊢;exact h
  ·have e3:(b != 0)=true:=by simpa using hb
   simp [yc8,yam,yae,yaU,conf,ynp,yaa,e1,e2,ha,e3] at h ⊢;exact h
 ·have e3:(a != 0)=true:=by simpa using ha
  simp [yc8,yam,yae,yaU,conf,ynp,yaa,e1,e2,ha,e3] at h ⊢;exact h
theorem ycM {a b c d:Int}:chk2 a b c d=0↔RV a b∧RV c d:=by
 unfold chk2 chk
 by_cases h1:RV a b <;> by_cases h2:RV c d <;> simp [h1,h2]
def cmpR (a b c d:Int):Int:=cmp3 (a*d) (c*b)
theorem yHD {x y:Int} (hx:0≤x) (hy:0≤y):(if cmp3 (x / 18446744073709551616) (y / 18446744073709551616)=0 then cmp3 (x % 18446744073709551616) (y % 18446744073709551616) else cmp3 (x / 18446744073709551616) (y / 18446744073709551616))=cmp3 x y:=by
 unfold cmp3
 split <;> rename_i h <;> revert h <;> repeat' split <;> intro h <;> omega
theorem U64.abs {n:Int} (h:I64 n):U64 ((n.natAbs:Nat):Int):=by unfold I64 at h;unfold U64;omega
theorem yIO {a b c d:Int} (ha:I64 a) (hb:I64 b) (hc:I64 c) (hd:I64 d) {K:Int→Int→Prop} (h:K (if chk2 a b c d=0 then cmpR a b c d else 0) (chk2 a b c d)):ybW a b c d K:=by
 unfold ybW ymt
 refine ypo ha hb hc hd ?_
 by_cases hk:chk2 a b c d=0
 ·rw [if_pos hk] at h
  rw [hk] at h ⊢
  obtain ⟨⟨b1,b2,a1,a2,_⟩,d1,d2,c1,c2,_⟩:=ycM.1 hk
  simp only [bne_self_eq_false,yae]
  by_cases hs:decide (a<0)=decide (c<0)
  ·have e:(decide (a<0) != decide (c<0))=false:=by rw [hs];simp
   rw [e,yae,ykH ha,wu64 ⟨by omega,by omega⟩,yjT (U64.abs ha) ⟨by omega,by omega⟩,ykH hc,wu64 ⟨by omega,by omega⟩,yjT (U64.abs hc) ⟨by omega,by omega⟩,ytP,ytP]
   refine yKa ?_
   have p1:0≤((a.natAbs:Nat):Int)*d:=qA4 (by omega) (by omega)
   have p2:0≤((c.natAbs:Nat):Int)*b:=qA4 (by omega) (by omega)
   rw [yHD p1 p2]
   by_cases hneg:a<0
   ·have hcn:c<0:=by simpa [hneg] using hs.symm
    rw [decide_eq_true hneg,yam]
    have e1:((a.natAbs:Nat):Int)*d=-(a*d):=by
     rw [show ((a.natAbs:Nat):Int)=-a by omega,Int.neg_mul]
    have e2:((c.natAbs:Nat):Int)*b=-(c*b):=by
     rw [show ((c.natAbs:Nat):Int)=-c by omega,Int.neg_mul]
    have e3:IntKind.i64.wrap (0-cmp3 (((a.natAbs:Nat):Int)*d) (((c.natAbs:Nat):Int)*b))=cmpR a b c d:=by
     rw [e1,e2]
     unfold cmpR cmp3
     rw [wi64 (by unfold I64;repeat' split <;> omega)]
     repeat' split <;> omega
    rw [e3];exact h
   ·have hcn:¬c<0:=by simpa [hneg] using hs.symm
    rw [decide_eq_false hneg,yae,show ((a.natAbs:Nat):Int)=a by omega,show ((c.natAbs:Nat):Int)=c by omega]
    exact h
  ·have e:(decide (a<0) != decide (c<0))=true:=by simpa using hs
   rw [e,yam,yCf]
   have e2:cmp3 a c=cmpR a b c d:=by
    unfold cmpR cmp3
    by_cases hneg:a<0
    ·have hcn:¬c<0:=by intro hcn;simp [hneg,hcn] at hs
     have q1:a*d<0:=qB5 hneg (by omega)
     have q2:0≤c*b:=qA4 (by omega) (by omega)
     rw [if_pos (by omega),if_pos (by omega)]
    ·have hcn:c<0:=by
      by_cases hcn:c<0
      ·exact hcn
      ·simp [hneg,hcn] at hs
     have q1:c*b<0:=qB5 hcn (by omega)
     have q2:0≤a*d:=qA4 (by omega) (by omega)
     rw [if_neg (by omega),if_pos (by omega),if_neg (by omega),if_pos (by omega)]
   rw [e2];exact h
 ·rw [if_neg hk] at h
  have e:(chk2 a b c d != 0)=true:=by simpa using hk
  rw [e,yam];exact h
def blen (x:Nat):Nat:=if x=0 then 0 else x.log2+1
theorem yGk (x:Nat):x<2 ^ blen x:=by
 unfold blen
 split
 ·rename_i h;subst h;decide
 ·exact Nat.lt_log2_self
theorem ywJ {x:Nat} (h:x≠0):2 ^ (blen x-1)≤x:=by
 unfold blen
 rw [if_neg h]
 exact Nat.log2_self_le h
theorem yKb {x m:Nat} (h1:2 ^ m≤x) (h2:x<2 ^ (m+1)):blen x=m+1:=by
 have hx:x≠0:=by have:=Nat.two_pow_pos m;omega
 unfold blen
 rw [if_neg hx]
 congr 1
 have a:=Nat.log2_self_le hx
 have b:=Nat.lt_log2_self (n:=x)
 have c1:¬(x.log2<m):=fun h=>by
  have:=Nat.pow_le_pow_right (show 0<2 by omega) (show x.log2+1≤m by omega)
  omega
 have c2:¬(m<x.log2):=fun h=>by
  have:=Nat.pow_le_pow_right (show 0<2 by omega) (show m+1≤x.log2 by omega)
  omega
 omega
theorem yIP {x k:Nat} (h:2 ^ k≤x):blen x=k+blen (x / 2 ^ k):=by
 have hp:=Nat.two_pow_pos k
 have hq:x / 2 ^ k≠0:=by
  have:=Nat.div_pos h hp
  omega
 have h1:=ywJ hq
 have h2:=yGk (x / 2 ^ k)
 obtain ⟨m,hm⟩:∃ m,blen (x / 2 ^ k)=m+1:=⟨blen (x / 2 ^ k)-1,by
  have:blen (x / 2 ^ k)≠0:=by unfold blen;rw [if_neg hq];omega
  omega⟩
 rw [hm] at h1 h2 ⊢
 rw [Nat.add_sub_cancel] at h1
 have:=yKb (x:=x) (m:=k+m) (by
   rw [Nat.pow_add]
   calc 2 ^ k*2 ^ m≤2 ^ k*(x / 2 ^ k):=Nat.mul_le_mul_left _ h1
    _≤x:=Nat.mul_div_le _ _) (by
   rw [show k+m+1=k+(m+1) by omega,Nat.pow_add]
   rw [Nat.mul_comm]
   exact (Nat.div_lt_iff_lt_mul hp).1 h2)
 omega
theorem yLg:∀ x:Nat,x<256→yaa (List.getD ygU x .nils)=(blen x:Int):=by decide +kernel
theorem wu8 {n:Int} (h0:0≤n) (h1:n<256):IntKind.u8.wrap n=n:=by
 have e1:(2:Int) ^ 8=256:=rfl
 simp only [IntKind.wrap,IntKind.signed,IntKind.bits,qB4,qAo,if_false,e1]
 omega
theorem yKc {n:Int} (h0:0≤n) (h1:n<256):yaa (List.getD ygU (IntKind.u8.wrap n).toNat .nils)=(blen n.toNat:Int):=by
 rw [wu8 h0 h1]
 exact yLg n.toNat (by omega)
theorem yLN {n:Nat} (h:n<256):blen n≤8:=by
 by_cases h0:n=0
 ·subst h0;decide
 ·have:=ywJ h0
  have h2:blen n-1<8:=by
   refine Nat.lt_of_not_le fun hc=>?_
   have:=Nat.pow_le_pow_right (show 0<2 by omega) hc
   omega
  omega
theorem yvS {n k:Int} (h0:0≤n) (h1:n<256) (hk:0≤k∧k≤56) {m:Int} (hm:m=k+blen n.toNat) {K:Int→Prop} (h:K m) :
  asr (decide ((0:Int)≤(IntKind.u8.wrap n))) (asr (decide ((IntKind.u8.wrap n)<(256:Int))) (K (IntKind.i64.wrap (k+(IntKind.i64.wrap (yaa (List.getD ygU ((IntKind.u8.wrap n).toNat) .nils))))))):=by
 have hb:=yLN (n:=n.toNat) (by omega)
 have e1:IntKind.i64.wrap (blen n.toNat:Int)=blen n.toNat:=wi64 (by unfold I64;omega)
 have e2:IntKind.i64.wrap (k+blen n.toNat:Int)=k+blen n.toNat:=wi64 (by unfold I64;omega)
 rw [yKc h0 h1,wu8 h0 h1,decide_eq_true h0,yaU,decide_eq_true h1,yaU,e1,e2,← hm]
 exact h
theorem yvT (p q:Int) (hq:0≤q):Int.fdiv p q=p / q:=Int.fdiv_eq_ediv_of_nonneg _ hq
theorem yIQ {p:Int} (hp:U64 p) {K:Int→Prop} (h:K (blen p.toNat:Int)):ypR p K:=by
 unfold U64 at hp
 unfold ypR yr0
 simp only [yvT _ 4294967296 (by omega),yvT _ 65536 (by omega),yvT _ 256 (by omega)]
 have key:∀ (k:Nat) (q:Int),2 ^ k≤p.toNat→q=p / (2 ^ k:Nat)→(blen p.toNat:Int)=k+blen q.toNat:=by
  intro k q hk hq
  have e:q.toNat=p.toNat / 2 ^ k:=by
   rw [hq]
   obtain ⟨m,rfl⟩:∃ m:Nat,p=m:=⟨p.toNat,by omega⟩
   rw [← qAy,qAe,qAe]
  rw [e]
  have:=yIP hk
  omega
 by_cases h1:p≥4294967296
 ·rw [decide_eq_true h1,yam]
  by_cases h2:p / 4294967296≥65536
  ·rw [decide_eq_true h2,yam]
   by_cases h3:p / 4294967296 / 65536≥256
   ·rw [decide_eq_true h3,yam]
    exact yvS (by omega) (by omega) (by omega) (key 56 _ (by omega) (by omega)) h
   ·rw [decide_eq_false h3,yae]
    exact yvS (by omega) (by omega) (by omega) (key 48 _ (by omega) (by omega)) h
  ·rw [decide_eq_false h2,yae]
   by_cases h3:p / 4294967296≥256
   ·rw [decide_eq_true h3,yam]
    exact yvS (by omega) (by omega) (by omega) (key 40 _ (by omega) (by omega)) h
   ·rw [decide_eq_false h3,yae]
    exact yvS (by omega) (by omega) (by omega) (key 32 _ (by omega) (by omega)) h
 ·rw [decide_eq_false h1,yae]
  by_cases h2:p≥65536
  ·rw [decide_eq_true h2,yam]
   by_cases h3:p / 65536≥256
   ·rw [decide_eq_true h3,yam]
    exact yvS (by omega) (by omega) (by omega) (key 24 _ (by omega) (by omega)) h
   ·rw [decide_eq_false h3,yae]
    exact yvS (by omega) (by omega) (by omega) (key 16 _ (by omega) (by omega)) h
  ·rw [decide_eq_false h2,yae]
   by_cases h3:p≥256
   ·rw [decide_eq_true h3,yam]
    exact yvS (by omega) (by omega) (by omega) (key 8 _ (by omega) (by omega)) h
   ·rw [decide_eq_false h3,yae]
    exact yvS (by omega) (by omega) (by omega) (by simp) h
theorem ytQ {p:Int} (hp:U64 p) {K:Int→Prop} (h:K (64-blen p.toNat:Int)):ybF p K:=by
 unfold ybF yfP
 refine yIQ hp ?_
 have hb:blen p.toNat≤64:=by
  unfold U64 at hp
  by_cases h0:p.toNat=0
  ·rw [h0];decide
  ·have:=ywJ h0
   have h2:blen p.toNat-1<64:=by
    refine Nat.lt_of_not_le fun hc=>?_
    have:=Nat.pow_le_pow_right (show 0<2 by omega) hc
    omega
   omega
 rw [wi64 (by unfold I64;omega)]
 exact h
structure DI (y a b u un q r:Int):Prop where
 hy:y=a*4294967296+b
 h1:2147483648≤a∧a≤4294967295
 h0:0≤b∧b≤4294967295
 hn:0≤un∧un≤4294967295
 hu:q*a+r=u
 hq:0≤q∧q≤4294967297
 hr:0≤r∧r≤4294967295
 hlt:u<y
 hU:u*4294967296+un<(q+1)*y
def DG (y u un q:Int):Prop:=0≤q∧q≤4294967295∧q*y≤u*4294967296+un∧u*4294967296+un<(q+1)*y
theorem DI.step {y a b u un q r:Int} (h:DI y a b u un q r) {A B C:Prop}
  (hA:DG y u un (q-1)→0≤q-1→q-1≤4294967296→A)
  (hB:DI y a b u un (q-1) (r+a)→B)
  (hC:DG y u un q→C) :
  cbr (decide (q≥(4294967296:Int)))
   (cbr (decide ((IntKind.u64.wrap (r+a))≥(4294967296:Int))) A B)
   (cbr (decide ((IntKind.u64.wrap (q*b))>(IntKind.u64.wrap ((IntKind.u64.wrap ((4294967296:Int)*r))+un))))
    (cbr (decide ((IntKind.u64.wrap (r+a))≥(4294967296:Int))) A B) C):=by
 have h':=h
 obtain ⟨hy,h1,h0,hn,hu,hq,hr,hlt,hU⟩:=h
 have e1:IntKind.u64.wrap (r+a)=r+a:=wu64 ⟨by omega,by omega⟩
 have eq1:q*y=q*a*4294967296+q*b:=by rw [hy];grind
 have eq2:(q-1)*y=q*y-y:=by grind
 have eq3:(q-1)*a=q*a-a:=by grind
 have eq4:(q-1+1)*y=q*y:=by grind
 have eq5:(q-1)*b=q*b-b:=by grind
 have big:u*4294967296+un<q*y→cbr (decide ((IntKind.u64.wrap (r+a))≥(4294967296:Int))) A B:=by
  intro hb
  have q1:0≤q-1:=by
   refine Int.not_lt.1 fun hc=>?_
   have hq0:q=0:=by omega
   subst hq0
   simp at hb hu
   omega
  rw [e1]
  by_cases hc:r+a≥4294967296
  ·rw [decide_eq_true hc,yam]
   have hp:(q-1)*b≤4294967296*4294967295:=qA6 (by omega) h0.2 h0.1 (by omega)
   have hle:(q-1)*y≤u*4294967296+un:=by
    have:(q-1)*y=(q-1)*a*4294967296+(q-1)*b:=by rw [hy];grind
    omega
   have hlt32:q-1≤4294967295:=by
    refine Int.not_lt.1 fun hc=>?_
    have:4294967296*y≤(q-1)*y:=qBi (by omega) (by omega)
    omega
   exact hA ⟨q1,hlt32,hle,by rw [eq4];exact hb⟩ q1 (by omega)
  ·rw [decide_eq_false hc,yae]
   exact hB ⟨hy,h1,h0,hn,by rw [eq3];omega,⟨q1,by omega⟩,⟨by omega,by omega⟩,hlt,by rw [eq4];exact hb⟩
 by_cases ha:q≥4294967296
 ·rw [decide_eq_true ha,yam]
  refine big ?_
  have:4294967296*y≤q*y:=qBi (by omega) (by omega)
  omega
 ·rw [decide_eq_false ha,yae]
  have hp:q*b≤4294967295*4294967295:=qA6 (by omega) h0.2 h0.1 (by omega)
  have hp0:0≤q*b:=qA4 hq.1 h0.1
  have w1:IntKind.u64.wrap (q*b)=q*b:=wu64 ⟨hp0,by omega⟩
  have w2:IntKind.u64.wrap ((4294967296:Int)*r)=4294967296*r:=wu64 ⟨by omega,by omega⟩
  have w3:IntKind.u64.wrap ((4294967296:Int)*r+un)=4294967296*r+un:=wu64 ⟨by omega,by omega⟩
  rw [w1,w2,w3]
  by_cases hb:q*b>4294967296*r+un
  ·rw [decide_eq_true hb,yam]
   exact big (by omega)
  ·rw [decide_eq_false hb,yae]
   exact hC ⟨hq.1,by omega,by omega,hU⟩
theorem yLO (W:Int→(Int→Prop)→Prop) {y a c u un:Int} (s v un0:Int) {x0 x1:Int→Int→Int→Int→Int→Int→Int→Int→Int→Bool→Prop}
  (hx:∀ q r b,DG y u un q→x0 y s a c v un un0 q r b) (hx1:∀ q r b,DG y u un q→x1 y s a c v un un0 q r b) :
  ∀ (n:Nat) (q r:Int) (b:Bool),DI y a c u un q r→4294967296≤r+n*2147483648→yc2 W x0 x1 (n+1) y s a c v un un0 q r b:=by
 intro n
 induction n with
 | zero =>
  intro q r b h hn
  have:=h.hr.2
  exact absurd hn (by omega)
 | succ n ih =>
  intro q r b h hn
  unfold yc2
  refine h.step (fun g a1 a2=>?_) (fun g=>?_) (fun g=>hx1 _ _ _ g)
  ·rw [wu64 (n:=q-1) ⟨by omega,by omega⟩]
   exact hx _ _ _ g
  ·have e1:IntKind.u64.wrap (q-1)=q-1:=wu64 ⟨g.hq.1,by have:=g.hq.2;omega⟩
   have e2:IntKind.u64.wrap (r+a)=r+a:=wu64 ⟨g.hr.1,by have:=g.hr.2;omega⟩
   rw [e1,e2]
   exact ih _ _ _ g (by have:=h.h1.1;omega)
theorem yLP (W:Int→(Int→Prop)→Prop) {y a c u un:Int} (s q1 v:Int) {x0 x1:Int→Int→Int→Int→Int→Int→Int→Int→Int→Bool→Prop}
  (hx:∀ q r b,DG y u un q→x0 y s a c un q1 r v q b) (hx1:∀ q r b,DG y u un q→x1 y s a c un q1 r v q b) :
  ∀ (n:Nat) (q r:Int) (b:Bool),DI y a c u un q r→4294967296≤r+n*2147483648→yc3 W x0 x1 (n+1) y s a c un q1 r v q b:=by
 intro n
 induction n with
 | zero =>
  intro q r b h hn
  have:=h.hr.2
  exact absurd hn (by omega)
 | succ n ih =>
  intro q r b h hn
  unfold yc3
  refine h.step (fun g a1 a2=>?_) (fun g=>?_) (fun g=>hx1 _ _ _ g)
  ·rw [wu64 (n:=q-1) ⟨by omega,by omega⟩]
   exact hx _ _ _ g
  ·have e1:IntKind.u64.wrap (q-1)=q-1:=wu64 ⟨g.hq.1,by have:=g.hq.2;omega⟩
   have e2:IntKind.u64.wrap (r+a)=r+a:=wu64 ⟨g.hr.1,by have:=g.hr.2;omega⟩
   rw [e1,e2]
   exact ih _ _ _ g (by have:=h.h1.1;omega)
theorem yLh (W:Int→(Int→Prop)→Prop) {y a c u un:Int} (s v un0:Int) {x0 x1:Int→Int→Int→Int→Int→Int→Int→Int→Int→Bool→Prop}
  (hx:∀ q r b,DG y u un q→x0 y s a c v un un0 q r b) (hx1:∀ q r b,DG y u un q→x1 y s a c v un un0 q r b) (q r:Int) (h:DI y a c u un q r):yh4 W x0 x1 3 y s a c v un un0 q r:=by
 have:=yLO W s v un0 hx hx1 2 q r true h (by have:=h.hr.1;omega)
 unfold yc2 at this
 unfold yh4
 exact this
theorem yLi (W:Int→(Int→Prop)→Prop) {y a c u un:Int} (s q1 v:Int) {x0 x1:Int→Int→Int→Int→Int→Int→Int→Int→Int→Bool→Prop}
  (hx:∀ q r b,DG y u un q→x0 y s a c un q1 r v q b) (hx1:∀ q r b,DG y u un q→x1 y s a c un q1 r v q b) (q r:Int) (h:DI y a c u un q r):yex W x0 x1 3 y s a c un q1 r v q:=by
 have:=yLP W s q1 v hx hx1 2 q r true h (by have:=h.hr.1;omega)
 unfold yc3 at this
 unfold yex
 exact this
theorem DI.init {y a b u un:Int} (hy:y=a*4294967296+b) (h1:2147483648≤a∧a≤4294967295) (h0:0≤b∧b≤4294967295) (hn:0≤un∧un≤4294967295)
  (hu:0≤u) (hlt:u<y):DI y a b u un (u / a) (u-u / a*a):=by
 have a1:=Int.mul_ediv_add_emod u a
 have a2:=Int.emod_nonneg u (show a≠0 by omega)
 have a3:=Int.emod_lt_of_pos u (show 0<a by omega)
 have a4:u / a*a=a*(u / a):=Int.mul_comm _ _
 have a5:0≤u / a:=qCb hu (by omega)
 have a6:u / a≤4294967297:=by
  refine Int.not_lt.1 fun hc=>?_
  have:a*4294967298≤a*(u / a):=Int.mul_le_mul_of_nonneg_left (by omega) (by omega)
  omega
 refine ⟨hy,h1,h0,hn,by omega,⟨a5,a6⟩,⟨by omega,by omega⟩,hlt,?_⟩
 have e:(u / a+1)*y=a*(u / a)*4294967296+a*4294967296+(u / a+1)*b:=by
  obtain ⟨t,ht⟩:∃ t,t=u / a:=⟨_,rfl⟩
  rw [← ht,hy];grind
 have:0≤(u / a+1)*b:=qA4 (by omega) h0.1
 omega
theorem yIR {a b:Int} {k:Nat} (ha:0≤a) (hb:0≤b∧b<2 ^ k) (hab:a*2 ^ k≤18446744073709551615∧b≤18446744073709551615) (hs:a*2 ^ k+b≤18446744073709551615) :
  IntKind.u64.wrap (BitVec.ofInt IntKind.u64.bits (a*2 ^ k)|||BitVec.ofInt IntKind.u64.bits b).toNat=a*2 ^ k+b:=by
 obtain ⟨x,rfl⟩:∃ x:Nat,a=x:=⟨a.toNat,by omega⟩
 obtain ⟨z,rfl⟩:∃ z:Nat,b=z:=⟨b.toNat,by omega⟩
 have ec:((x:Int)*2 ^ k)=((2 ^ k*x:Nat):Int):=by push_cast;exact Int.mul_comm _ _
 rw [ec] at hab hs ⊢
 have hz:z<2 ^ k:=by have:=hb.2;exact_mod_cast this
 have e:(BitVec.ofInt IntKind.u64.bits ((2 ^ k*x:Nat):Int)|||BitVec.ofInt IntKind.u64.bits (z:Int)).toNat=2 ^ k*x+z:=by
  show (BitVec.ofInt 64 ((2 ^ k*x:Nat):Int)|||BitVec.ofInt 64 (z:Int)).toNat=_
  rw [BitVec.toNat_or,BitVec.toNat_ofInt,BitVec.toNat_ofInt]
  have e1:(((2 ^ k*x:Nat):Int) % (2 ^ 64:Nat)).toNat=2 ^ k*x:=by omega
  have e2:((z:Int) % (2 ^ 64:Nat)).toNat=z:=by omega
  rw [e1,e2,Nat.two_pow_add_eq_or_of_lt hz]
 rw [e,wu64 ⟨by omega,by omega⟩]
 push_cast;rfl
theorem yGl {u un q y:Int} (h0:0≤u*4294967296+un-q*y) (h1:u*4294967296+un-q*y≤18446744073709551615) :
  IntKind.u64.wrap (IntKind.u64.wrap (IntKind.u64.wrap (u*4294967296)+un)-IntKind.u64.wrap (q*y))=u*4294967296+un-q*y:=by
 simp only [yiG]
 omega
theorem ypp {a b:Int} (h:0≤a):Int.tdiv a b=a / b:=Int.tdiv_eq_ediv_of_nonneg h
theorem yKD {a b:Int} (h:0≤a):Int.tmod a b=a % b:=Int.tmod_eq_emod_of_nonneg h
theorem yD2 {h l y:Int} (hh:U64 h) (hl:U64 l) (hy:U64 y) (hlt:h<y) {K:Int→Int→Prop}
  (k:K ((h*18446744073709551616+l) / y) ((h*18446744073709551616+l) % y)):ygA h l y K:=by
 unfold U64 at hh hl hy
 unfold ygA yr2
 have b1:(y ==(0:Int))=false:=beq_eq_false_iff_ne.2 (by omega)
 have b2:decide (y≤h)=false:=decide_eq_false (by omega)
 have b3:(!(decide (y=(0:Int))))=true:=by rw [decide_eq_false (by omega)];rfl
 rw [b1,yae,b2,yae,b3]
 by_cases h0:h=0
 ·subst h0
  have:((0:Int) == 0)=true:=rfl
  rw [this,yam,yaU,yaU,ypp hl.1,yKD hl.1]
  have e:(0:Int)*18446744073709551616+l=l:=by omega
  rw [e] at k
  have b4:l / y≤l:=Int.ediv_le_self _ hl.1
  rw [wu64 ⟨qCb hl.1 (by omega),by omega⟩]
  exact k
 ·have b4:(h ==(0:Int))=false:=beq_eq_false_iff_ne.2 h0
  rw [b4,yae]
  refine ytQ ⟨by omega,by omega⟩ ?_
  have hyn:y.toNat≠0:=by omega
  have c1:=yGk y.toNat
  have c2:=ywJ hyn
  have c3:blen y.toNat≤64:=by
   refine Nat.le_of_not_lt fun hc=>?_
   have:=Nat.pow_le_pow_right (show 0<2 by omega) (show 64≤blen y.toNat-1 by omega)
   omega
  have c4:1≤blen y.toNat:=by
   refine Nat.le_of_not_lt fun hc=>?_
   have:blen y.toNat=0:=by omega
   rw [this] at c1
   omega
  obtain ⟨m,hm⟩:∃ m,m=64-blen y.toNat:=⟨_,rfl⟩
  have es:(64-(blen y.toNat:Int))=(m:Int):=by omega
  rw [es]
  have m63:m≤63:=by omega
  have e1:IntKind.u64.wrap (m:Int)=m:=wu64 ⟨by omega,by omega⟩
  have e2:IntKind.u64.wrap ((64:Int)-m)=((64-m:Nat):Int):=by
   rw [wu64 ⟨by omega,by omega⟩];omega
  have e3:min ((m:Int)).toNat IntKind.u64.bits=m:=by
   show min ((m:Int)).toNat 64=m
   rw [qAe];omega
  have e4:min (((64-m:Nat):Int)).toNat IntKind.u64.bits=64-m:=by
   show min (((64-m:Nat):Int)).toNat 64=64-m
   rw [qAe];omega
  simp only [e1]
  rw [e2,e3,e4]
  have p64:(2:Int) ^ (64-m)*2 ^ m=18446744073709551616:=by
   rw [← Int.pow_add,show 64-m+m=64 by omega];rfl
  have p63:(2:Int) ^ (63-m)*2 ^ m=9223372036854775808:=by
   rw [← Int.pow_add,show 63-m+m=63 by omega];rfl
  have tp:(0:Int)<2 ^ m:=Int.pow_pos (by omega)
  have tp':(0:Int)<2 ^ (64-m):=Int.pow_pos (by omega)
  have y1:y<(2:Int) ^ (64-m):=by
   have:blen y.toNat=64-m:=by omega
   rw [this] at c1
   have c1':((y.toNat:Nat):Int)<((2 ^ (64-m):Nat):Int):=by exact_mod_cast c1
   push_cast at c1'
   omega
  have y2:(2:Int) ^ (63-m)≤y:=by
   have:blen y.toNat-1=63-m:=by omega
   rw [this] at c2
   have c2':((2 ^ (63-m):Nat):Int)≤((y.toNat:Nat):Int):=by exact_mod_cast c2
   push_cast at c2'
   omega
  have Y1:y*2 ^ m<18446744073709551616:=by
   have:=Int.mul_lt_mul_of_pos_right y1 tp
   omega
  have Y2:9223372036854775808≤y*2 ^ m:=by
   have:=qBi y2 (show (0:Int)≤2 ^ m by omega)
   omega
  have H1:(h+1)*2 ^ m≤y*2 ^ m:=qBi (by omega) (by omega)
  have H2:(h+1)*2 ^ m=h*2 ^ m+2 ^ m:=by grind
  have H0:0≤h*2 ^ m:=qA4 hh.1 (by omega)
  have fd:Int.fdiv l (2 ^ (64-m))=l / 2 ^ (64-m):=yvT _ _ (by omega)
  have L1:=Int.mul_ediv_add_emod l (2 ^ (64-m))
  have L2:=Int.emod_nonneg l (show (2:Int) ^ (64-m)≠0 by omega)
  have L3:=Int.emod_lt_of_pos l tp'
  have L4:0≤l / 2 ^ (64-m):=qCb hl.1 (by omega)
  have L5:l / 2 ^ (64-m)<2 ^ m:=by
   refine Int.ediv_lt_of_lt_mul tp' ?_
   rw [Int.mul_comm,p64];omega
  have w1:IntKind.u64.wrap (y*2 ^ m)=y*2 ^ m:=wu64 ⟨by omega,by omega⟩
  have w2:IntKind.u64.wrap (h*2 ^ m)=h*2 ^ m:=wu64 ⟨by omega,by omega⟩
  have w3:IntKind.u64.wrap (BitVec.ofInt IntKind.u64.bits (h*2 ^ m)|||BitVec.ofInt IntKind.u64.bits (l / 2 ^ (64-m))).toNat=h*2 ^ m+l / 2 ^ (64-m) :=
   yIR hh.1 ⟨L4,L5⟩ ⟨by omega,by omega⟩ (by omega)
  have w4:IntKind.u64.wrap (l*2 ^ m)=l % 2 ^ (64-m)*2 ^ m:=by
   have e:l*2 ^ m=(l / 2 ^ (64-m))*18446744073709551616+l % 2 ^ (64-m)*2 ^ m:=by
    rw [← p64]
    obtain ⟨a,ha⟩:∃ a,a=l / 2 ^ (64-m):=⟨_,rfl⟩
    obtain ⟨b,hb⟩:∃ b,b=l % 2 ^ (64-m):=⟨_,rfl⟩
    obtain ⟨t,ht⟩:∃ t,t=(2:Int) ^ m:=⟨_,rfl⟩
    obtain ⟨t',ht'⟩:∃ t,t=(2:Int) ^ (64-m):=⟨_,rfl⟩
    rw [← ha,← hb,← ht'] at L1
    rw [← ha,← hb,← ht,← ht']
    rw [← L1];grind
   have e5:l % 2 ^ (64-m)*2 ^ m<18446744073709551616:=by
    rw [← p64];exact Int.mul_lt_mul_of_pos_right L3 tp
   have e6:0≤l % 2 ^ (64-m)*2 ^ m:=qA4 L2 (by omega)
   rw [e,yiG];omega
  have e5:l % 2 ^ (64-m)*2 ^ m<18446744073709551616:=by
   rw [← p64];exact Int.mul_lt_mul_of_pos_right L3 tp
  have e6:0≤l % 2 ^ (64-m)*2 ^ m:=qA4 L2 (by omega)
  have eN:(h*18446744073709551616+l)*2 ^ m=(h*2 ^ m+l / 2 ^ (64-m))*18446744073709551616+l % 2 ^ (64-m)*2 ^ m:=by
   rw [← p64]
   obtain ⟨a,ha⟩:∃ a,a=l / 2 ^ (64-m):=⟨_,rfl⟩
   obtain ⟨b,hb⟩:∃ b,b=l % 2 ^ (64-m):=⟨_,rfl⟩
   obtain ⟨t,ht⟩:∃ t,t=(2:Int) ^ m:=⟨_,rfl⟩
   obtain ⟨t',ht'⟩:∃ t,t=(2:Int) ^ (64-m):=⟨_,rfl⟩
   rw [← ha,← hb,← ht'] at L1
   rw [← ha,← hb,← ht,← ht']
   rw [← L1];grind
  have U1:h*2 ^ m+l / 2 ^ (64-m)<y*2 ^ m:=by omega
  have U0:0≤h*2 ^ m+l / 2 ^ (64-m):=by omega
  rw [fd,w1,w2,w3,w4]
  have b5:(!(decide ((m:Int)<0)))=true:=by rw [decide_eq_false (by omega)];rfl
  have b6:(!(decide (((64-m:Nat):Int)<0)))=true:=by rw [decide_eq_false (by omega)];rfl
  rw [b5,b6,yaU,yaU,yaU,yaU]
  generalize h*2 ^ m+l / 2 ^ (64-m)=u at *
  generalize hl0:l % 2 ^ (64-m)*2 ^ m=v at *
  generalize hY:y*2 ^ m=Y at *
  rw [yvT Y _ (by omega),yvT v _ (by omega),ync ⟨by omega,by omega⟩,ync ⟨by omega,by omega⟩,ypp U0]
  have b7:(!(decide (Y / 4294967296=(0:Int))))=true:=by rw [decide_eq_false (by omega)];rfl
  rw [b7,yaU]
  obtain ⟨c,hyn1⟩:∃ a,a=Y / 4294967296:=⟨_,rfl⟩
  obtain ⟨d,hyn0⟩:∃ a,a=Y % 4294967296:=⟨_,rfl⟩
  obtain ⟨un1,hun1⟩:∃ a,a=v / 4294967296:=⟨_,rfl⟩
  obtain ⟨un0,hun0⟩:∃ a,a=v % 4294967296:=⟨_,rfl⟩
  rw [← hyn1,← hyn0,← hun1,← hun0]
  have d1:2147483648≤c∧c≤4294967295:=by omega
  have d0:0≤d∧d≤4294967295:=by omega
  have dn1:0≤un1∧un1≤4294967295:=by omega
  have dn0:0≤un0∧un0≤4294967295:=by omega
  have dY:Y=c*4294967296+d:=by omega
  have g1:=DI.init dY d1 d0 dn1 U0 U1
  have x1:IntKind.u64.wrap (u / c)=u / c:=wu64 ⟨g1.hq.1,by have:=g1.hq.2;omega⟩
  have x2:IntKind.u64.wrap (u-IntKind.u64.wrap (u / c*c))=u-u / c*c:=by
   have r1:=g1.hr.1
   have r2:0≤u / c*c:=qA4 g1.hq.1 (by omega)
   have r3:=g1.hr.2
   rw [wu64 (n:=u / c*c) ⟨r2,by omega⟩,wu64 ⟨r1,by omega⟩]
  rw [x1,x2]
  have fin:∀ q1:Int,DG Y u un1 q1→∀ (un21:Int),un21=u*4294967296+un1-q1*Y→∀ q0,DG Y un21 un0 q0 →
    K (IntKind.u64.wrap ((IntKind.u64.wrap (q1*(4294967296:Int)))+q0)) (Int.fdiv (IntKind.u64.wrap ((IntKind.u64.wrap ((IntKind.u64.wrap (un21*(4294967296:Int)))+un0))-(IntKind.u64.wrap (q0*Y)))) (2 ^ (min ((m:Int)).toNat IntKind.u64.bits))):=by
   intro q1 G1 un21 e21 q0 G0
   obtain ⟨a1,a2,a3,a4⟩:=G1
   obtain ⟨c1,c2,c3,c4⟩:=G0
   have s1:(q1+1)*Y=q1*Y+Y:=by grind
   have s0:(q0+1)*Y=q0*Y+Y:=by grind
   have w5:IntKind.u64.wrap (q1*4294967296)=q1*4294967296:=wu64 ⟨by omega,by omega⟩
   have w6:IntKind.u64.wrap (q1*4294967296+q0)=q1*4294967296+q0:=wu64 ⟨by omega,by omega⟩
   rw [yGl (by omega) (by omega),w5,w6,e3,yvT _ _ (by omega)]
   have eT:un21*4294967296+un0-q0*Y=(h*18446744073709551616+l-(q1*4294967296+q0)*y)*2 ^ m:=by
    have f1:(q1*4294967296+q0)*Y=q1*Y*4294967296+q0*Y:=by grind
    have f2:(h*18446744073709551616+l-(q1*4294967296+q0)*y)*2 ^ m=(h*18446744073709551616+l)*2 ^ m-(q1*4294967296+q0)*Y:=by
     rw [← hY,Int.sub_mul,Int.mul_assoc (q1*4294967296+q0)]
    rw [f2,f1,eN]
    omega
   rw [eT,Int.mul_ediv_cancel _ (by omega)]
   have r0:0≤h*18446744073709551616+l-(q1*4294967296+q0)*y:=by
    refine Int.not_lt.1 fun hc=>?_
    have:=qB5 hc tp
    omega
   have r1:h*18446744073709551616+l-(q1*4294967296+q0)*y<y:=by
    refine Int.not_le.1 fun hc=>?_
    have:=qBi hc (show (0:Int)≤2 ^ m by omega)
    omega
   obtain ⟨Q,hQ⟩:∃ Q,Q=q1*4294967296+q0:=⟨_,rfl⟩
   rw [← hQ] at r0 r1 ⊢
   have z1:(h*18446744073709551616+l) / y=Q:=by
    have:h*18446744073709551616+l=(h*18446744073709551616+l-Q*y)+Q*y:=by omega
    rw [this,Int.add_mul_ediv_right _ _ (by omega),Int.ediv_eq_zero_of_lt r0 r1];omega
   have z2:(h*18446744073709551616+l) % y=h*18446744073709551616+l-Q*y:=by
    have:=Int.mul_ediv_add_emod (h*18446744073709551616+l) y
    rw [z1,Int.mul_comm] at this
    omega
   rw [z1,z2] at k
   exact k
  have mid:∀ q:Int,DG Y u un1 q→∀ (X:Int→Int→Int→Int→Int→Int→Int→Int→Int→Bool→Prop),(∀ q0 r0 b0,DG Y (u*4294967296+un1-q*Y) un0 q0→X Y m c d un0 q r0 (u*4294967296+un1-q*Y) q0 b0) →
    asr (!(decide (c=(0:Int)))) (∃ n:Nat,yex ybF X X n Y m c d un0 q ((IntKind.u64.wrap ((IntKind.u64.wrap ((IntKind.u64.wrap ((IntKind.u64.wrap (u*(4294967296:Int)))+un1))-(IntKind.u64.wrap (q*Y))))-(IntKind.u64.wrap ((IntKind.u64.wrap (Int.tdiv (IntKind.u64.wrap ((IntKind.u64.wrap ((IntKind.u64.wrap (u*(4294967296:Int)))+un1))-(IntKind.u64.wrap (q*Y)))) c))*c))))) (IntKind.u64.wrap ((IntKind.u64.wrap ((IntKind.u64.wrap (u*(4294967296:Int)))+un1))-(IntKind.u64.wrap (q*Y)))) (IntKind.u64.wrap (Int.tdiv (IntKind.u64.wrap ((IntKind.u64.wrap ((IntKind.u64.wrap (u*(4294967296:Int)))+un1))-(IntKind.u64.wrap (q*Y)))) c))):=by
   intro q G X hX
   obtain ⟨a1,a2,a3,a4⟩:=G
   have s1:(q+1)*Y=q*Y+Y:=by grind
   have b8:(!(decide (c=(0:Int))))=true:=by rw [decide_eq_false (by omega)];rfl
   rw [b8,yaU,yGl (by omega) (by omega),ypp (by omega)]
   have g0:=DI.init dY d1 d0 dn0 (u:=u*4294967296+un1-q*Y) (by omega) (by omega)
   generalize u*4294967296+un1-q*Y=u2 at *
   have x1:IntKind.u64.wrap (u2 / c)=u2 / c:=wu64 ⟨g0.hq.1,by have:=g0.hq.2;omega⟩
   have x2:IntKind.u64.wrap (u2-IntKind.u64.wrap (u2 / c*c))=u2-u2 / c*c:=by
    have r1:=g0.hr.1
    have r2:0≤u2 / c*c:=qA4 g0.hq.1 (by omega)
    have r3:=g0.hr.2
    have r4:=g0.hlt
    rw [wu64 (n:=u2 / c*c) ⟨r2,by omega⟩,wu64 ⟨r1,by omega⟩]
   rw [x1,x2]
   exact ⟨3,yLi _ _ _ _ (fun q0 r0 b0 g=>hX q0 r0 b0 g) (fun q0 r0 b0 g=>hX q0 r0 b0 g) _ _ g0⟩
  have leaf:∀ {P:Prop},P→asr (!(decide ((m:Int)<0))) P:=fun p=>by rw [b5,yaU];exact p
  refine ⟨3,yLh _ _ _ _ (fun q r b G=>?_) (fun q r b G=>?_) _ _ g1⟩
  ·exact mid q G _ (fun q0 r0 b0 G0=>leaf (fin q G _ rfl q0 G0))
  ·exact mid q G _ (fun q0 r0 b0 G0=>leaf (fin q G _ rfl q0 G0))
theorem yIS {h l y:Int} (hh:U64 h) (hl:U64 l) (hy:U64 y) (h0:0<y) {K:Int→Prop}
  (k:K ((h*18446744073709551616+l) % y)):yhM h l y K:=by
 unfold yhM yr5
 have b3:(!(decide (y=(0:Int))))=true:=by rw [decide_eq_false (by omega)];rfl
 have a1:=Int.emod_nonneg h (show y≠0 by omega)
 have a2:=Int.emod_lt_of_pos h h0
 have hh':=hh
 unfold U64 at hh hy
 rw [b3,yaU,yKD hh.1]
 refine yD2 ⟨a1,by omega⟩ hl ⟨by omega,by omega⟩ a2 ?_
 have e:(h % y*18446744073709551616+l) % y=(h*18446744073709551616+l) % y:=by
  rw [Int.add_emod,Int.mul_emod,Int.emod_emod,← Int.mul_emod,← Int.add_emod]
 rw [e]
 exact k
def outS (s:Bool) (a b:Int) (K:Int→Int→Int→Prop):Prop :=
 if a≤1000000000000000000∧b≤1000000000000000000 then K (if s then -a else a) b 0 else K 0 0 16
theorem yvd {s:Bool} {a b:Int} (ha:0≤a) (hb:0≤b) (K:Int→Int→Int→Prop):ycC s a b K=outS s a b K:=by
 unfold ycC yir outS
 by_cases h:a≤1000000000000000000∧b≤1000000000000000000
 ·have e:decide ((if b>a then b else a)>(1000000000000000000:Int))=false:=by
   refine decide_eq_false ?_
   split <;> omega
  have w1:IntKind.i64.wrap a=a:=wi64 ⟨by omega,by omega⟩
  have w2:IntKind.i64.wrap b=b:=wi64 ⟨by omega,by omega⟩
  have w3:IntKind.i64.wrap (0-a)=-a:=by rw [wi64 ⟨by omega,by omega⟩];omega
  rw [e,yae,if_pos h,w1,w2,w3]
  cases s
  ·rfl
  ·rfl
 ·have e:decide ((if b>a then b else a)>(1000000000000000000:Int))=true:=by
   refine decide_eq_true ?_
   split <;> omega
  rw [e,yam,if_neg h]
def numM (a c:Int) (b d:Int):Nat:=(a.natAbs / Nat.gcd a.natAbs d.natAbs)*(c.natAbs / Nat.gcd c.natAbs b.natAbs)
def denM (a c:Int) (b d:Int):Nat:=(b.natAbs / Nat.gcd c.natAbs b.natAbs)*(d.natAbs / Nat.gcd a.natAbs d.natAbs)
theorem yFx {a b c d:Int} (ha:I64 a) (hb:I64 b) (hc:I64 c) (hd:I64 d) {K:Int→Int→Int→Prop}
  (k:if chk2 a b c d=0 then outS (decide (a<0) != decide (c<0)) (numM a c b d) (denM a c b d) K else K 0 0 (chk2 a b c d)):ybh a b c d K:=by
 unfold ybh yms
 refine ypo ha hb hc hd ?_
 by_cases h:chk2 a b c d=0
 ·rw [if_pos h] at k
  have:(chk2 a b c d !=(0:Int))=false:=by rw [h];rfl
  rw [this,yae,ykH ha,ykH hc]
  obtain ⟨⟨b1,b2,a1,a2,_⟩,d1,d2,c1,c2,_⟩:=ycM.1 h
  have wb:IntKind.u64.wrap b=((b.natAbs:Nat):Int):=by rw [wu64 ⟨by omega,by omega⟩];omega
  have wd:IntKind.u64.wrap d=((d.natAbs:Nat):Int):=by rw [wu64 ⟨by omega,by omega⟩];omega
  rw [wb,wd]
  refine yyn _ _ _ (yyn _ _ _ ?_)
  unfold numM denM at k
  have g1:0<Nat.gcd a.natAbs d.natAbs:=qA9 _ (by omega)
  have g2:0<Nat.gcd c.natAbs b.natAbs:=qA9 _ (by omega)
  obtain ⟨g3,h3⟩:∃ g,g=Nat.gcd a.natAbs d.natAbs:=⟨_,rfl⟩
  obtain ⟨g4,h4⟩:∃ g,g=Nat.gcd c.natAbs b.natAbs:=⟨_,rfl⟩
  rw [← h3,← h4] at k ⊢
  rw [← h3] at g1;rw [← h4] at g2
  have n3:(!(decide ((g3:Int)=(0:Int))))=true:=by rw [decide_eq_false (by omega)];rfl
  have n4:(!(decide ((g4:Int)=(0:Int))))=true:=by rw [decide_eq_false (by omega)];rfl
  rw [n3,n4,yaU,yaU,ypp (by omega),ypp (by omega),ypp (by omega),ypp (by omega),← qAy,← qAy,← qAy,← qAy]
  have q1:a.natAbs / g3≤a.natAbs:=qA8 _ _
  have q2:c.natAbs / g4≤c.natAbs:=qA8 _ _
  have q3:b.natAbs / g4≤b.natAbs:=qA8 _ _
  have q4:d.natAbs / g3≤d.natAbs:=qA8 _ _
  generalize a.natAbs / g3=A at *
  generalize c.natAbs / g4=C at *
  generalize b.natAbs / g4=B at *
  generalize d.natAbs / g3=D at *
  rw [wu64 (n:=(A:Int)) ⟨by omega,by omega⟩,wu64 (n:=(C:Int)) ⟨by omega,by omega⟩,wu64 (n:=(B:Int)) ⟨by omega,by omega⟩,wu64 (n:=(D:Int)) ⟨by omega,by omega⟩,
   yjT ⟨by omega,by omega⟩ ⟨by omega,by omega⟩,yaU,yaU,yjT ⟨by omega,by omega⟩ ⟨by omega,by omega⟩]
  have m1:A*C≤1000000000000000000*1000000000000000000:=Nat.mul_le_mul (by omega) (by omega)
  have m2:B*D≤1000000000000000000*1000000000000000000:=Nat.mul_le_mul (by omega) (by omega)
  rw [← Int.natCast_mul,← Int.natCast_mul]
  generalize A*C=M at *
  generalize B*D=N at *
  have wm:IntKind.u64.wrap ((M:Int) / 18446744073709551616+(N:Int) / 18446744073709551616)=(M:Int) / 18446744073709551616+(N:Int) / 18446744073709551616:=wu64 ⟨by omega,by omega⟩
  rw [wm]
  by_cases hb:(M:Int) / 18446744073709551616+(N:Int) / 18446744073709551616>0
  ·rw [decide_eq_true hb,yam]
   unfold outS at k
   rw [if_neg (by omega)] at k
   exact k
  ·rw [decide_eq_false hb,yae]
   have eM:(M:Int) % 18446744073709551616=M:=by omega
   have eN:(N:Int) % 18446744073709551616=N:=by omega
   rw [eM,eN]
   by_cases h0:(M:Int)>0
   ·rw [decide_eq_true h0,yam,yvd (by omega) (by omega)]
    exact k
   ·rw [decide_eq_false h0,yae,yvd (by omega) (by omega)]
    have hz:M=0:=by omega
    subst hz
    unfold outS at k ⊢
    by_cases hN:(N:Int)≤1000000000000000000
    ·rw [if_pos ⟨by omega,hN⟩] at k ⊢
     have e:(if (decide (a<0) != decide (c<0))=true then -((0:Nat):Int) else ((0:Nat):Int))=0:=by split <;> rfl
     rw [e] at k
     exact k
    ·rw [if_neg (by omega)] at k ⊢
     exact k
 ·rw [if_neg h] at k
  have:(chk2 a b c d !=(0:Int))=true:=by rw [bne_iff_ne];exact h
  rw [this,yam]
  exact k
theorem RV.swap {c d:Int} (h:RV c d) (h0:0<c):RV d c:=by
 obtain ⟨d1,d2,c1,c2,g⟩:=h
 exact ⟨by omega,c2,by omega,d2,by rw [Nat.gcd_comm];exact g⟩
theorem RV.swapn {c d:Int} (h:RV c d) (h0:c<0):RV (-d) (-c):=by
 obtain ⟨d1,d2,c1,c2,g⟩:=h
 exact ⟨by omega,by omega,by omega,by omega,by rw [Int.natAbs_neg,Int.natAbs_neg,Nat.gcd_comm];exact g⟩
theorem yLj {a b c d:Int} (ha:I64 a) (hb:I64 b) (hc:I64 c) (hd:I64 d) {K:Int→Int→Int→Prop}
  (k:if chk2 a b c d=0 then (if c=0 then K 0 0 18 else outS (decide (a<0) != decide (c<0)) (numM a d b c) (denM a d b c) K) else K 0 0 (chk2 a b c d)):ycD a b c d K:=by
 unfold ycD ymx
 refine ypo ha hb hc hd ?_
 by_cases h:chk2 a b c d=0
 ·rw [if_pos h] at k
  have:(chk2 a b c d !=(0:Int))=false:=by rw [h];rfl
  rw [this,yae]
  obtain ⟨hab,hcd⟩:=ycM.1 h
  obtain ⟨d1,d2,c1,c2,_⟩:=id hcd
  by_cases h0:c=0
  ·rw [if_pos h0] at k
   have:(c ==(0:Int))=true:=beq_iff_eq.2 h0
   rw [this,yam]
   exact k
  ·rw [if_neg h0] at k
   have:(c ==(0:Int))=false:=beq_eq_false_iff_ne.2 h0
   rw [this,yae]
   by_cases hn:c<0
   ·rw [decide_eq_true hn] at k
    rw [decide_eq_true hn,yam,wi64 (n:=0-d) ⟨by omega,by omega⟩,wi64 (n:=0-c) ⟨by omega,by omega⟩,Int.zero_sub,Int.zero_sub]
    have e:chk2 a b (-d) (-c)=0:=ycM.2 ⟨hab,hcd.swapn hn⟩
    refine yFx ha hb ⟨by omega,by omega⟩ ⟨by omega,by omega⟩ ?_
    rw [if_pos e,decide_eq_true (show -d<0 by omega)]
    unfold numM denM at k ⊢
    rw [Int.natAbs_neg,Int.natAbs_neg]
    exact k
   ·rw [decide_eq_false hn] at k
    rw [decide_eq_false hn,yae]
    have e:chk2 a b d c=0:=ycM.2 ⟨hab,hcd.swap (by omega)⟩
    refine yFx ha hb hd hc ?_
    rw [if_pos e,decide_eq_false (show ¬d<0 by omega)]
    exact k
 ·rw [if_neg h] at k
  have:(chk2 a b c d !=(0:Int))=true:=by rw [bne_iff_ne];exact h
  rw [this,yam]
  exact k
theorem yKd {s:Bool} {hi lo p1 p3:Int} {g:Nat} (hh:U64 hi) (hl:U64 lo) (hg:0<g) (g1:(g:Int)≤1000000000000000000)
   (h1:0≤p1∧p1≤1000000000000000000) (h3:0≤p3∧p3≤1000000000000000000) {K:Int→Int→Int→Prop}
   (k:outS s (((hi*18446744073709551616+lo).toNat / Nat.gcd (hi*18446744073709551616+lo).toNat g:Nat):Int)
    (((p1.toNat / g)*(p3.toNat / Nat.gcd (hi*18446744073709551616+lo).toNat g):Nat):Int) K) :
   (yhM hi lo (g:Int) (fun (b:Int) =>
 (ycB b (g:Int) (fun (a:Int) =>
 (cbr (decide (hi≥a))
 (K (0:Int) (0:Int) (16:Int))
 (ygA hi lo a (fun (c:Int) (j:Int) =>
 (asr (!(decide ((g:Int)=(0:Int))))
 (asr (!(decide (a=(0:Int))))
 (yfu (IntKind.u64.wrap (Int.tdiv (IntKind.u64.wrap p1) (g:Int))) (IntKind.u64.wrap (Int.tdiv (IntKind.u64.wrap p3) a)) (fun (d:Int) (e:Int) =>
 (cbr (decide (d>(0:Int)))
 (K (0:Int) (0:Int) (16:Int))
 (ycC s c e (fun (f:Int) (h:Int) (i:Int) =>
 (K f h i))))))))))))))):=by
  unfold U64 at hh hl
  obtain ⟨X,hX⟩:∃ X:Nat,X=(hi*18446744073709551616+lo).toNat:=⟨_,rfl⟩
  have eX:hi*18446744073709551616+lo=(X:Int):=by omega
  rw [← hX] at k
  refine yIS hh hl ⟨by omega,by omega⟩ (by omega) ?_
  rw [eX,← Int.natCast_emod]
  refine yyn _ _ _ ?_
  have eg:Nat.gcd (X % g) g=Nat.gcd X g:=by rw [Nat.gcd_comm,Nat.gcd_comm X,Nat.gcd_rec g X,Nat.gcd_comm]
  rw [eg]
  have gp:0<Nat.gcd X g:=qA9 _ hg
  have gl:Nat.gcd X g≤g:=Nat.le_of_dvd hg (Nat.gcd_dvd_right _ _)
  generalize Nat.gcd X g=G at *
  by_cases hb:hi≥(G:Int)
  ·rw [decide_eq_true hb,yam]
   unfold outS at k
   have:18446744073709551616≤X / G:=by
    rw [Nat.le_div_iff_mul_le gp]
    omega
   rw [if_neg (by omega)] at k
   exact k
  ·rw [decide_eq_false hb,yae]
   refine yD2 hh hl ⟨by omega,by omega⟩ (by omega) ?_
   rw [eX]
   have n3:(!(decide ((g:Int)=(0:Int))))=true:=by rw [decide_eq_false (by omega)];rfl
   have n4:(!(decide ((G:Int)=(0:Int))))=true:=by rw [decide_eq_false (by omega)];rfl
   have e1:IntKind.u64.wrap p1=(p1.toNat:Int):=by rw [wu64 ⟨by omega,by omega⟩];omega
   have e3:IntKind.u64.wrap p3=(p3.toNat:Int):=by rw [wu64 ⟨by omega,by omega⟩];omega
   rw [n3,n4,yaU,yaU,e1,e3,ypp (by omega),ypp (by omega),← qAy,← qAy,← qAy]
   have q1:p1.toNat / g≤p1.toNat:=qA8 _ _
   have q3:p3.toNat / G≤p3.toNat:=qA8 _ _
   generalize p1.toNat / g=A at *
   generalize p3.toNat / G=B at *
   generalize X / G=N at *
   rw [wu64 (n:=(A:Int)) ⟨by omega,by omega⟩,wu64 (n:=(B:Int)) ⟨by omega,by omega⟩,yjT ⟨by omega,by omega⟩ ⟨by omega,by omega⟩,← Int.natCast_mul]
   generalize A*B=D at *
   by_cases hd:((D:Int) / 18446744073709551616)>0
   ·rw [decide_eq_true hd,yam]
    unfold outS at k
    rw [if_neg (by omega)] at k
    exact k
   ·rw [decide_eq_false hd,yae]
    have eD:(D:Int) % 18446744073709551616=D:=by omega
    rw [eD,yvd (by omega) (by omega)]
    exact k
theorem yD3 {p q c:Int} {K:Int→Int→Prop} (hc:c.toNat≤1) (k:K (((p.toNat+q.toNat+c.toNat) % 18446744073709551616:Nat):Int) (((p.toNat+q.toNat+c.toNat) / 18446744073709551616:Nat):Int)):yjd p q c K:=by
 unfold yjd
 rw [decide_eq_true hc,yaU]
 exact k
theorem yD4 {p q c:Int} {K:Int→Int→Prop} (hc:c.toNat≤1) (k:K (((p.toNat+18446744073709551616-q.toNat-c.toNat) % 18446744073709551616:Nat):Int) ((if q.toNat+c.toNat≤p.toNat then 0 else 1:Nat):Int)):yje p q c K:=by
 unfold yje
 rw [decide_eq_true hc,yaU]
 have e:(bif Nat.ble (q.toNat+c.toNat) p.toNat then 0 else 1:Nat)=(if q.toNat+c.toNat≤p.toNat then 0 else 1:Nat):=by
  by_cases h:q.toNat+c.toNat≤p.toNat
  ·rw [if_pos h,show Nat.ble (q.toNat+c.toNat) p.toNat=true from Nat.ble_eq_true_of_le h];rfl
  ·rw [if_neg h]
   cases hb:Nat.ble (q.toNat+c.toNat) p.toNat
   ·rfl
   ·exact absurd (qB9 hb) h
 rw [e]
 exact k
theorem yIT {X Y:Int} (hx:0≤X) (hy:0≤Y) (hs:X+Y<340282366920938463463374607431768211456) {F:Int→Int→Int→Int→Prop}
  (h:∀ c1 c2,F ((X+Y) % 18446744073709551616) c1 ((X+Y) / 18446744073709551616) c2) :
  yjd (X % 18446744073709551616) (Y % 18446744073709551616) 0 (fun lo c1=>yjd (X / 18446744073709551616) (Y / 18446744073709551616) c1 (fun hi c2=>F lo c1 hi c2)):=by
 obtain ⟨x,rfl⟩:∃ x:Nat,X=x:=⟨X.toNat,by omega⟩
 obtain ⟨y,rfl⟩:∃ y:Nat,Y=y:=⟨Y.toNat,by omega⟩
 refine yD3 (by decide) (yD3 (by omega) ?_)
 have e1:(((((x:Int) % 18446744073709551616).toNat+((y:Int) % 18446744073709551616).toNat+(0:Int).toNat) % 18446744073709551616:Nat):Int)=((x:Int)+y) % 18446744073709551616:=by omega
 have e2:(((((x:Int) / 18446744073709551616).toNat+((y:Int) / 18446744073709551616).toNat+(((((x:Int) % 18446744073709551616).toNat+((y:Int) % 18446744073709551616).toNat+(0:Int).toNat) / 18446744073709551616:Nat):Int).toNat) % 18446744073709551616:Nat):Int)=((x:Int)+y) / 18446744073709551616:=by omega
 rw [e1,e2]
 exact h _ _
theorem ytR {X Y:Int} (hy:0≤Y) (hxy:Y≤X) (hs:X<340282366920938463463374607431768211456) {F:Int→Int→Int→Int→Prop}
  (h:∀ c1 c2,F ((X-Y) % 18446744073709551616) c1 ((X-Y) / 18446744073709551616) c2) :
  yje (X % 18446744073709551616) (Y % 18446744073709551616) 0 (fun lo c1=>yje (X / 18446744073709551616) (Y / 18446744073709551616) c1 (fun hi c2=>F lo c1 hi c2)):=by
 obtain ⟨x,rfl⟩:∃ x:Nat,X=x:=⟨X.toNat,by omega⟩
 obtain ⟨y,rfl⟩:∃ y:Nat,Y=y:=⟨Y.toNat,by omega⟩
 refine yD4 (by decide) (yD4 (by split <;> omega) ?_)
 have e1:(((((x:Int) % 18446744073709551616).toNat+18446744073709551616-((y:Int) % 18446744073709551616).toNat-(0:Int).toNat) % 18446744073709551616:Nat):Int)=((x:Int)-y) % 18446744073709551616:=by omega
 rw [e1]
 by_cases hb:((y:Int) % 18446744073709551616).toNat+(0:Int).toNat≤((x:Int) % 18446744073709551616).toNat
 ·rw [if_pos hb]
  have e2:(((((x:Int) / 18446744073709551616).toNat+18446744073709551616-((y:Int) / 18446744073709551616).toNat-((0:Nat):Int).toNat) % 18446744073709551616:Nat):Int)=((x:Int)-y) / 18446744073709551616:=by omega
  rw [e2]
  exact h _ _
 ·rw [if_neg hb]
  have e2:(((((x:Int) / 18446744073709551616).toNat+18446744073709551616-((y:Int) / 18446744073709551616).toNat-((1:Nat):Int).toNat) % 18446744073709551616:Nat):Int)=((x:Int)-y) / 18446744073709551616:=by omega
  rw [e2]
  exact h _ _
def outA (s:Bool) (Z p1 p3:Int) (g:Nat) (K:Int→Int→Int→Prop):Prop :=
 if Z=0 then K 0 1 0 else outS s ((Z.toNat / Nat.gcd Z.toNat g:Nat):Int) (((p1.toNat / g)*(p3.toNat / Nat.gcd Z.toNat g):Nat):Int) K
theorem yyp {s:Bool} {Z p1 p3:Int} {g:Nat} (hz:0≤Z) (hz2:Z<340282366920938463463374607431768211456) (hg:0<g) (g1:(g:Int)≤1000000000000000000)
   (h1:0≤p1∧p1≤1000000000000000000) (h3:0≤p3∧p3≤1000000000000000000) {K:Int→Int→Int→Prop}
   (k:outA s Z p1 p3 g K) :
   cbr (Z / 18446744073709551616 ==(0:Int)) (cbr (Z % 18446744073709551616 ==(0:Int)) (K 0 1 0) (yhM (Z / 18446744073709551616) (Z % 18446744073709551616) (g:Int) (fun (b:Int) =>
 (ycB b (g:Int) (fun (a:Int) =>
 (cbr (decide ((Z / 18446744073709551616)≥a))
 (K (0:Int) (0:Int) (16:Int))
 (ygA (Z / 18446744073709551616) (Z % 18446744073709551616) a (fun (c:Int) (j:Int) =>
 (asr (!(decide ((g:Int)=(0:Int))))
 (asr (!(decide (a=(0:Int))))
 (yfu (IntKind.u64.wrap (Int.tdiv (IntKind.u64.wrap p1) (g:Int))) (IntKind.u64.wrap (Int.tdiv (IntKind.u64.wrap p3) a)) (fun (d:Int) (e:Int) =>
 (cbr (decide (d>(0:Int)))
 (K (0:Int) (0:Int) (16:Int))
 (ycC s c e (fun (f:Int) (h:Int) (i:Int) =>
 (K f h i)))))))))))))))) (yhM (Z / 18446744073709551616) (Z % 18446744073709551616) (g:Int) (fun (b:Int) =>
 (ycB b (g:Int) (fun (a:Int) =>
 (cbr (decide ((Z / 18446744073709551616)≥a))
 (K (0:Int) (0:Int) (16:Int))
 (ygA (Z / 18446744073709551616) (Z % 18446744073709551616) a (fun (c:Int) (j:Int) =>
 (asr (!(decide ((g:Int)=(0:Int))))
 (asr (!(decide (a=(0:Int))))
 (yfu (IntKind.u64.wrap (Int.tdiv (IntKind.u64.wrap p1) (g:Int))) (IntKind.u64.wrap (Int.tdiv (IntKind.u64.wrap p3) a)) (fun (d:Int) (e:Int) =>
 (cbr (decide (d>(0:Int)))
 (K (0:Int) (0:Int) (16:Int))
 (ycC s c e (fun (f:Int) (h:Int) (i:Int) =>
 (K f h i))))))))))))))):=by
  unfold outA at k
  have eZ:Z / 18446744073709551616*18446744073709551616+Z % 18446744073709551616=Z:=by omega
  by_cases h0:Z=0
  ·rw [if_pos h0] at k
   subst h0
   have e1:((0:Int) / 18446744073709551616 ==(0:Int))=true:=by decide
   have e2:((0:Int) % 18446744073709551616 ==(0:Int))=true:=by decide
   rw [e1,yam,e2,yam]
   exact k
  ·rw [if_neg h0] at k
   have t:=yKd (s:=s) (hi:=Z / 18446744073709551616) (lo:=Z % 18446744073709551616) (p1:=p1) (p3:=p3) (g:=g) (K:=K) ⟨by omega,by omega⟩ ⟨by omega,by omega⟩ hg g1 h1 h3 (by rw [eZ];exact k)
   cases h4:(Z / 18446744073709551616 ==(0:Int))
   ·rw [yae];exact t
   ·rw [yam]
    cases h2:(Z % 18446744073709551616 ==(0:Int))
    ·rw [yae];exact t
    ·have:=beq_iff_eq.1 h2
     have:=beq_iff_eq.1 h4
     exact absurd (show Z=0 by omega) h0
theorem yso {s s':Bool} {Z Z' p1 p3:Int} {g:Nat} {K:Int→Int→Int→Prop} (k:outA s' Z' p1 p3 g K) (hz:Z=Z') (hs:Z≠0→s=s'):outA s Z p1 p3 g K:=by
 subst hz
 unfold outA at k ⊢
 by_cases h:Z=0
 ·rw [if_pos h] at k ⊢;exact k
 ·rw [if_neg h] at k ⊢;rw [hs h];exact k
theorem yIU {a b c d:Int} (ha:I64 a) (hb:I64 b) (hc:I64 c) (hd:I64 d) {K:Int→Int→Int→Prop}
  (k:if chk2 a b c d=0 then outA (decide (a*(d / (Nat.gcd b.natAbs d.natAbs:Nat))+c*(b / (Nat.gcd b.natAbs d.natAbs:Nat))<0))
    ((a*(d / (Nat.gcd b.natAbs d.natAbs:Nat))+c*(b / (Nat.gcd b.natAbs d.natAbs:Nat))).natAbs:Int) b d (Nat.gcd b.natAbs d.natAbs) K
   else K 0 0 (chk2 a b c d)):ybx a b c d K:=by
 unfold ybx ymv
 refine ypo ha hb hc hd ?_
 by_cases h:chk2 a b c d=0
 ·rw [if_pos h] at k
  have:(chk2 a b c d !=(0:Int))=false:=by rw [h];rfl
  rw [this,yae]
  obtain ⟨⟨b1,b2,a1,a2,_⟩,d1,d2,c1,c2,_⟩:=ycM.1 h
  have wb:IntKind.u64.wrap b=((b.natAbs:Nat):Int):=by rw [wu64 ⟨by omega,by omega⟩];omega
  have wd:IntKind.u64.wrap d=((d.natAbs:Nat):Int):=by rw [wu64 ⟨by omega,by omega⟩];omega
  have g1:0<Nat.gcd b.natAbs d.natAbs:=qA9 _ (by omega)
  have g2:Nat.gcd b.natAbs d.natAbs≤d.natAbs:=Nat.le_of_dvd (by omega) (Nat.gcd_dvd_right _ _)
  have go:ycB (IntKind.u64.wrap b) (IntKind.u64.wrap d)=ycB ((b.natAbs:Nat):Int) ((d.natAbs:Nat):Int):=by rw [wb,wd]
  rw [go]
  refine yyn _ _ _ ?_
  generalize Nat.gcd b.natAbs d.natAbs=g at *
  have n3:(!(decide ((g:Int)=(0:Int))))=true:=by rw [decide_eq_false (by omega)];rfl
  have q1:0≤b / (g:Int):=qCb (by omega) (by omega)
  have q2:0≤d / (g:Int):=qCb (by omega) (by omega)
  have q3:b / (g:Int)≤b:=Int.ediv_le_self _ (by omega)
  have q4:d / (g:Int)≤d:=Int.ediv_le_self _ (by omega)
  have ed:IntKind.u64.wrap (Int.tdiv (IntKind.u64.wrap d) (g:Int))=d / (g:Int):=by
   rw [wu64 (n:=d) ⟨by omega,by omega⟩,ypp (by omega),wu64 ⟨by omega,by omega⟩]
  have eb:IntKind.u64.wrap (Int.tdiv (IntKind.u64.wrap b) (g:Int))=b / (g:Int):=by
   rw [wu64 (n:=b) ⟨by omega,by omega⟩,ypp (by omega),wu64 ⟨by omega,by omega⟩]
  have ylf:∀ {c:Bool} {P:Prop},c=true→P→asr c P:=fun h p=>by rw [h,yaU];exact p
  rw [ykH ha]
  refine ylf n3 ?_
  rw [yjT (U64.abs ha) (by rw [ed];exact ⟨by omega,by omega⟩),ykH hc]
  refine ylf n3 ?_
  rw [yjT (U64.abs hc) (by rw [eb];exact ⟨by omega,by omega⟩)]
  obtain ⟨X,hX⟩:∃ X,X=((a.natAbs:Nat):Int)*IntKind.u64.wrap (Int.tdiv (IntKind.u64.wrap d) (g:Int)):=⟨_,rfl⟩
  obtain ⟨Y,hY⟩:∃ Y,Y=((c.natAbs:Nat):Int)*IntKind.u64.wrap (Int.tdiv (IntKind.u64.wrap b) (g:Int)):=⟨_,rfl⟩
  rw [← hX,← hY]
  rw [ed] at hX;rw [eb] at hY
  have X0:0≤X:=by rw [hX];exact qA4 (by omega) q2
  have Y0:0≤Y:=by rw [hY];exact qA4 (by omega) q1
  have X1:X≤1000000000000000000*1000000000000000000:=by rw [hX];exact qA6 (by omega) (by omega) q2 (by omega)
  have Y1:Y≤1000000000000000000*1000000000000000000:=by rw [hY];exact qA6 (by omega) (by omega) q1 (by omega)
  have ax:a*(d / (g:Int))=if a<0 then -X else X:=by
   split
   ·rw [hX,show ((a.natAbs:Nat):Int)=-a by omega,Int.neg_mul,Int.neg_neg]
   ·rw [hX,show ((a.natAbs:Nat):Int)=a by omega]
  have cy:c*(b / (g:Int))=if c<0 then -Y else Y:=by
   split
   ·rw [hY,show ((c.natAbs:Nat):Int)=-c by omega,Int.neg_mul,Int.neg_neg]
   ·rw [hY,show ((c.natAbs:Nat):Int)=c by omega]
  rw [ax,cy] at k
  clear hX hY ax cy ed eb n3
  by_cases hs:decide (a<0)=decide (c<0)
  ·have e:(decide (a<0) == decide (c<0))=true:=beq_iff_eq.2 hs
   rw [e,yam]
   refine yIT X0 Y0 (by omega) (fun c1 c2=>?_)
   refine yyp (by omega) (by omega) g1 (by omega) ⟨by omega,b2⟩ ⟨by omega,d2⟩ (yso k ?_ ?_)
   ·by_cases h1:a<0
    ·have h2:c<0:=by simpa [h1] using hs.symm
     rw [if_pos h1,if_pos h2];omega
    ·have h2:¬c<0:=by simpa [h1] using hs.symm
     rw [if_neg h1,if_neg h2];omega
   ·intro h0
    by_cases h1:a<0
    ·have h2:c<0:=by simpa [h1] using hs.symm
     rw [if_pos h1,if_pos h2,decide_eq_true h1,decide_eq_true (by omega)]
    ·have h2:¬c<0:=by simpa [h1] using hs.symm
     rw [if_neg h1,if_neg h2,decide_eq_false h1,decide_eq_false (by omega)]
  ·have e:(decide (a<0) == decide (c<0))=false:=beq_eq_false_iff_ne.2 hs
   rw [e,yae]
   have h12:(a<0∧¬c<0)∨(¬a<0∧c<0):=by
    by_cases h1:a<0 <;> by_cases h2:c<0 <;> simp [h1,h2] at hs ⊢
   by_cases hlt:X<Y
   ·have kk:outA (!decide (a<0)) (Y-X) b d g K:=by
     refine yso k ?_ ?_
     ·rcases h12 with ⟨h1,h2⟩ | ⟨h1,h2⟩
      ·rw [if_pos h1,if_neg h2];omega
      ·rw [if_neg h1,if_pos h2];omega
     ·intro h0
      rcases h12 with ⟨h1,h2⟩ | ⟨h1,h2⟩
      ·rw [if_pos h1,if_neg h2,decide_eq_true h1,decide_eq_false (by omega)];rfl
      ·rw [if_neg h1,if_pos h2,decide_eq_false h1,decide_eq_true (by omega)];rfl
    by_cases h1:X / 18446744073709551616<Y / 18446744073709551616
    ·rw [decide_eq_true h1,yam]
     refine ytR X0 (by omega) (by omega) (fun c1 c2=>?_)
     exact yyp (by omega) (by omega) g1 (by omega) ⟨by omega,b2⟩ ⟨by omega,d2⟩ kk
    ·have e1:(X / 18446744073709551616 == Y / 18446744073709551616)=true:=beq_iff_eq.2 (by omega)
     rw [decide_eq_false h1,yae,e1,yam,decide_eq_true (show X % 18446744073709551616<Y % 18446744073709551616 by have:=beq_iff_eq.1 e1;omega),yam]
     refine ytR X0 (by omega) (by omega) (fun c1 c2=>?_)
     exact yyp (by omega) (by omega) g1 (by omega) ⟨by omega,b2⟩ ⟨by omega,d2⟩ kk
   ·have kk:outA (decide (a<0)) (X-Y) b d g K:=by
     refine yso k ?_ ?_
     ·rcases h12 with ⟨h1,h2⟩ | ⟨h1,h2⟩
      ·rw [if_pos h1,if_neg h2];omega
      ·rw [if_neg h1,if_pos h2];omega
     ·intro h0
      rcases h12 with ⟨h1,h2⟩ | ⟨h1,h2⟩
      ·rw [if_pos h1,if_neg h2,decide_eq_true h1,decide_eq_true (by omega)]
      ·rw [if_neg h1,if_pos h2,decide_eq_false h1,decide_eq_false (by omega)]
    have h1:¬X / 18446744073709551616<Y / 18446744073709551616:=by omega
    rw [decide_eq_false h1,yae]
    cases e1:(X / 18446744073709551616 == Y / 18446744073709551616)
    ·rw [yae]
     refine ytR Y0 (by omega) (by omega) (fun c1 c2=>?_)
     exact yyp (by omega) (by omega) g1 (by omega) ⟨by omega,b2⟩ ⟨by omega,d2⟩ kk
    ·rw [yam,decide_eq_false (show ¬X % 18446744073709551616<Y % 18446744073709551616 by have:=beq_iff_eq.1 e1;omega),yae]
     refine ytR Y0 (by omega) (by omega) (fun c1 c2=>?_)
     exact yyp (by omega) (by omega) g1 (by omega) ⟨by omega,b2⟩ ⟨by omega,d2⟩ kk
 ·rw [if_neg h] at k
  have:(chk2 a b c d !=(0:Int))=true:=by rw [bne_iff_ne];exact h
  rw [this,yam]
  exact k
theorem RV.neg {c d:Int} (h:RV c d):RV (-c) d:=by
 obtain ⟨d1,d2,c1,c2,g⟩:=h
 exact ⟨d1,d2,by omega,by omega,by rw [Int.natAbs_neg];exact g⟩
theorem yLk {a b c d:Int} (ha:I64 a) (hb:I64 b) (hc:I64 c) (hd:I64 d) {K:Int→Int→Int→Prop}
  (k:if chk2 a b c d=0 then outA (decide (a*(d / (Nat.gcd b.natAbs d.natAbs:Nat))+-c*(b / (Nat.gcd b.natAbs d.natAbs:Nat))<0))
    ((a*(d / (Nat.gcd b.natAbs d.natAbs:Nat))+-c*(b / (Nat.gcd b.natAbs d.natAbs:Nat))).natAbs:Int) b d (Nat.gcd b.natAbs d.natAbs) K
   else K 0 0 (chk2 a b c d)):yaD a b c d K:=by
 unfold yaD ymw
 refine ypo ha hb hc hd ?_
 by_cases h:chk2 a b c d=0
 ·rw [if_pos h] at k
  have:(chk2 a b c d !=(0:Int))=false:=by rw [h];rfl
  rw [this,yae]
  obtain ⟨hab,hcd⟩:=ycM.1 h
  obtain ⟨d1,d2,c1,c2,_⟩:=id hcd
  rw [wi64 (n:=0-c) ⟨by omega,by omega⟩,Int.zero_sub]
  refine yIU ha hb ⟨by omega,by omega⟩ hd ?_
  rw [if_pos (ycM.2 ⟨hab,hcd.neg⟩)]
  exact k
 ·rw [if_neg h] at k
  have:(chk2 a b c d !=(0:Int))=true:=by rw [bne_iff_ne];exact h
  rw [this,yam]
  exact k
def ints (l:List Int):List PV:=l.map (PV.int .i64)
theorem ybe (l:List Int):(ints l).length=l.length:=qBc ..
theorem yCg {l:List Int} {i:Nat} (h:i<l.length):List.getD (ints l) i .nils=.int .i64 (l.getD i 0):=by
 unfold ints
 rw [qAb,qAb,qBj,qAd h]
 rfl
theorem ybL {l:List Int} {i:Nat} (h:i<l.length):yaa (List.getD (ints l) i .nils)=l.getD i 0:=by
 rw [yCg h];rfl
theorem yhX {l:List Int} {i:Nat} (h:i<l.length):conf zI (List.getD (ints l) i .nils)=true:=by
 rw [yCg h];rfl
theorem ylf {c:Bool} {P:Prop} (h:c=true) (p:P):asr c P:=by rw [h,yaU];exact p
theorem yq2 {c:Prop} [Decidable c] {P:Prop} (h:c) (p:P):asr (decide c) P:=ylf (decide_eq_true h) p
theorem yGm {c:Prop} [Decidable c] {P Q:Prop} (h:c) (p:P):cbr (decide c) P Q:=by rw [decide_eq_true h,yam];exact p
theorem yAe {c:Prop} [Decidable c] {P Q:Prop} (h:¬c) (q:Q):cbr (decide c) P Q:=by rw [decide_eq_false h,yae];exact q
def mnf (m x:Int):Int:=if x<m then x else m
theorem yIV {l:List Int} (hl:l.length<9223372036854775807) (x0:List PV→Int→Int→Bool→Prop) :
  ∀ (rest:List Int) (i:Nat) (m:Int) (n:Nat),l.drop i=rest→i≤l.length→rest.length<n→x0 (ints l) (rest.foldl mnf m) (l.length:Int) false →
   ycf x0 n (ints l) m (i:Int):=by
 intro rest
 induction rest with
 | nil =>
  intro i m n hd hi hn k
  have:i=l.length:=by
   have:=congrArg List.length hd
   rw [qAr] at this
   have h2:([]:List Int).length=0:=rfl
   omega
  match n,hn with
  | n+1,_ =>
   unfold ycf
   rw [ybe,this]
   exact yAe (by omega) k
 | cons x t ih =>
  intro i m n hd hi hn k
  have hlt:i<l.length:=by
   have:=congrArg List.length hd
   rw [qAr,qAn] at this
   omega
  have hx:l.getD i 0=x:=by
   have:=List.getElem_drop (xs:=l) (i:=i) (j:=0) (h:=by rw [hd];exact Nat.zero_lt_succ _)
   rw [qAb,qAd hlt]
   simp only [hd,List.getElem_cons_zero,Nat.add_zero] at this
   exact this.symm
  have ht:l.drop (i+1)=t:=by rw [← List.tail_drop,hd];rfl
  match n,hn with
  | n+1,hn =>
   unfold ycf
   rw [ybe]
   refine yGm (by omega) ?_
   refine yq2 (by omega) (yq2 (by omega) (ylf (yhX (by omega)) ?_))
   rw [qAe,ybL hlt,hx,wi64 (n:=(i:Int)+1) ⟨by omega,by omega⟩]
   exact ih (i+1) _ n ht (by omega) (by rw [qAn] at hn;omega) k
theorem yLl {l:List Int} (hl:l.length<9223372036854775807) {x:Int} {t:List Int} (e:l=x::t) {K:Int→Prop} (k:K (t.foldl mnf x)):ydl (ints l) K:=by
 have h0:0<l.length:=by rw [e];exact Nat.zero_lt_succ _
 unfold ydl yhN
 rw [ybe]
 refine yAe (by omega) (yq2 (by omega) (ylf (yhX h0) ⟨l.length+1,?_⟩))
 have e0:l.getD 0 0=x:=by rw [e];rfl
 rw [ybL h0,e0]
 refine yIV hl _ t 1 x _ (by rw [e];rfl) (by omega) (by rw [e,qAn];omega) ?_
 exact k
def mxf (m x:Int):Int:=if x>m then x else m
theorem yIW {l:List Int} (hl:l.length<9223372036854775807) (x0:List PV→Int→Int→Bool→Prop) :
  ∀ (rest:List Int) (i:Nat) (m:Int) (n:Nat),l.drop i=rest→i≤l.length→rest.length<n→x0 (ints l) (rest.foldl mxf m) (l.length:Int) false →
   ycg x0 n (ints l) m (i:Int):=by
 intro rest
 induction rest with
 | nil =>
  intro i m n hd hi hn k
  have:i=l.length:=by
   have:=congrArg List.length hd
   rw [qAr] at this
   have h2:([]:List Int).length=0:=rfl
   omega
  match n,hn with
  | n+1,_ =>
   unfold ycg
   rw [ybe,this]
   exact yAe (by omega) k
 | cons x t ih =>
  intro i m n hd hi hn k
  have hlt:i<l.length:=by
   have:=congrArg List.length hd
   rw [qAr,qAn] at this
   omega
  have hx:l.getD i 0=x:=by
   have:=List.getElem_drop (xs:=l) (i:=i) (j:=0) (h:=by rw [hd];exact Nat.zero_lt_succ _)
   rw [qAb,qAd hlt]
   simp only [hd,List.getElem_cons_zero,Nat.add_zero] at this
   exact this.symm
  have ht:l.drop (i+1)=t:=by rw [← List.tail_drop,hd];rfl
  match n,hn with
  | n+1,hn =>
   unfold ycg
   rw [ybe]
   refine yGm (by omega) ?_
   refine yq2 (by omega) (yq2 (by omega) (ylf (yhX (by omega)) ?_))
   rw [qAe,ybL hlt,hx,wi64 (n:=(i:Int)+1) ⟨by omega,by omega⟩]
   exact ih (i+1) _ n ht (by omega) (by rw [qAn] at hn;omega) k
theorem yIX {l:List Int} (hl:l.length<9223372036854775807) {x:Int} {t:List Int} (e:l=x::t) {K:Int→Prop} (k:K (t.foldl mxf x)):ydm (ints l) K:=by
 have h0:0<l.length:=by rw [e];exact Nat.zero_lt_succ _
 unfold ydm yhP
 rw [ybe]
 refine yAe (by omega) (yq2 (by omega) (ylf (yhX h0) ⟨l.length+1,?_⟩))
 have e0:l.getD 0 0=x:=by rw [e];rfl
 rw [ybL h0,e0]
 refine yIW hl _ t 1 x _ (by rw [e];rfl) (by omega) (by rw [e,qAn];omega) ?_
 exact k
def incr (l:List Int) (i:Nat):Prop:=∀ j,i≤j→j+1<l.length→l.getD j 0<l.getD (j+1) 0
theorem yFy {l:List Int} {p2:List PV} {p0:Int} (hl:l.length<9223372036854775807) (W1 W2:List PV→(Int→Prop)→Prop) (x0:Int→Prop) (x1:Int→List PV→List PV→Int→Int→Bool→Prop) :
  ∀ (r i n:Nat),i+r+1=l.length→r<n→(incr l i→x1 p0 (ints l) p2 ((l.length:Int)-1) ((l.length:Int)-1) false)→(¬incr l i→x0 8) →
   yc9 W1 W2 x0 x1 n p0 (ints l) p2 ((l.length:Int)-1) (i:Int):=by
 intro r
 induction r with
 | zero =>
  intro i n hi hn k _
  match n,hn with
  | n+1,_ =>
   unfold yc9
   have e:(i:Int)=(l.length:Int)-1:=by omega
   refine yAe (by omega) ?_
   rw [e]
   exact k (fun j h1 h2=>by omega)
 | succ r ih =>
  intro i n hi hn k k0
  match n,hn with
  | n+1,hn =>
   unfold yc9
   rw [wi64 (n:=(i:Int)+1) ⟨by omega,by omega⟩,ybe]
   have e1:((i:Int)+1)=((i+1:Nat):Int):=by omega
   rw [e1,qAe,qAe]
   refine yGm (by omega) (yq2 (by omega) (yq2 (by omega) (ylf (yhX (by omega)) (yq2 (by omega) (yq2 (by omega) (ylf (yhX (by omega)) ?_))))))
   rw [ybL (by omega),ybL (by omega)]
   by_cases h:l.getD i 0≥l.getD (i+1) 0
   ·exact yGm h (k0 fun hc=>absurd (hc i (qAi _) (by omega)) (by omega))
   ·refine yAe h (ih (i+1) n (by omega) (by omega) (fun hc=>k fun j h1 h2=>?_) (fun hc=>k0 fun hd=>hc fun j h1 h2=>hd j (by omega) h2))
    by_cases hj:j=i
    ·subst hj;omega
    ·exact hc j (by omega) h2
def small (q:Rat):Prop:=-1000000000000000000≤q.num∧q.num≤1000000000000000000∧(q.den:Int)≤1000000000000000000
instance (q:Rat):Decidable (small q):=by unfold small;infer_instance
theorem small.rv {q:Rat} (h:small q):RV q.num q.den:=by
 obtain ⟨h1,h2,h3⟩:=h
 have:=q.den_pos
 exact ⟨by omega,h3,h1,h2,q.reduced⟩
theorem yCh {n d:Int} (h:RV n d):∃ q:Rat,small q∧q.num=n∧(q.den:Int)=d:=by
 obtain ⟨h1,h2,h3,h4,h5⟩:=h
 refine ⟨⟨n,d.toNat,by omega,?_⟩,⟨h3,h4,by show ((d.toNat:Nat):Int)≤_;omega⟩,rfl,by show ((d.toNat:Nat):Int)=_;omega⟩
 have:d.natAbs=d.toNat:=by omega
 rw [this] at h5
 exact h5
theorem small.i1 {q:Rat} (h:small q):I64 q.num:=⟨by have:=h.1;omega,by have:=h.2.1;omega⟩
theorem small.i2 {q:Rat} (h:small q):I64 (q.den:Int):=⟨by omega,by have:=h.2.2;omega⟩
theorem yfk {q r:Rat} (h:small q) (k:small r):chk2 q.num q.den r.num r.den=0:=ycM.2 ⟨h.rv,k.rv⟩
def fitK (q:Rat) (K:Int→Int→Int→Prop):Prop:=if small q then K q.num q.den 0 else K 0 0 16
theorem yyq {q:Rat} {s:Bool} {a b:Int} (ha:a=(q.num.natAbs:Int)) (hb:b=(q.den:Int)) (hs:q.num≠0→s=decide (q.num<0)) (K:Int→Int→Int→Prop):outS s a b K=fitK q K:=by
 unfold outS fitK
 subst ha hb
 by_cases h:small q
 ·have h':=h
  obtain ⟨h1,h2,h3⟩:=h
  rw [if_pos (show _∧_ from ⟨by omega,h3⟩),if_pos h']
  have e:(if s=true then -((q.num.natAbs:Nat):Int) else ((q.num.natAbs:Nat):Int))=q.num:=by
   by_cases h0:q.num=0
   ·rw [h0];cases s <;> rfl
   ·rw [hs h0]
    by_cases h1:q.num<0
    ·rw [decide_eq_true h1,if_pos rfl];omega
    ·rw [decide_eq_false h1,if_neg (by simp)];omega
  rw [e]
 ·rw [if_neg h,if_neg]
  intro h2
  exact h ⟨by omega,by omega,h2.2⟩
theorem yD5 (x:Int) (g:Nat):(Int.tdiv x g).natAbs=x.natAbs / g:=by rw [Int.natAbs_tdiv,Int.natAbs_natCast];rfl
theorem yAf {x:Int} {g:Nat} (h:(g:Int)∣x) (hx:x≠0):decide (Int.tdiv x g<0)=decide (x<0):=by
 obtain ⟨k,rfl⟩:=h
 have hg:(g:Int)≠0:=fun e=>hx (by rw [e,Int.zero_mul])
 rw [Int.mul_tdiv_cancel_left _ hg]
 have h1:(g:Int)>0:=by have:=qBs g;omega
 have:(g:Int)*k<0↔k<0:=by
  constructor
  ·intro h;refine Int.not_le.1 fun hk=>?_
   have:=qA4 (show 0≤(g:Int) by omega) hk
   omega
  ·intro h;exact Int.mul_neg_of_pos_of_neg h1 h
 simp only [this]
theorem yHE (q r:Rat):(q*r).num=Int.tdiv q.num (Nat.gcd q.num.natAbs r.den)*Int.tdiv r.num (Nat.gcd r.num.natAbs q.den) ∧
  (q*r).den=(q.den / Nat.gcd r.num.natAbs q.den)*(r.den / Nat.gcd q.num.natAbs r.den):=by
 have e:q*r=Rat.mul q r:=rfl
 rw [e]
 delta Rat.mul
 constructor
 ·simp only [Int.divExact_eq_tdiv]
 ·simp only [Nat.divExact_eq_div]
theorem ylU (x:Int) (d:Nat):((Nat.gcd x.natAbs d:Nat):Int)∣x:=by
 rw [← Int.dvd_natAbs,Int.ofNat_dvd];exact Nat.gcd_dvd_left _ _
theorem yGn {x:Int} {g:Nat} (h:(g:Int)∣x) (hx:x≠0):Int.tdiv x g≠0:=by
 obtain ⟨k,rfl⟩:=h
 have hg:(g:Int)≠0:=fun e=>hx (by rw [e,Int.zero_mul])
 rw [Int.mul_tdiv_cancel_left _ hg]
 intro e;rw [e,Int.mul_zero] at hx;exact hx rfl
theorem yIY {x y:Int} (hx:x≠0) (hy:y≠0):decide (x*y<0)=(decide (x<0) != decide (y<0)):=by
 by_cases h1:x<0 <;> by_cases h2:y<0
 ·have:=Int.mul_pos_of_neg_of_neg h1 h2
  simp [h1,h2];omega
 ·have:=qB5 h1 (show 0<y by omega)
  simp [h1,h2];omega
 ·have:=Int.mul_neg_of_pos_of_neg (show 0<x by omega) h2
  simp [h1,h2];omega
 ·have:=Int.mul_pos (show 0<x by omega) (show 0<y by omega)
  simp [h1,h2];omega
theorem yCi (q r:Rat) (K:Int→Int→Int→Prop):outS (decide (q.num<0) != decide (r.num<0)) (numM q.num r.num q.den r.den) (denM q.num r.num q.den r.den) K=fitK (q*r) K:=by
 obtain ⟨e1,e2⟩:=yHE q r
 refine yyq ?_ ?_ ?_ K
 ·rw [e1,Int.natAbs_mul,yD5,yD5]
  simp only [numM,Int.natAbs_natCast]
 ·rw [e2]
  simp only [denM,Int.natAbs_natCast]
 ·intro h
  rw [e1] at h ⊢
  have h1:q.num≠0:=fun e=>h (by rw [e,Int.zero_tdiv,Int.zero_mul])
  have h2:r.num≠0:=fun e=>h (by rw [e,Int.zero_tdiv,Int.mul_zero])
  rw [yIY (yGn (ylU _ _) h1) (yGn (ylU _ _) h2),yAf (ylU _ _) h1,yAf (ylU _ _) h2]
theorem ywK {w:(Int→Int→Int→Prop)→Prop} {q:Rat} (det:∀ r0 r1 r2,(∀ K:Int→Int→Int→Prop,K r0 r1 r2→w K)→∀ K,w K=K r0 r1 r2) (h:∀ K,fitK q K→w K) (K:Int→Int→Int→Prop):w K=fitK q K:=by
 unfold fitK at h ⊢
 by_cases hs:small q
 ·simp only [if_pos hs] at h ⊢
  exact det _ _ _ h K
 ·simp only [if_neg hs] at h ⊢
  exact det _ _ _ h K
theorem ytS {q r:Rat} (hq:small q) (hr:small r) (K:Int→Int→Int→Prop):ybh q.num q.den r.num r.den K=fitK (q*r) K :=
 ywK (fun r0 r1 r2 h K=>yy2 _ _ _ _ r0 r1 r2 h K) (fun K k=>yFx hq.i1 hq.i2 hr.i1 hr.i2 (by rw [if_pos (yfk hq hr),yCi];exact k)) K
theorem yHF {r:Rat} (h:r≠0):(r⁻¹).num=(if r.num<0 then -(r.den:Int) else r.den)∧(r⁻¹).den=r.num.natAbs:=by
 have h0:r.num≠0:=fun e=>h (Rat.num_eq_zero.1 e)
 constructor
 ·rw [Rat.num_inv]
  by_cases h1:r.num<0
  ·rw [if_pos h1,Int.sign_eq_neg_one_of_neg h1];omega
  ·rw [if_neg h1,Int.sign_eq_one_of_pos (by omega)];omega
 ·rw [Rat.den_inv,if_neg h0]
theorem yKe {q r:Rat} (hq:small q) (hr:small r) (h0:r≠0) (K:Int→Int→Int→Prop):ycD q.num q.den r.num r.den K=fitK (q / r) K:=by
 have hn:r.num≠0:=fun e=>h0 (Rat.num_eq_zero.1 e)
 refine ywK (fun r0 r1 r2 h K=>yy6 _ _ _ _ r0 r1 r2 h K) (fun K k=>yLj hq.i1 hq.i2 hr.i1 hr.i2 ?_) K
 rw [if_pos (yfk hq hr),if_neg hn]
 rw [Rat.div_def,← yCi] at k
 obtain ⟨e1,e2⟩:=yHF h0
 rw [e1,e2] at k
 have s:decide ((if r.num<0 then -(r.den:Int) else (r.den:Int))<0)=decide (r.num<0):=by
  have:=r.den_pos
  split
  ·rename_i h;simp only [h];simp;omega
  ·rename_i h;simp only [h];simp
 rw [s] at k
 have hd:(if r.num<0 then -(r.den:Int) else (r.den:Int)).natAbs=r.den:=by split <;> omega
 unfold numM denM at k ⊢
 simp only [hd,Int.natAbs_natCast] at k ⊢
 exact k
theorem yHG (q r:Rat):(q+r).num=(q.num*(r.den / Nat.gcd q.den r.den:Nat)+r.num*(q.den / Nat.gcd q.den r.den:Nat)) / (Nat.gcd (q.num*(r.den / Nat.gcd q.den r.den:Nat)+r.num*(q.den / Nat.gcd q.den r.den:Nat)).natAbs (Nat.gcd q.den r.den):Nat) ∧
  (q+r).den=(q.den / Nat.gcd q.den r.den)*r.den / Nat.gcd (q.num*(r.den / Nat.gcd q.den r.den:Nat)+r.num*(q.den / Nat.gcd q.den r.den:Nat)).natAbs (Nat.gcd q.den r.den):=by
 have e:q+r=Rat.add q r:=rfl
 rw [e]
 delta Rat.add
 by_cases hg:q.den.gcd r.den=1
 ·simp only [hg,dif_pos,Nat.div_one,Nat.gcd_one_right,Int.natCast_one,Int.ediv_one,and_self]
 ·simp only [hg,dif_neg,not_false_eq_true,Rat.maybeNormalize_eq]
  constructor
  ·first | rfl | simp only [Int.divExact_eq_tdiv]
  ·first | rfl | simp only []
theorem yIZ {q r:Rat} {Z:Int} {g:Nat} (e1:(q+r).num=Z / (Nat.gcd Z.natAbs g:Nat)) (e2:(q+r).den=(q.den / g)*r.den / Nat.gcd Z.natAbs g) (hgp:0<g) (hgd:g∣r.den) (K:Int→Int→Int→Prop) :
  outA (decide (Z<0)) (Z.natAbs:Int) q.den r.den g K=fitK (q+r) K:=by
 unfold outA
 by_cases h0:Z=0
 ·subst h0
  have:(q+r)=0:=by
   apply Rat.num_eq_zero.1
   rw [e1];simp
  rw [this,if_pos (by rfl)]
  unfold fitK
  rw [if_pos (by decide)];rfl
 ·have hne:¬((Z.natAbs:Nat):Int)=0:=by omega
  rw [if_neg hne]
  have hdv:((Nat.gcd Z.natAbs g:Nat):Int)∣Z:=ylU _ _
  have hhp:0<Nat.gcd Z.natAbs g:=qA9 _ hgp
  have hhg:Nat.gcd Z.natAbs g∣r.den:=Nat.dvd_trans (Nat.gcd_dvd_right _ _) hgd
  refine yyq ?_ ?_ ?_ K
  ·rw [e1,Int.natAbs_ediv_of_dvd hdv];simp
  ·rw [e2];simp only [qAe];rw [Nat.mul_div_assoc _ hhg]
  ·intro h
   rw [e1]
   obtain ⟨k,hk⟩:=hdv
   revert hhp hk
   generalize Nat.gcd Z.natAbs g=h
   intro hhp hk
   have e:Z / (h:Int)=k:=by rw [hk,Int.mul_ediv_cancel_left _ (by omega)]
   rw [e]
   have:Z<0↔k<0:=by
    rw [hk]
    constructor
    ·intro hk;refine Int.not_le.1 fun hk2=>?_
     have:=qA4 (show 0≤(h:Int) by omega) hk2
     omega
    ·intro hk;exact Int.mul_neg_of_pos_of_neg (by omega) hk
   simp only [this]
theorem yCj (q r:Rat) (K:Int→Int→Int→Prop) :
  outA (decide (q.num*((r.den:Int) / (Nat.gcd (q.den:Int).natAbs (r.den:Int).natAbs:Nat))+r.num*((q.den:Int) / (Nat.gcd (q.den:Int).natAbs (r.den:Int).natAbs:Nat))<0))
   ((q.num*((r.den:Int) / (Nat.gcd (q.den:Int).natAbs (r.den:Int).natAbs:Nat))+r.num*((q.den:Int) / (Nat.gcd (q.den:Int).natAbs (r.den:Int).natAbs:Nat))).natAbs:Int) q.den r.den (Nat.gcd (q.den:Int).natAbs (r.den:Int).natAbs) K=fitK (q+r) K:=by
 obtain ⟨e1,e2⟩:=yHG q r
 rw [qAy,qAy] at e1 e2
 exact yIZ e1 e2 (Nat.gcd_pos_of_pos_left _ q.den_pos) (Nat.gcd_dvd_right _ _) K
theorem yCk {q r:Rat} (hq:small q) (hr:small r) (K:Int→Int→Int→Prop):ybx q.num q.den r.num r.den K=fitK (q+r) K :=
 ywK (fun r0 r1 r2 h K=>yy4 _ _ _ _ r0 r1 r2 h K) (fun K k=>yIU hq.i1 hq.i2 hr.i1 hr.i2 (by rw [if_pos (yfk hq hr),yCj];exact k)) K
theorem ynd {q r:Rat} (hq:small q) (hr:small r) (K:Int→Int→Int→Prop):yaD q.num q.den r.num r.den K=fitK (q-r) K :=
 ywK (fun r0 r1 r2 h K=>yy5 _ _ _ _ r0 r1 r2 h K) (fun K k=>yLk hq.i1 hq.i2 hr.i1 hr.i2 (by
  rw [if_pos (yfk hq hr)]
  rw [Rat.sub_eq_add_neg,← yCj] at k
  exact k)) K
theorem yI0 {n d:Int} (hd:d≠0) (K:Int→Int→Int→Prop):outS (decide (n<0) != decide (d<0)) ((n.natAbs / Nat.gcd n.natAbs d.natAbs:Nat):Int) ((d.natAbs / Nat.gcd n.natAbs d.natAbs:Nat):Int) K=fitK ((n:Rat) / (d:Rat)) K:=by
 have e:(n:Rat) / (d:Rat)=mkRat (if d<0 then -n else n) d.natAbs:=by
  rw [Rat.mkRat_eq_div]
  split
  ·rename_i h
   have h1:((d.natAbs:Nat):Int)=-d:=by omega
   have h2:((d.natAbs:Nat):Rat)=-(d:Rat):=by rw [← Rat.intCast_natCast,h1,Rat.intCast_neg]
   rw [h2,Rat.intCast_neg]
   have h3:(d:Rat)≠0:=fun e=>hd (Rat.intCast_eq_zero_iff.1 e)
   grind
  ·rename_i h
   have h1:((d.natAbs:Nat):Int)=d:=by omega
   have h2:((d.natAbs:Nat):Rat)=(d:Rat):=by rw [← Rat.intCast_natCast,h1]
   rw [h2]
 have h0:d.natAbs≠0:=by omega
 have hab:(if d<0 then -n else n).natAbs=n.natAbs:=by split <;> omega
 rw [e]
 refine yyq ?_ ?_ ?_ K
 ·rw [Rat.num_mkRat,if_neg h0,hab,Int.natAbs_ediv_of_dvd,Int.natAbs_natCast,hab,Nat.gcd_comm]
  rw [← Int.dvd_natAbs,Int.ofNat_dvd,hab];exact Nat.gcd_dvd_right _ _
 ·rw [Rat.den_mkRat,if_neg h0,hab,Nat.gcd_comm]
 ·rw [Rat.num_mkRat,if_neg h0,hab]
  have hdv:((Nat.gcd d.natAbs n.natAbs:Nat):Int)∣(if d<0 then -n else n):=by
   rw [← Int.dvd_natAbs,Int.ofNat_dvd,hab];exact Nat.gcd_dvd_right _ _
  have hp:0<Nat.gcd d.natAbs n.natAbs:=Nat.gcd_pos_of_pos_left _ (by omega)
  obtain ⟨k,hk⟩:=hdv
  rw [hk,Int.mul_ediv_cancel_left _ (by omega)]
  intro hk0
  generalize Nat.gcd d.natAbs n.natAbs=g at *
  have h1:(g:Int)*k<0↔k<0:=by
   constructor
   ·intro hk;refine Int.not_le.1 fun hk2=>?_
    have:=qA4 (show 0≤(g:Int) by omega) hk2
    omega
   ·intro hk;exact Int.mul_neg_of_pos_of_neg (by omega) hk
  have h2:(g:Int)*k≠0:=fun e=>by rcases Int.mul_eq_zero.1 e with e | e <;> omega
  by_cases hd2:d<0
  ·rw [if_pos hd2] at hk
   by_cases hn:n<0
   ·have:¬k<0:=by omega
    simp [hd2,hn,this]
   ·have:k<0:=by omega
    simp [hd2,this];omega
  ·rw [if_neg hd2] at hk
   by_cases hn:n<0
   ·have:k<0:=by omega
    simp [hd2,hn,this]
   ·have:¬k<0:=by omega
    simp [hd2,this];omega
def cmpQ (q r:Rat):Int:=if q<r then -1 else if r<q then 1 else 0
theorem yGo (q r:Rat):cmpR q.num q.den r.num r.den=cmpQ q r:=by
 unfold cmpR cmp3 cmpQ
 simp only [Rat.lt_iff]
theorem yCl {q r:Rat} (hq:small q) (hr:small r) (K:Int→Int→Prop):ybW q.num q.den r.num r.den K=K (cmpQ q r) 0 :=
 yy3 _ _ _ _ _ _ (fun K k=>yIO hq.i1 hq.i2 hr.i1 hr.i2 (by rw [yfk hq hr,if_pos rfl,yGo];exact k)) K
theorem yAg {n d:Int} (hn:I64 n) (hd:I64 d) (K:Int→Prop):ybu n d K=K (chk n d) :=
 yv6 _ _ _ (fun K k=>yyo hn hd k) K
theorem yhm {p:Int} (h:I64 p) (K:Int→Prop):ygD p K=K (p.natAbs:Int):=by
 unfold I64 at h
 unfold ygD ysa
 by_cases hp:p<0
 ·have e0:IntKind.i64.wrap (p+1)=p+1:=wi64 ⟨by omega,by omega⟩
  have e1:IntKind.i64.wrap ((0:Int)-(p+1))=-(p+1):=by rw [wi64 ⟨by omega,by omega⟩];omega
  have e2:IntKind.u64.wrap (-(p+1))=-(p+1):=wu64 ⟨by omega,by omega⟩
  have e3:IntKind.u64.wrap (-(p+1)+1)=(p.natAbs:Int):=by rw [wu64 ⟨by omega,by omega⟩];omega
  rw [decide_eq_true hp,yam,e0,e1,e2,e3]
 ·rw [decide_eq_false hp,yae,wu64 ⟨by omega,by omega⟩]
  congr 1
  omega
theorem yAh (x:Int→Int→Bool→Prop):∀ (n a b:Nat),b<n→yf1 x n (a:Int) (b:Int)=x ((Nat.gcd a b:Nat):Int) 0 false
 | 0,a,b,h=>by omega
 | n+1,a,b,h=>by
  unfold yf1
  by_cases hb:b=0
  ·subst hb
   simp [cbr]
  ·have h1:((b:Int) != 0)=true:=by simp;omega
   have h2:¬((b:Int)=0):=by omega
   rw [h1,yam,decide_eq_false h2,qBn,yaU]
   have e:Int.tmod (a:Int) (b:Int)=((a % b:Nat):Int):=by rw [Int.tmod_eq_emod_of_nonneg (by omega)];omega
   rw [e,yAh x n b (a % b) (by have:=Nat.mod_lt a (show b>0 by omega);omega)]
   rw [Nat.gcd_comm a b,Nat.gcd_rec b a,Nat.gcd_comm]
theorem ypV (a b:Nat) (K:Int→Prop):ydp (a:Int) (b:Int) K=K ((Nat.gcd a b:Nat):Int):=by
 refine yDW _ _ _ (fun K h=>?_) K
 unfold ydp ysb
 exact ⟨b+1,by rw [yAh _ (b+1) a b (by omega)];exact h⟩
theorem yyr {a b:Int} (h:a=b):(a != b)=false:=by simp [h]
theorem yD6 {a b:Int} (h:a≠b):(a != b)=true:=by simp [h]
theorem yD7 {a b:Int} (h:a≠b):(a == b)=false:=by simp [h]
theorem yI1 {a b:Int} (h:a=b):(a == b)=true:=by simp [h]
theorem ylV {n d:Int} (hn:I64 n) (hd:I64 d) (K:Int→Prop):yaX n d K=K (chk n d):=by
 unfold yaX ymL
 by_cases h1:d<1
 ·rw [decide_eq_true h1,yam,chk,if_neg (fun h=>by have:=h.1;omega)]
 ·rw [decide_eq_false h1,yae]
  by_cases h2:d>1000000000000000000
  ·rw [decide_eq_true h2,yam,chk,if_neg (fun h=>by have:=h.2.1;omega)]
  ·rw [decide_eq_false h2,yae]
   by_cases h3:n < -1000000000000000000
   ·rw [decide_eq_true h3,yam,chk,if_neg (fun h=>by have:=h.2.2.1;omega)]
   ·rw [decide_eq_false h3,yae]
    by_cases h4:n>1000000000000000000
    ·rw [decide_eq_true h4,yam,chk,if_neg (fun h=>by have:=h.2.2.2.1;omega)]
    ·have ed:IntKind.u64.wrap d=((d.natAbs:Nat):Int):=by rw [wu64 ⟨by omega,by omega⟩];omega
     rw [decide_eq_false h4,yae,yhm hn,ed,ypV]
     by_cases h5:Nat.gcd n.natAbs d.natAbs=1
     ·rw [h5,yyr (by rfl),yae,chk,if_pos ⟨by omega,by omega,by omega,by omega,h5⟩]
     ·rw [yD6 (by omega),yam,chk,if_neg (fun h=>h5 h.2.2.2.2)]
theorem ytT {a b c d:Int} (ha:I64 a) (hb:I64 b) (hc:I64 c) (hd:I64 d) (K:Int→Prop):ygm a b c d K=K (chk2 a b c d):=by
 unfold ygm yoP
 rw [ylV ha hb,ylV ha hb,ylV hc hd,chk2]
 by_cases h:chk a b=0
 ·rw [yyr h,yae,if_pos h]
 ·rw [yD6 h,yam,if_neg h]
theorem or32 {m s:Int} (hm:0≤m) (hs:0≤s∧s<4294967296):IntKind.u64.wrap (BitVec.ofInt IntKind.u64.bits (IntKind.u64.wrap (m*4294967296))|||BitVec.ofInt IntKind.u64.bits s).toNat=m % 4294967296*4294967296+s:=by
 have e:IntKind.u64.wrap (m*4294967296)=m % 4294967296*2 ^ 32:=by rw [yiG];omega
 rw [e,yIR (k:=32) (by omega) ⟨hs.1,by omega⟩ ⟨by omega,by omega⟩ (by omega)]
 omega
theorem yI2 {a b:Int} (ha:U64 a) (hb:U64 b) (K:Int→Int→Prop):yd6 a b K=K (a*b / 18446744073709551616) (a*b % 18446744073709551616):=by
 unfold yd6 ymN
 simp only [yIN]
 rw [ync ha,ync hb]
 unfold U64 at ha hb
 have ha':=ha;have hb':=hb
 obtain ⟨x1,hx1⟩:∃ x,x=a / 4294967296:=⟨_,rfl⟩
 obtain ⟨x0,hx0⟩:∃ x,x=a % 4294967296:=⟨_,rfl⟩
 obtain ⟨y1,hy1⟩:∃ x,x=b / 4294967296:=⟨_,rfl⟩
 obtain ⟨y0,hy0⟩:∃ x,x=b % 4294967296:=⟨_,rfl⟩
 rw [← hx1,← hx0,← hy1,← hy0]
 have b1:0≤x1∧x1≤4294967295:=by omega
 have b2:0≤x0∧x0≤4294967295:=by omega
 have b3:0≤y1∧y1≤4294967295:=by omega
 have b4:0≤y0∧y0≤4294967295:=by omega
 have pb:∀ x y:Int,0≤x∧x≤4294967295→0≤y∧y≤4294967295→0≤x*y∧x*y≤18446744065119617025:=by
  intro x y hx hy
  refine ⟨qA4 hx.1 hy.1,?_⟩
  have:=qA6 hx.2 hy.2 hy.1 (by omega:(0:Int)≤4294967295)
  omega
 have p1:=pb x1 y1 b1 b3
 have p2:=pb x1 y0 b1 b4
 have p3:=pb x0 y1 b2 b3
 have p4:=pb x0 y0 b2 b4
 have ea:a=x1*4294967296+x0:=by omega
 have eb:b=y1*4294967296+y0:=by omega
 have eab:a*b=x1*y1*18446744073709551616+x1*y0*4294967296+x0*y1*4294967296+x0*y0:=by
  rw [ea,eb];grind
 obtain ⟨P,hP⟩:∃ x,x=x1*y1:=⟨_,rfl⟩
 obtain ⟨Q,hQ⟩:∃ x,x=x1*y0:=⟨_,rfl⟩
 obtain ⟨R,hR⟩:∃ x,x=x0*y1:=⟨_,rfl⟩
 obtain ⟨S,hS⟩:∃ x,x=x0*y0:=⟨_,rfl⟩
 rw [← hP] at p1;rw [← hQ] at p2;rw [← hR] at p3;rw [← hS] at p4
 rw [← hP,← hQ,← hR,← hS] at eab ⊢
 have w1:IntKind.u64.wrap S=S:=wu64 ⟨by omega,by omega⟩
 have w2:IntKind.u64.wrap Q=Q:=wu64 ⟨by omega,by omega⟩
 have w3:IntKind.u64.wrap R=R:=wu64 ⟨by omega,by omega⟩
 have w4:IntKind.u64.wrap P=P:=wu64 ⟨by omega,by omega⟩
 rw [w1,w2,w3,w4,ync (p:=Q) ⟨by omega,by omega⟩,ync (p:=S) ⟨by omega,by omega⟩]
 have w5:IntKind.u64.wrap (Q % 4294967296+R)=Q % 4294967296+R:=wu64 ⟨by omega,by omega⟩
 rw [w5]
 have w6:IntKind.u64.wrap (Q % 4294967296+R+S / 4294967296)=Q % 4294967296+R+S / 4294967296:=wu64 ⟨by omega,by omega⟩
 rw [w6,or32 (by omega) ⟨by omega,by omega⟩]
 have hab:a*b≤18446744073709551615*18446744073709551615:=qA6 ha'.2 hb'.2 hb'.1 (by omega:(0:Int)≤18446744073709551615)
 rw [eab] at hab ⊢
 have w7:IntKind.u64.wrap (P+Q / 4294967296)=P+Q / 4294967296:=wu64 ⟨by omega,by omega⟩
 rw [w7,wu64 ⟨by omega,by omega⟩]
 congr 1 <;> omega
theorem yCm {X Y:Int} (hx:0≤X) (hy:0≤Y) (hs:X+Y<340282366920938463463374607431768211456) (K:Int→Int→Prop) :
  ydH (X / 18446744073709551616) (X % 18446744073709551616) (Y / 18446744073709551616) (Y % 18446744073709551616) K=K ((X+Y) / 18446744073709551616) ((X+Y) % 18446744073709551616):=by
 unfold ydH yoV
 rw [yiG,yiG,yiG]
 by_cases h:(X % 18446744073709551616+Y % 18446744073709551616) % 18446744073709551616<X % 18446744073709551616
 ·rw [decide_eq_true h,yam]
  congr 1 <;> omega
 ·rw [decide_eq_false h,yae]
  congr 1 <;> omega
theorem yD8 {X Y:Int} (hy:0≤Y) (hs:Y≤X) (hx:X<340282366920938463463374607431768211456) (K:Int→Int→Prop) :
  ygE (X / 18446744073709551616) (X % 18446744073709551616) (Y / 18446744073709551616) (Y % 18446744073709551616) K=K ((X-Y) / 18446744073709551616) ((X-Y) % 18446744073709551616):=by
 unfold ygE yiV
 rw [yiG,yiG,yiG]
 by_cases h:X % 18446744073709551616<Y % 18446744073709551616
 ·rw [decide_eq_true h,yam]
  congr 1 <;> omega
 ·rw [decide_eq_false h,yae]
  congr 1 <;> omega
theorem ytU {X Y:Int} (hx:0≤X) (hy:0≤Y) (K:Bool→Prop) :
  yjK (X / 18446744073709551616) (X % 18446744073709551616) (Y / 18446744073709551616) (Y % 18446744073709551616) K=K (decide (X<Y)):=by
 unfold yjK yoQ
 by_cases h:X / 18446744073709551616<Y / 18446744073709551616
 ·rw [decide_eq_true h,yam,decide_eq_true (by omega)]
 ·rw [decide_eq_false h,yae]
  by_cases h2:X / 18446744073709551616=Y / 18446744073709551616
  ·rw [yI1 h2,yam]
   congr 1
   rw [decide_eq_decide];omega
  ·rw [yD7 h2,yae,decide_eq_false (by omega)]
theorem yLQ {i:Int} (h:0≤i∧i≤127):IntKind.i64.wrap (BitVec.ofInt IntKind.i64.bits i&&&BitVec.ofInt IntKind.i64.bits (63:Int)).toNat=i % 64:=by
 have e1:(BitVec.ofInt 64 i).toNat=i.toNat:=by
  rw [BitVec.toNat_ofInt];omega
 have e2:(BitVec.ofInt 64 (63:Int)).toNat=63:=rfl
 have e3:(BitVec.ofInt IntKind.i64.bits i&&&BitVec.ofInt IntKind.i64.bits (63:Int)).toNat=i.toNat % 64:=by
  show (BitVec.ofInt 64 i&&&BitVec.ofInt 64 (63:Int)).toNat=_
  rw [BitVec.toNat_and,e1,e2]
  exact Nat.and_two_pow_sub_one_eq_mod i.toNat 6
 rw [e3,wi64 ⟨by omega,by omega⟩]
 omega
theorem and1 {p:Int} (h:U64 p):IntKind.u64.wrap (BitVec.ofInt IntKind.u64.bits p&&&BitVec.ofInt IntKind.u64.bits (1:Int)).toNat=p % 2:=by
 unfold U64 at h
 have e1:(BitVec.ofInt 64 p).toNat=p.toNat:=by
  rw [BitVec.toNat_ofInt];omega
 have e2:(BitVec.ofInt 64 (1:Int)).toNat=1:=rfl
 have e3:(BitVec.ofInt IntKind.u64.bits p&&&BitVec.ofInt IntKind.u64.bits (1:Int)).toNat=p.toNat % 2:=by
  show (BitVec.ofInt 64 p&&&BitVec.ofInt 64 (1:Int)).toNat=_
  rw [BitVec.toNat_and,e1,e2]
  exact Nat.and_two_pow_sub_one_eq_mod p.toNat 1
 rw [e3,yiG]
 omega
theorem or1 {m s:Int} (hm:0≤m∧m≤9223372036854775807) (hs:0≤s∧s<2):IntKind.u64.wrap (BitVec.ofInt IntKind.u64.bits (m*2)|||BitVec.ofInt IntKind.u64.bits s).toNat=m*2+s:=by
 have:=yIR (a:=m) (b:=s) (k:=1) hm.1 ⟨hs.1,by omega⟩ ⟨by omega,by omega⟩ (by omega)
 simpa using this
theorem ypq (i:Nat):(2:Int) ^ i=((2 ^ i:Nat):Int):=by rw [Int.natCast_pow];rfl
theorem yKf {W:Nat} (hW:W=2 ^ 64) {A:Int} (hA:0≤A) {i:Nat} (hi:i<64):A % (W:Int) / (2 ^ i:Int) % ((2:Nat):Int)=A / (2 ^ i:Int) % ((2:Nat):Int):=by
 obtain ⟨a,rfl⟩:∃ a:Nat,A=a:=⟨A.toNat,by omega⟩
 have:(a % W / 2 ^ i % 2:Nat)=a / 2 ^ i % 2:=by
  have e:W=2 ^ i*2 ^ (64-i):=by rw [← Nat.pow_add];rw [show i+(64-i)=64 by omega,hW]
  rw [e,Nat.mod_mul_right_div_self]
  have e2:2 ^ (64-i)=2*2 ^ (63-i):=by rw [show 64-i=(63-i)+1 by omega,Nat.pow_succ,Nat.mul_comm]
  rw [e2,Nat.mod_mul_right_mod]
 rw [ypq,← Int.natCast_emod,← qAy,← Int.natCast_emod,← qAy,← Int.natCast_emod,this]
theorem yLm {A:Int} (hA:0≤A) {i:Nat} (hi:i<64):A % 18446744073709551616 / (2 ^ i:Int) % 2=A / (2 ^ i:Int) % 2:=yKf (W:=18446744073709551616) rfl hA hi
theorem yKg {W:Nat} (hW:W=2 ^ 64) {A:Int} (hA:0≤A) {i:Nat} (hi:64≤i):A / (W:Int) / (2 ^ (i-64):Int)=A / (2 ^ i:Int):=by
 obtain ⟨a,rfl⟩:∃ a:Nat,A=a:=⟨A.toNat,by omega⟩
 have:(a / W / 2 ^ (i-64):Nat)=a / 2 ^ i:=by
  have e:(2 ^ i:Nat)=W*2 ^ (i-64):=by
   rw [hW,← Nat.pow_add,show 64+(i-64)=i by omega]
  rw [e,Nat.div_div_eq_div_mul]
 rw [ypq,ypq,← qAy,← qAy,← qAy,this]
theorem yLn {A:Int} (hA:0≤A) {i:Nat} (hi:64≤i):A / 18446744073709551616 / (2 ^ (i-64):Int)=A / (2 ^ i:Int):=yKg (W:=18446744073709551616) rfl hA hi
theorem yI3 {d B q r b:Int} (hd:0<d) (hq:B / d=q) (hr:B % d=r) (hb:0≤b∧b≤1) :
  (2*B+b) / d=(if 2*r+b≥d then 2*q+1 else 2*q)∧(2*B+b) % d=(if 2*r+b≥d then 2*r+b-d else 2*r+b):=by
 have h1:=Int.mul_ediv_add_emod B d
 have h2:=Int.emod_nonneg B (show d≠0 by omega)
 have h3:=Int.emod_lt_of_pos B hd
 rw [hq,hr] at h1
 rw [hr] at h2 h3
 split
 ·refine (Int.ediv_emod_unique hd).2 ⟨?_,by omega,by omega⟩
  grind
 ·refine (Int.ediv_emod_unique hd).2 ⟨?_,by omega,by omega⟩
  grind
theorem yFz {A d:Int} (hA:0≤A∧A<340282366920938463463374607431768211456) (hd:0<d∧d<9223372036854775808) {x0:Int→Int→Int→Int→Int→Int→Int→Int→Int→Bool→Prop}
  (k0:x0 d (A / 18446744073709551616) (A % 18446744073709551616) 0 0 (A / d / 18446744073709551616) (A / d % 18446744073709551616) (A % d) (-1) false) :
  ∀ (k n:Nat),k≤128→k<n→ybs ydH x0 n d (A / 18446744073709551616) (A % 18446744073709551616) 0 0
   (A / 2 ^ k / d / 18446744073709551616) (A / 2 ^ k / d % 18446744073709551616) (A / 2 ^ k % d) ((k:Int)-1):=by
 intro k
 induction k with
 | zero =>
  intro n _ hn
  match n,hn with
  | n+1,_ =>
   unfold ybs
   rw [decide_eq_false (by omega),yae]
   have e:A / 2 ^ 0=A:=by rw [Int.pow_zero,Int.ediv_one]
   rw [e]
   exact k0
 | succ k ih =>
  intro n hk hn
  match n,hn with
  | n+1,hn =>
   unfold ybs
   have e8:((k+1:Nat):Int)-1=(k:Int):=by omega
   rw [e8,decide_eq_true (by omega),yam]
   rw [yLQ (i:=(k:Int)) ⟨by omega,by omega⟩]
   have en:(!decide ((k:Int) % 64<0))=true:=by rw [decide_eq_false (by omega)];rfl
   have em:min ((k:Int) % 64).toNat IntKind.u64.bits=k % 64:=by show min _ 64=_;omega
   rw [en,yaU,yaU,em]
   have pp:∀ m:Nat,(0:Int)≤2 ^ m:=fun m=>by rw [ypq];exact qBs _
   have p1:∀ m:Nat,(0:Int)<2 ^ m:=fun m=>by rw [ypq];exact Int.natCast_pos.2 (Nat.two_pow_pos m)
   simp only [yvT _ _ (pp _)]
   have hC0:0≤A / 2 ^ k:=qCb hA.1 (pp _)
   have hCA:A / 2 ^ k≤A:=Int.ediv_le_self _ hA.1
   have hBC:A / 2 ^ (k+1)=A / 2 ^ k / 2:=by
    rw [Int.pow_succ,Int.ediv_ediv_of_nonneg (pp k)]
   obtain ⟨C,hC⟩:∃ C,C=A / 2 ^ k:=⟨_,rfl⟩
   have ih2:=ih n (by omega) (by omega)
   rw [← hC] at hC0 hCA hBC ih2
   rw [hBC]
   obtain ⟨b,hb⟩:∃ b,b=C % 2:=⟨_,rfl⟩
   have hCb:C=2*(C / 2)+b:=by omega
   obtain ⟨s1,s2⟩:=yI3 (B:=C / 2) (b:=b) hd.1 rfl rfl ⟨by omega,by omega⟩
   rw [← hCb] at s1 s2
   have r0:=Int.emod_nonneg (C / 2) (show d≠0 by omega)
   have r1:=Int.emod_lt_of_pos (C / 2) hd.1
   have q0:0≤C / 2 / d:=qCb (by omega) (by omega)
   have q1:C / 2 / d≤C / 2:=Int.ediv_le_self _ (by omega)
   rw [s1,s2] at ih2
   obtain ⟨q,hq⟩:∃ q,q=C / 2 / d:=⟨_,rfl⟩
   obtain ⟨r,hr⟩:∃ r,r=C / 2 % d:=⟨_,rfl⟩
   rw [← hq,← hr] at ih2
   rw [← hq] at q0 q1
   rw [← hr] at r0 r1
   rw [← hq,← hr]
   have e2:IntKind.u64.wrap (r*2)=r*2:=wu64 ⟨by omega,by omega⟩
   rw [e2,wi64 (n:=(k:Int)-1) ⟨by omega,by omega⟩]
   rw [yCm q0 q0 (by omega),yCm q0 q0 (by omega)]
   have hlo:0≤A % 18446744073709551616 / 2 ^ (k % 64)∧A % 18446744073709551616 / 2 ^ (k % 64)≤18446744073709551615:=by
    refine ⟨qCb (by omega) (pp _),?_⟩
    have:=Int.ediv_le_self (a:=A % 18446744073709551616) (2 ^ (k % 64)) (by omega)
    omega
   have hhi:0≤A / 18446744073709551616 / 2 ^ (k % 64)∧A / 18446744073709551616 / 2 ^ (k % 64)≤18446744073709551615:=by
    refine ⟨qCb (by omega) (pp _),?_⟩
    have:=Int.ediv_le_self (a:=A / 18446744073709551616) (2 ^ (k % 64)) (by omega)
    omega
   rw [and1 hlo,and1 hhi]
   have go:∀ bb:Int,bb=b→cbr (decide (IntKind.u64.wrap (BitVec.ofInt IntKind.u64.bits (r*2)|||BitVec.ofInt IntKind.u64.bits bb).toNat≥d))
     (ybs ydH x0 n d (A / 18446744073709551616) (A % 18446744073709551616) 0 0 ((q+q) / 18446744073709551616) (IntKind.u64.wrap (BitVec.ofInt IntKind.u64.bits ((q+q) % 18446744073709551616)|||BitVec.ofInt IntKind.u64.bits (1:Int)).toNat) (IntKind.u64.wrap ((IntKind.u64.wrap (BitVec.ofInt IntKind.u64.bits (r*2)|||BitVec.ofInt IntKind.u64.bits bb).toNat)-d)) ((k:Int)-1))
     (ybs ydH x0 n d (A / 18446744073709551616) (A % 18446744073709551616) 0 0 ((q+q) / 18446744073709551616) ((q+q) % 18446744073709551616) (IntKind.u64.wrap (BitVec.ofInt IntKind.u64.bits (r*2)|||BitVec.ofInt IntKind.u64.bits bb).toNat) ((k:Int)-1)):=by
    intro bb hbb
    rw [hbb,or1 ⟨r0,by omega⟩ ⟨by omega,by omega⟩]
    by_cases hge:2*r+b≥d
    ·rw [if_pos hge,if_pos hge] at ih2
     rw [decide_eq_true (show r*2+b≥d by omega),yam,wu64 (n:=r*2+b-d) ⟨by omega,by omega⟩]
     have e3:(q+q) % 18446744073709551616=((q % 9223372036854775808)*2):=by omega
     rw [e3,or1 ⟨by omega,by omega⟩ ⟨by omega,by omega⟩]
     have e4:(q+q) / 18446744073709551616=(2*q+1) / 18446744073709551616:=by omega
     have e5:q % 9223372036854775808*2+1=(2*q+1) % 18446744073709551616:=by omega
     rw [e4,e5,show r*2+b-d=2*r+b-d by omega]
     exact ih2
    ·rw [if_neg hge,if_neg hge] at ih2
     rw [decide_eq_false (show ¬r*2+b≥d by omega),yae,show q+q=2*q by omega,show r*2+b=2*r+b by omega]
     exact ih2
   by_cases h64:(k:Int)≥64
   ·rw [decide_eq_true h64,yam]
    refine go _ ?_
    rw [show k % 64=k-64 by omega,yLn hA.1 (by omega),← hC,hb]
   ·rw [decide_eq_false h64,yae]
    refine go _ ?_
    rw [show k % 64=k by omega,yLm hA.1 (by omega),← hC,hb]
theorem yI4 {A d:Int} (hA:0≤A∧A<340282366920938463463374607431768211456) (hd:0<d∧d<9223372036854775808) (K:Int→Int→Int→Prop) :
  ydA (A / 18446744073709551616) (A % 18446744073709551616) d K=K (A / d / 18446744073709551616) (A / d % 18446744073709551616) (A % d):=by
 refine yzr _ _ _ _ _ _ (fun K h=>?_) K
 unfold ydA ymP
 refine ⟨129,?_⟩
 have e:=yFz (x0:=fun f g i j k a b c l m=>K a b c) hA hd h 128 129 (by omega) (by omega)
 have z:A / 2 ^ 128=0:=Int.ediv_eq_zero_of_lt hA.1 hA.2
 rw [z,Int.zero_ediv,Int.zero_emod] at e
 exact e
theorem yCn {s:Bool} {X Y:Int} (hx:0≤X) (hy:0≤Y) (K:Int→Int→Int→Prop) :
  ygo s (X / 18446744073709551616) (X % 18446744073709551616) (Y / 18446744073709551616) (Y % 18446744073709551616) K=outS s X Y K:=by
 unfold ygo yoS outS
 by_cases h:X≤1000000000000000000∧Y≤1000000000000000000
 ·have e1:IntKind.i64.wrap (X % 18446744073709551616)=X:=by rw [show X % 18446744073709551616=X by omega,wi64 ⟨by omega,by omega⟩]
  have e2:IntKind.i64.wrap (Y % 18446744073709551616)=Y:=by rw [show Y % 18446744073709551616=Y by omega,wi64 ⟨by omega,by omega⟩]
  rw [if_pos h,decide_eq_false (by omega),yae,decide_eq_false (by omega),yae,decide_eq_false (by omega),yae,decide_eq_false (by omega),yae,e1,e2]
  cases s
  ·rw [yae];rfl
  ·rw [yam,wi64 ⟨by omega,by omega⟩,Int.zero_sub];rfl
 ·rw [if_neg h]
  by_cases h1:X / 18446744073709551616>0
  ·rw [decide_eq_true h1,yam]
  ·rw [decide_eq_false h1,yae]
   by_cases h2:Y / 18446744073709551616>0
   ·rw [decide_eq_true h2,yam]
   ·rw [decide_eq_false h2,yae]
    by_cases h3:X % 18446744073709551616>1000000000000000000
    ·rw [decide_eq_true h3,yam]
    ·rw [decide_eq_false h3,yae,decide_eq_true (by omega),yam]
theorem ypr {g:Int} (h:g≠0) {P:Prop}:asr (!(decide (g=(0:Int)))) P=P:=by
 rw [decide_eq_false h];rfl
theorem wuN {n:Nat} (h:(n:Int)≤18446744073709551615):IntKind.u64.wrap (n:Int)=n:=wu64 ⟨by omega,h⟩
theorem yys (a b:Nat):Int.tdiv (a:Int) (b:Int)=((a / b:Nat):Int):=by
 rw [Int.tdiv_eq_ediv_of_nonneg (by omega),qAy]
theorem yAi {A d:Nat} (hA:A<340282366920938463463374607431768211456) (hd:0<d∧d<9223372036854775808) (K:Int→Int→Int→Prop) :
  ydA ((A:Int) / 18446744073709551616) ((A:Int) % 18446744073709551616) d K=K (((A / d:Nat):Int) / 18446744073709551616) (((A / d:Nat):Int) % 18446744073709551616) ((A % d:Nat):Int):=by
 rw [yI4 ⟨by omega,by omega⟩ ⟨by omega,by omega⟩,qAy,Int.natCast_emod]
theorem yhY {a b:Nat} (ha:a≤18446744073709551615) (hb:b≤18446744073709551615) (K:Int→Int→Prop) :
  yd6 (a:Int) (b:Int) K=K (((a*b:Nat):Int) / 18446744073709551616) (((a*b:Nat):Int) % 18446744073709551616):=by
 rw [yI2 ⟨by omega,by omega⟩ ⟨by omega,by omega⟩,Int.natCast_mul]
theorem yHH {a b c d:Int} {K:Int→Int→Prop} {Z:Prop} (h:∀ u v,K u v=Z):ygE a b c d K=Z:=by
 unfold ygE yiV
 simp only [h]
 by_cases e:b<d
 ·rw [decide_eq_true e,yam]
 ·rw [decide_eq_false e,yae]
theorem yKh {s:Bool} {Z p1 p3 g:Nat} (hZ:Z<340282366920938463463374607431768211456) (hg:0<g) (g1:g≤1000000000000000000) (h1:p1≤1000000000000000000) (h3:p3≤1000000000000000000) (K:Int→Int→Int→Prop) :
  cbr (((Z:Int) / 18446744073709551616 ==(0:Int))&&(((Z:Int) % 18446744073709551616 ==(0:Int))&&true)) (K 0 1 0)
   (ydA ((Z:Int) / 18446744073709551616) ((Z:Int) % 18446744073709551616) (g:Int) (fun _ _ b =>
    (ydp b (g:Int) (fun a =>
     (ydA ((Z:Int) / 18446744073709551616) ((Z:Int) % 18446744073709551616) a (fun c d _ =>
      (asr (!(decide ((g:Int)=(0:Int)))) (asr (!(decide (a=(0:Int))))
       (yd6 (IntKind.u64.wrap (Int.tdiv (IntKind.u64.wrap (p1:Int)) (g:Int))) (IntKind.u64.wrap (Int.tdiv (IntKind.u64.wrap (p3:Int)) a)) (fun f h =>
        (ygo s c d f h (fun i j k=>K i j k))))))))))))=outA s (Z:Int) p1 p3 g K:=by
 unfold outA
 by_cases h0:Z=0
 ·subst h0;rfl
 ·have e:(((Z:Int) / 18446744073709551616 ==(0:Int))&&(((Z:Int) % 18446744073709551616 ==(0:Int))&&true))=false:=by
   by_cases e1:(Z:Int) / 18446744073709551616=0
   ·rw [yI1 e1,yD7 (by omega)];rfl
   ·rw [yD7 e1];rfl
  have hg0:0<Nat.gcd Z g:=qA9 _ hg
  have hgg:Nat.gcd Z g≤g:=Nat.gcd_le_right _ hg
  have eg:Nat.gcd (Z % g) g=Nat.gcd Z g:=by rw [Nat.gcd_comm Z g,Nat.gcd_rec g Z]
  have q1:p1 / g≤p1:=qA8 _ _
  have q3:p3 / Nat.gcd Z g≤p3:=qA8 _ _
  rw [e,yae,if_neg (by omega),yAi hZ ⟨hg,by omega⟩]
  simp only [ypV,eg]
  rw [yAi hZ ⟨hg0,by omega⟩,ypr (by omega),ypr (by omega),wuN (by omega),wuN (by omega),yys,yys,wuN (by omega),wuN (by omega),yhY (by omega) (by omega)]
  rw [yCn (qBs _) (qBs _)]
  simp only [qAe]
theorem yI5 {n d:Int} (hn:I64 n) (hd:I64 d) (h0:d≠0) (K:Int→Int→Int→Prop):ya9 n d K=fitK ((n:Rat) / (d:Rat)) K:=by
 unfold ya9 yoU
 have hn':=hn;have hd':=hd
 unfold I64 at hn' hd'
 have g0:0<Nat.gcd n.natAbs d.natAbs:=qA9 _ (by omega)
 have q1:n.natAbs / Nat.gcd n.natAbs d.natAbs≤n.natAbs:=qA8 _ _
 have q2:d.natAbs / Nat.gcd n.natAbs d.natAbs≤d.natAbs:=qA8 _ _
 have hp:∀ x:Nat,(0:Int)≤x:=qBs
 rw [yD7 h0,yae,yhm hn,yhm hd,ypV,ypr (by omega),ypr (by omega),yys,yys,← yI0 h0]
 obtain ⟨x,hx⟩:∃ x,x=n.natAbs / Nat.gcd n.natAbs d.natAbs:=⟨_,rfl⟩
 obtain ⟨y,hy⟩:∃ y,y=d.natAbs / Nat.gcd n.natAbs d.natAbs:=⟨_,rfl⟩
 rw [← hx] at q1 ⊢
 rw [← hy] at q2 ⊢
 rw [wuN (by omega),wuN (by omega)]
 have m:=yCn (s:=(decide (n<0) != decide (d<0))) (X:=(x:Int)) (Y:=(y:Int)) (by omega) (by omega) K
 rw [← m]
 have e1:(x:Int) / 18446744073709551616=0:=by omega
 have e2:(x:Int) % 18446744073709551616=x:=by omega
 have e3:(y:Int) / 18446744073709551616=0:=by omega
 have e4:(y:Int) % 18446744073709551616=y:=by omega
 rw [e1,e2,e3,e4]
theorem yCo {q r:Rat} (hq:small q) (hr:small r) (K:Int→Int→Int→Prop):ygF q.num q.den r.num r.den K=fitK (q+r) K:=by
 unfold ygF yse
 rw [ytT hq.i1 hq.i2 hr.i1 hr.i2,yfk hq hr,yyr rfl,yae,← yCj]
 obtain ⟨a1,a2,a3⟩:=hq
 obtain ⟨b1,b2,b3⟩:=hr
 have dq:=q.den_pos
 have dr:=r.den_pos
 have g0:0<Nat.gcd q.den r.den:=Nat.gcd_pos_of_pos_left _ dq
 have gl:Nat.gcd q.den r.den≤q.den:=Nat.gcd_le_left _ dq
 have w1:ydp (IntKind.u64.wrap (q.den:Int)) (IntKind.u64.wrap (r.den:Int))=ydp (q.den:Int) (r.den:Int):=by rw [wuN (by omega),wuN (by omega)]
 rw [w1,ypV,yhm ⟨by omega,by omega⟩,ypr (by omega)]
 show _=outA (decide (q.num*((r.den:Int) / (Nat.gcd q.den r.den:Nat))+r.num*((q.den:Int) / (Nat.gcd q.den r.den:Nat))<0)) ((q.num*((r.den:Int) / (Nat.gcd q.den r.den:Nat))+r.num*((q.den:Int) / (Nat.gcd q.den r.den:Nat))).natAbs:Int) q.den r.den (Nat.gcd q.den r.den) K
 obtain ⟨g,hg⟩:∃ g,g=Nat.gcd q.den r.den:=⟨_,rfl⟩
 rw [← hg] at g0 gl ⊢
 have q3:r.den / g≤r.den:=qA8 _ _
 have q4:q.den / g≤q.den:=qA8 _ _
 have t1:IntKind.u64.wrap (Int.tdiv (IntKind.u64.wrap (r.den:Int)) (g:Int))=((r.den / g:Nat):Int):=by rw [wuN (by omega),yys,wuN (by omega)]
 have t2:IntKind.u64.wrap (Int.tdiv (IntKind.u64.wrap (q.den:Int)) (g:Int))=((q.den / g:Nat):Int):=by rw [wuN (by omega),yys,wuN (by omega)]
 rw [t1,yhY (by omega) (by omega)]
 rw [yhm ⟨by omega,by omega⟩,ypr (by omega),t2,yhY (by omega) (by omega)]
 rw [← qAy,← qAy]
 obtain ⟨x,hx⟩:∃ x,x=r.den / g:=⟨_,rfl⟩
 obtain ⟨y,hy⟩:∃ y,y=q.den / g:=⟨_,rfl⟩
 rw [← hx] at q3 ⊢
 rw [← hy] at q4 ⊢
 have X1:q.num.natAbs*x≤1000000000000000000*1000000000000000000:=Nat.mul_le_mul (by omega) (by omega)
 have Y1:r.num.natAbs*y≤1000000000000000000*1000000000000000000:=Nat.mul_le_mul (by omega) (by omega)
 have ax:q.num*(x:Int)=if q.num<0 then -((q.num.natAbs*x:Nat):Int) else ((q.num.natAbs*x:Nat):Int):=by
  rw [Int.natCast_mul]
  split
  ·rw [show ((q.num.natAbs:Nat):Int)=-q.num by omega,Int.neg_mul,Int.neg_neg]
  ·rw [show ((q.num.natAbs:Nat):Int)=q.num by omega]
 have cy:r.num*(y:Int)=if r.num<0 then -((r.num.natAbs*y:Nat):Int) else ((r.num.natAbs*y:Nat):Int):=by
  rw [Int.natCast_mul]
  split
  ·rw [show ((r.num.natAbs:Nat):Int)=-r.num by omega,Int.neg_mul,Int.neg_neg]
  ·rw [show ((r.num.natAbs:Nat):Int)=r.num by omega]
 rw [ax,cy]
 obtain ⟨X,hX⟩:∃ X,X=q.num.natAbs*x:=⟨_,rfl⟩
 obtain ⟨Y,hY⟩:∃ Y,Y=r.num.natAbs*y:=⟨_,rfl⟩
 rw [← hX] at X1 ⊢
 rw [← hY] at Y1 ⊢
 rw [yCm (by omega) (by omega) (by omega)]
 have fin:=fun (s:Bool) (Z:Nat) (hZ:Z<340282366920938463463374607431768211456)=>yKh (s:=s) (Z:=Z) (p1:=q.den) (p3:=r.den) (g:=g) hZ g0 (by omega) (by omega) (by omega) K
 simp only [t2,← hy] at fin
 have cong:∀ (s s':Bool) (Z Z':Int),Z=Z'→(Z≠0→s=s')→outA s Z q.den r.den g K=outA s' Z' q.den r.den g K:=by
  intro s s' Z Z' h1 h2
  subst h1
  by_cases h:Z=0
  ·unfold outA;rw [if_pos h,if_pos h]
  ·rw [h2 h]
 by_cases hs:decide (q.num<0)=decide (r.num<0)
 ·have e:(decide (q.num<0) != decide (r.num<0))=false:=by rw [hs];simp
  rw [e,yae,show (X:Int)+Y=((X+Y:Nat):Int) by omega]
  rw [fin (decide (q.num<0)) (X+Y) (by omega)]
  refine cong _ _ _ _ ?_ ?_
  ·by_cases h1:q.num<0
   ·have h2:r.num<0:=by simpa [h1] using hs.symm
    rw [if_pos h1,if_pos h2];omega
   ·have h2:¬r.num<0:=by simpa [h1] using hs.symm
    rw [if_neg h1,if_neg h2];omega
  ·intro h0
   by_cases h1:q.num<0
   ·have h2:r.num<0:=by simpa [h1] using hs.symm
    rw [if_pos h1,if_pos h2,decide_eq_true h1,decide_eq_true (by omega)]
   ·have h2:¬r.num<0:=by simpa [h1] using hs.symm
    rw [if_neg h1,if_neg h2,decide_eq_false h1,decide_eq_false (by omega)]
 ·have e:(decide (q.num<0) != decide (r.num<0))=true:=by simpa using hs
  have h12:(q.num<0∧¬r.num<0)∨(¬q.num<0∧r.num<0):=by
   by_cases h1:q.num<0 <;> by_cases h2:r.num<0 <;> simp [h1,h2] at hs ⊢
  rw [e,yam]
  by_cases hlt:X<Y
  ·refine yHH (fun u v=>?_)
   rw [ytU (by omega) (by omega),decide_eq_true (by omega),yam,yD8 (by omega) (by omega) (by omega)]
   have ez:(Y:Int)-X=((Y-X:Nat):Int):=by omega
   rw [ez]
   rw [fin (decide (r.num<0)) (Y-X) (by omega)]
   refine cong _ _ _ _ ?_ ?_
   ·rcases h12 with ⟨h1,h2⟩ | ⟨h1,h2⟩
    ·rw [if_pos h1,if_neg h2];omega
    ·rw [if_neg h1,if_pos h2];omega
   ·intro h0
    rcases h12 with ⟨h1,h2⟩ | ⟨h1,h2⟩
    ·rw [if_pos h1,if_neg h2,decide_eq_false h2,decide_eq_false (by omega)]
    ·rw [if_neg h1,if_pos h2,decide_eq_true h2,decide_eq_true (by omega)]
  ·rw [yD8 (by omega) (by omega) (by omega),ytU (by omega) (by omega),decide_eq_false (by omega),yae]
   have ez:(X:Int)-Y=((X-Y:Nat):Int):=by omega
   rw [ez]
   rw [fin (decide (q.num<0)) (X-Y) (by omega)]
   refine cong _ _ _ _ ?_ ?_
   ·rcases h12 with ⟨h1,h2⟩ | ⟨h1,h2⟩
    ·rw [if_pos h1,if_neg h2];omega
    ·rw [if_neg h1,if_pos h2];omega
   ·intro h0
    rcases h12 with ⟨h1,h2⟩ | ⟨h1,h2⟩
    ·rw [if_pos h1,if_neg h2,decide_eq_true h1,decide_eq_true (by omega)]
    ·rw [if_neg h1,if_pos h2,decide_eq_false h1,decide_eq_false (by omega)]
theorem yKi {q:Rat} (hq:small q) (K:Int→Int→Prop):ypS q.num q.den K=K (-q).num (-q).den:=by
 unfold ypS ysd
 obtain ⟨a1,a2,a3⟩:=hq
 rw [wi64 ⟨by omega,by omega⟩,Int.zero_sub];rfl
theorem small.neg {q:Rat} (hq:small q):small (-q):=by
 obtain ⟨a1,a2,a3⟩:=hq
 unfold small
 rw [Rat.neg_num,Rat.neg_den]
 omega
theorem yKj {q r:Rat} (hq:small q) (hr:small r) (K:Int→Int→Int→Prop):ypT q.num q.den r.num r.den K=fitK (q-r) K:=by
 unfold ypT ysf
 rw [ytT hq.i1 hq.i2 hr.i1 hr.i2,yfk hq hr,yyr rfl,yae,yKi hr,yCo hq hr.neg,Rat.sub_eq_add_neg]
theorem yKk {q r:Rat} (hq:small q) (hr:small r) (K:Int→Int→Int→Prop):ypU q.num q.den r.num r.den K=fitK (q*r) K:=by
 unfold ypU ysg
 rw [ytT hq.i1 hq.i2 hr.i1 hr.i2,yfk hq hr,yyr rfl,yae]
 have hq':=hq;have hr':=hr
 obtain ⟨a1,a2,a3⟩:=hq
 obtain ⟨b1,b2,b3⟩:=hr
 have dq:=q.den_pos
 have dr:=r.den_pos
 have g0:0<Nat.gcd q.num.natAbs r.den:=qA9 _ dr
 have h0:0<Nat.gcd r.num.natAbs q.den:=qA9 _ dq
 rw [yhm hq'.i1,wuN (n:=r.den) (by omega),ypV,yhm hr'.i1,wuN (n:=q.den) (by omega),ypV]
 simp only [yhm hq'.i1,yhm hr'.i1]
 have q1:q.num.natAbs / Nat.gcd q.num.natAbs r.den≤q.num.natAbs:=qA8 _ _
 have q2:r.num.natAbs / Nat.gcd r.num.natAbs q.den≤r.num.natAbs:=qA8 _ _
 have q3:q.den / Nat.gcd r.num.natAbs q.den≤q.den:=qA8 _ _
 have q4:r.den / Nat.gcd q.num.natAbs r.den≤r.den:=qA8 _ _
 have e1:numM q.num r.num q.den r.den=q.num.natAbs / Nat.gcd q.num.natAbs r.den*(r.num.natAbs / Nat.gcd r.num.natAbs q.den):=rfl
 have e2:denM q.num r.num q.den r.den=q.den / Nat.gcd r.num.natAbs q.den*(r.den / Nat.gcd q.num.natAbs r.den):=rfl
 have z1:q.num=0→numM q.num r.num q.den r.den=0:=fun h=>by rw [e1,h,Int.natAbs_zero,Nat.zero_div,Nat.zero_mul]
 have z2:r.num=0→numM q.num r.num q.den r.den=0:=fun h=>by rw [e1,h,Int.natAbs_zero,Nat.zero_div,Nat.mul_zero]
 have n1:∀ P:Prop,asr (!(decide (((Nat.gcd q.num.natAbs r.den:Nat):Int)=(0:Int)))) P=P:=fun P=>ypr (by omega)
 have n2:∀ P:Prop,asr (!(decide (((Nat.gcd r.num.natAbs q.den:Nat):Int)=(0:Int)))) P=P:=fun P=>ypr (by omega)
 have w1:=wuN (n:=q.num.natAbs / Nat.gcd q.num.natAbs r.den) (by omega)
 have w2:=wuN (n:=r.num.natAbs / Nat.gcd r.num.natAbs q.den) (by omega)
 have w3:=wuN (n:=q.den / Nat.gcd r.num.natAbs q.den) (by omega)
 have w4:=wuN (n:=r.den / Nat.gcd q.num.natAbs r.den) (by omega)
 have t1:=yhY (a:=q.num.natAbs / Nat.gcd q.num.natAbs r.den) (b:=r.num.natAbs / Nat.gcd r.num.natAbs q.den) (by omega) (by omega)
 have t2:=yhY (a:=q.den / Nat.gcd r.num.natAbs q.den) (b:=r.den / Nat.gcd q.num.natAbs r.den) (by omega) (by omega)
 have m:=fun s=>yCn (s:=s) (X:=((numM q.num r.num q.den r.den:Nat):Int)) (Y:=((denM q.num r.num q.den r.den:Nat):Int)) (qBs _) (qBs _) K
 rw [← e1] at t1
 rw [← e2] at t2
 simp only [n1,n2,yys,w1,w2,w3,w4,t1,t2,m]
 rw [← yCi]
 have zs:∀ s s':Bool,numM q.num r.num q.den r.den=0→outS s (numM q.num r.num q.den r.den:Nat) (denM q.num r.num q.den r.den:Nat) K=outS s' (numM q.num r.num q.den r.den:Nat) (denM q.num r.num q.den r.den:Nat) K:=by
  intro s s' h
  rw [h]
  cases s <;> cases s' <;> rfl
 by_cases hs:(decide (q.num<0) != decide (r.num<0))=true
 ·rw [hs,yam]
  by_cases n1:q.num=0
  ·rw [yyr n1,yae];exact zs _ _ (z1 n1)
  ·rw [yD6 n1,yam]
   by_cases n2:r.num=0
   ·exact zs _ _ (z2 n2)
   ·rw [yD6 n2]
 ·have hs':(decide (q.num<0) != decide (r.num<0))=false:=by simpa using hs
  rw [hs',yae]
theorem yd0 {q r:Rat} (hq:small q) (hr:small r) (K:Bool→Prop):yaG q.num q.den r.num r.den K=K (decide (q<r)):=by
 unfold yaG yoR
 have hq':=hq;have hr':=hr
 obtain ⟨a1,a2,a3⟩:=hq
 obtain ⟨b1,b2,b3⟩:=hr
 have dq:=q.den_pos
 have dr:=r.den_pos
 have e:decide (q<r)=decide (q.num*r.den<r.num*q.den):=by rw [decide_eq_decide];exact Rat.lt_iff q r
 rw [e]
 by_cases hs:(decide (q.num<0) != decide (r.num<0))=true
 ·rw [hs,yam]
  by_cases h1:q.num<0
  ·have h2:¬r.num<0:=by simpa [h1] using hs
   have p1:q.num*r.den<0:=qB5 h1 (by omega)
   have p2:0≤r.num*q.den:=qA4 (by omega) (by omega)
   rw [decide_eq_true h1,decide_eq_true (by omega)]
  ·have h2:r.num<0:=by simpa [h1] using hs
   have p1:r.num*q.den<0:=qB5 h2 (by omega)
   have p2:0≤q.num*r.den:=qA4 (by omega) (by omega)
   rw [decide_eq_false h1,decide_eq_false (by omega)]
 ·have hs':(decide (q.num<0) != decide (r.num<0))=false:=by simpa using hs
  rw [hs',yae,yhm hq'.i1,wuN (by omega),yhY (by omega) (by omega),yhm hr'.i1,wuN (by omega),yhY (by omega) (by omega),ytU (qBs _) (qBs _),ytU (qBs _) (qBs _),Int.natCast_mul,Int.natCast_mul]
  by_cases h1:q.num<0
  ·have h2:r.num<0:=by simpa [h1] using hs'
   rw [decide_eq_true h1,yam,show ((q.num.natAbs:Nat):Int)=-q.num by omega,show ((r.num.natAbs:Nat):Int)=-r.num by omega,Int.neg_mul,Int.neg_mul]
   congr 1
   rw [decide_eq_decide];omega
  ·have h2:¬r.num<0:=by simpa [h1] using hs'
   rw [decide_eq_false h1,yae,show ((q.num.natAbs:Nat):Int)=q.num by omega,show ((r.num.natAbs:Nat):Int)=r.num by omega]
theorem yCp (n:Int) (K:Int→Int→Prop):yoO n K=K (n:Rat).num (n:Rat).den:=rfl
theorem cbT {c:Prop} [Decidable c] {P Q:Prop} (h:c):cbr (decide c) P Q=P:=by rw [decide_eq_true h,yam]
theorem cbF {c:Prop} [Decidable c] {P Q:Prop} (h:¬c):cbr (decide c) P Q=Q:=by rw [decide_eq_false h,yae]
theorem cnT {a b:Int} {P Q:Prop} (h:a≠b):cbr (a != b) P Q=P:=by rw [yD6 h,yam]
theorem cnF {a b:Int} {P Q:Prop} (h:a=b):cbr (a != b) P Q=Q:=by rw [yyr h,yae]
theorem ceT {a b:Int} {P Q:Prop} (h:a=b):cbr (a == b) P Q=P:=by rw [yI1 h,yam]
theorem ceF {a b:Int} {P Q:Prop} (h:a≠b):cbr (a == b) P Q=Q:=by rw [yD7 h,yae]
theorem asT {c:Prop} [Decidable c] {P:Prop} (h:c):asr (decide c) P=P:=by rw [decide_eq_true h,yaU]
theorem asC {l:List Int} {i:Nat} {P:Prop} (h:i<l.length):asr (conf zI (List.getD (ints l) i .nils)) P=P:=by rw [yhX h,yaU]
theorem wib {n:Int} (h1:-9223372036854775808≤n) (h2:n≤9223372036854775807):IntKind.i64.wrap n=n:=wi64 ⟨h1,h2⟩
theorem yhn (i:Nat):(i:Int)+1=((i+1:Nat):Int):=by omega
theorem ypW {x:Int} (h:-1000000000000000000≤x∧x≤1000000000000000000):small (x:Rat):=by
 unfold small
 rw [Rat.num_intCast,Rat.den_intCast]
 omega
def allD (dens:List Int):Prop:=∀ d∈dens,0≤d∧d≤12
def yyt (dens:List Int):Prop:=∃ d∈dens,0<d
instance (l:List Int):Decidable (allD l):=by unfold allD;infer_instance
instance (l:List Int):Decidable (yyt l):=by unfold yyt;infer_instance
def VC (len:Int) (cuts dens:List Int):Prop :=
 1≤len∧len≤1000∧2≤cuts.length∧cuts.length≤40∧dens.length+1=cuts.length∧cuts.getD 0 0=0∧cuts.getD (cuts.length-1) 0=len∧incr cuts 0∧allD dens∧yyt dens
theorem yI6 (l:List Int):incr l 0↔∀ j,j<l.length→j+1<l.length→l.getD j 0<l.getD (j+1) 0:=⟨fun h j _ h2=>h j (by omega) h2,fun h j _ h2=>h j (by omega) h2⟩
instance (l:List Int):Decidable (incr l 0):=decidable_of_iff _ (yI6 l).symm
instance (len:Int) (cuts dens:List Int):Decidable (VC len cuts dens):=by unfold VC;infer_instance
def ckC (len:Int) (cuts dens:List Int):Int:=if len>1000∨cuts.length>40 then 4 else if VC len cuts dens then 0 else 8
theorem yGp (l:List Int) (x:Int):(l.foldl mnf x<0)↔¬(∀ d∈x::l,0≤d):=by
 induction l generalizing x with
 | nil=>simp
 | cons y t ih =>
  rw [List.foldl_cons,ih]
  unfold mnf
  simp only [List.forall_mem_cons]
  split
  ·constructor
   ·intro h h2;exact h ⟨h2.2.1,h2.2.2⟩
   ·intro h h2;exact h ⟨by omega,h2.1,h2.2⟩
  ·constructor
   ·intro h h2;exact h ⟨h2.1,h2.2.2⟩
   ·intro h h2;exact h ⟨h2.1,by omega,h2.2⟩
theorem ytV (l:List Int) (x k:Int):(l.foldl mxf x>k)↔¬(∀ d∈x::l,d≤k):=by
 induction l generalizing x with
 | nil=>simp
 | cons y t ih =>
  rw [List.foldl_cons,ih]
  unfold mxf
  simp only [List.forall_mem_cons]
  split
  ·constructor
   ·intro h h2;exact h ⟨h2.2.1,h2.2.2⟩
   ·intro h h2;exact h ⟨by omega,h2.1,h2.2⟩
  ·constructor
   ·intro h h2;exact h ⟨h2.1,h2.2.2⟩
   ·intro h h2;exact h ⟨h2.1,by omega,h2.2⟩
theorem ylW {len:Int} {cuts dens:List Int} (h1:cuts.length<4611686018427387904) (h2:dens.length<4611686018427387904) (K:Int→Prop) :
  yaZ len (ints cuts) (ints dens) K=K (ckC len cuts dens):=by
 refine yx4 _ _ _ _ (fun K k=>?_) K
 unfold yaZ ykS
 simp only [ybe]
 have bad:¬(len>1000∨cuts.length>40)→¬VC len cuts dens→K 8:=fun h h2=>by
  rw [ckC,if_neg h,if_neg h2] at k;exact k
 by_cases a1:len>1000
 ·rw [cbT a1];rw [ckC,if_pos (.inl a1)] at k;exact k
 rw [cbF a1]
 by_cases a2:cuts.length>40
 ·rw [cbT (by omega)];rw [ckC,if_pos (.inr a2)] at k;exact k
 have a12:¬(len>1000∨cuts.length>40):=by omega
 rw [cbF (by omega)]
 by_cases a3:len<1
 ·rw [cbT a3];exact bad a12 (fun h=>by have:=h.1;omega)
 rw [cbF a3]
 by_cases a4:cuts.length<2
 ·rw [cbT (by omega)];exact bad a12 (fun h=>by have:=h.2.2.1;omega)
 rw [cbF (by omega),wib (n:=(cuts.length:Int)-1) (by omega) (by omega)]
 by_cases a5:dens.length+1=cuts.length
 case neg=>rw [cnT (by omega)];exact bad a12 (fun h=>a5 h.2.2.2.2.1)
 rw [cnF (by omega),asT (by omega),asC (by omega),ybL (by omega)]
 by_cases a6:cuts.getD 0 0=0
 case neg=>rw [cnT a6];exact bad a12 (fun h=>a6 h.2.2.2.2.2.1)
 rw [cnF a6,asT (by omega),asT (by omega),asC (by omega),ybL (by omega)]
 have en:((cuts.length:Int)-1).toNat=cuts.length-1:=by omega
 rw [en]
 by_cases a7:cuts.getD (cuts.length-1) 0=len
 case neg=>rw [cnT a7];exact bad a12 (fun h=>a7 h.2.2.2.2.2.2.1)
 rw [cnF a7]
 refine ⟨cuts.length+1,?_⟩
 refine yFy (by omega) _ _ _ _ (cuts.length-1) 0 _ (by omega) (by omega) (fun hi=>?_) (fun hi=>bad a12 (fun h=>hi h.2.2.2.2.2.2.2.1))
 obtain ⟨x,t,e⟩:∃ x t,dens=x::t:=by
  cases dens with
  | nil=>exfalso;have:([]:List Int).length=0:=rfl;omega
  | cons x t=>exact ⟨x,t,rfl⟩
 refine yLl (by omega) e ?_
 by_cases b1:t.foldl mnf x<0
 ·rw [cbT b1]
  rw [yGp] at b1
  exact bad a12 (fun h=>b1 fun d hd=>(h.2.2.2.2.2.2.2.2.1 d (by rw [e];exact hd)).1)
 rw [cbF b1]
 refine yIX (by omega) e ?_
 by_cases b2:t.foldl mxf x>12
 ·rw [cbT b2]
  rw [ytV] at b2
  exact bad a12 (fun h=>b2 fun d hd=>(h.2.2.2.2.2.2.2.2.1 d (by rw [e];exact hd)).2)
 rw [cbF b2]
 refine yIX (by omega) e ?_
 have c1:∀ d∈dens,0≤d:=by rw [yGp,Classical.not_not,← e] at b1;exact b1
 have c2:∀ d∈dens,d≤12:=by rw [ytV,Classical.not_not,← e] at b2;exact b2
 by_cases b3:t.foldl mxf x=0
 ·rw [ceT b3]
  refine bad a12 (fun h=>?_)
  obtain ⟨d,hd,h0⟩:=h.2.2.2.2.2.2.2.2.2
  have:¬(t.foldl mxf x>0):=by omega
  rw [ytV,Classical.not_not,← e] at this
  have:=this d hd
  omega
 ·rw [ceF b3]
  have b4:t.foldl mxf x>0:=by
   refine Int.not_le.1 fun hle=>b3 ?_
   have:t.foldl mxf x>-1:=by
    rw [ytV]
    intro h
    have h1:=h x (qAm ..)
    have h2:=c1 x (by rw [e];exact qAm ..)
    omega
   omega
  rw [ytV,← e] at b4
  have b5:yyt dens:=by
   refine Classical.byContradiction fun hn=>b4 fun d hd=>?_
   exact Int.not_lt.1 fun hlt=>hn ⟨d,hd,hlt⟩
  rw [ckC,if_neg a12,if_pos ⟨by omega,by omega,by omega,by omega,a5,a6,a7,hi,fun d hd=>⟨c1 d hd,c2 d hd⟩,b5⟩] at k
  exact k
theorem yho (n:Int) (K:Int→Int→Prop):ybP n K=K (n:Rat).num (n:Rat).den:=rfl
theorem yfl {q r:Rat} (hq:small q) (hr:small r) (K:Bool→Prop):ybX q.num q.den r.num r.den K=K (decide (q<r)):=by
 unfold ybX ymA
 rw [yCl hq hr]
 congr 1
 rw [decide_eq_decide,cmpQ]
 by_cases h:q<r
 ·simp [h]
 ·by_cases h2:r<q <;> simp [h,h2]
def PT (len:Int) (n d:Int):Prop:=RV n d∧0≤n∧n≤len*d
instance (len n d:Int):Decidable (PT len n d):=by unfold PT;infer_instance
theorem yLo {len n d:Int} (h:PT len n d):∃ q:Rat,small q∧q.num=n∧(q.den:Int)=d∧0≤q∧q≤(len:Rat):=by
 obtain ⟨h1,h2,h3⟩:=h
 obtain ⟨q,e1,e2,e3⟩:=yCh h1
 refine ⟨q,e1,e2,e3,?_,?_⟩
 ·rw [← Rat.num_nonneg,e2];exact h2
 ·rw [Rat.le_iff,e2,e3,Rat.num_intCast,Rat.den_intCast];simpa using h3
theorem yyu (x:Int) (q:Rat):((x:Rat)<q)↔x*(q.den:Int)<q.num:=by
 rw [Rat.lt_iff,Rat.num_intCast,Rat.den_intCast];simp
theorem yyv {len:Int} (hl:-1000000000000000000≤len∧len≤1000000000000000000) {n d:Int} (hn:I64 n) (hd:I64 d) (a b:List PV) (K:Bool→Prop) :
  ybR len a b n d K=K (decide (PT len n d)):=by
 unfold ybR ykW
 rw [yAg hn hd]
 by_cases h:RV n d
 ·obtain ⟨q,e1,e2,e3⟩:=yCh h
  rw [chk,if_pos h,ceT rfl]
  by_cases h0:n≥0
  ·rw [cbT h0,yho,← e2,← e3,yfl (ypW hl) e1]
   congr 1
   have:((len:Rat)<q)↔len*(q.den:Int)<q.num:=yyu _ _
   by_cases h3:(len:Rat)<q
   ·have h4:=this.1 h3
    rw [decide_eq_true h3,decide_eq_false];rfl
    intro hp;have:=hp.2.2;omega
   ·have h4:¬_:=fun x=>h3 (this.2 x)
    rw [decide_eq_false h3,decide_eq_true];rfl
    exact ⟨e1.rv,by omega,by omega⟩
  ·rw [cbF h0,decide_eq_false]
   intro hp;have:=hp.2.1;omega
 ·rw [chk,if_neg h,ceF (by decide),decide_eq_false]
  intro hp;exact h hp.1
section
variable {len:Int} {cuts dens:List Int}
theorem VC.step (h:VC len cuts dens) {i:Nat} (hi:i+1<cuts.length):cuts.getD i 0<cuts.getD (i+1) 0:=h.2.2.2.2.2.2.2.1 i (qBd _) hi
theorem VC.mono (h:VC len cuts dens) {i:Nat}:∀ {j:Nat},i≤j→j<cuts.length→cuts.getD i 0≤cuts.getD j 0
 | 0,hij,_=>by
  have:i=0:=by omega
  subst this;exact Int.le_refl _
 | j+1,hij,hj=>by
  by_cases e:i=j+1
  ·subst e;exact Int.le_refl _
  ·have h1:=h.mono (i:=i) (j:=j) (by omega) (by omega)
   have h2:=h.step (i:=j) hj
   omega
theorem VC.lo (h:VC len cuts dens) {i:Nat} (hi:i<cuts.length):0≤cuts.getD i 0:=by
 have:=h.mono (qBd i) hi
 rw [h.2.2.2.2.2.1] at this;exact this
theorem VC.hi (h:VC len cuts dens) {i:Nat} (hi:i<cuts.length):cuts.getD i 0≤len:=by
 have:=h.mono (i:=i) (j:=cuts.length-1) (by omega) (by omega)
 rw [h.2.2.2.2.2.2.1] at this;exact this
theorem VC.den (h:VC len cuts dens) {i:Nat} (hi:i<dens.length):0≤dens.getD i 0∧dens.getD i 0≤12:=by
 rw [qAb,qAd hi]
 exact h.2.2.2.2.2.2.2.2.1 _ (List.getElem_mem hi)
theorem VC.l1 (h:VC len cuts dens):dens.length+1=cuts.length:=h.2.2.2.2.1
theorem VC.l2 (h:VC len cuts dens):cuts.length≤40:=h.2.2.2.1
theorem VC.len0 (h:VC len cuts dens):1≤len∧len≤1000:=⟨h.1,h.2.1⟩
theorem VC.sc (h:VC len cuts dens) {i:Nat} (hi:i<cuts.length):small ((cuts.getD i 0:Int):Rat):=ypW (by have:=h.lo hi;have:=h.hi hi;have:=h.len0;omega)
theorem VC.sd (h:VC len cuts dens) {i:Nat} (hi:i<dens.length):small ((dens.getD i 0:Int):Rat):=ypW (by have:=h.den hi;omega)
theorem yps (h:ckC len cuts dens=0):VC len cuts dens:=by
 unfold ckC at h
 split at h
 ·omega
 ·split at h
  ·assumption
  ·omega
theorem VC.ck (h:VC len cuts dens):ckC len cuts dens=0:=by
 rw [ckC,if_neg (by have:=h.l2;have:=h.len0;omega),if_pos h]
def totS (cuts dens:List Int):Nat→Nat→Int→Int
 | 0,_,s=>s
 | r+1,i,s=>totS cuts dens r (i+1) (s+dens.getD i 0*(cuts.getD (i+1) 0-cuts.getD i 0))
def totC (cuts dens:List Int):Int:=totS cuts dens dens.length 0 0
theorem yD9 {d x:Int} (h:0≤d∧d≤12) (hx:0≤x):0≤d*x∧d*x≤12*x:=⟨qA4 h.1 hx,qBi h.2 hx⟩
theorem yyw (h:VC len cuts dens):∀ (r i:Nat) (s:Int),i+r=dens.length→0≤s→s≤12*cuts.getD i 0→0≤totS cuts dens r i s∧totS cuts dens r i s≤12*len
 | 0,i,s,hi,h0,h1=>by
  have:=h.l1
  have:=h.hi (i:=i) (by omega)
  unfold totS
  omega
 | r+1,i,s,hi,h0,h1=>by
  unfold totS
  have l1:=h.l1
  have h2:=h.step (i:=i) (by omega)
  have h3:=yD9 (h.den (i:=i) (by omega)) (x:=cuts.getD (i+1) 0-cuts.getD i 0) (by omega)
  exact yyw h r (i+1) _ (by omega) (by omega) (by omega)
theorem yyx (h:VC len cuts dens):0≤totC cuts dens∧totC cuts dens≤12000:=by
 have l1:=h.l1
 have h0:=h.lo (i:=0) (by omega)
 have:=yyw h dens.length 0 0 (by omega) (by omega) (by omega)
 have h2:=h.len0
 unfold totC;omega
theorem yyy (h:VC len cuts dens) (W:Int→List PV→List PV→(Int→Prop)→Prop) (x0:Int→List PV→List PV→Int→List PV→Int→Int→Bool→Prop) :
  ∀ (r i n:Nat) (s:Int),i+r=dens.length→r<n→0≤s→s≤12*cuts.getD i 0 →
   yda W x0 n len (ints cuts) (ints dens) s (ints dens) dens.length i=x0 len (ints cuts) (ints dens) (totS cuts dens r i s) (ints dens) dens.length dens.length false
 | 0,i,n+1,s,hi,hn,h0,h1=>by
  unfold yda totS
  rw [cbF (by omega)]
  have:(i:Int)=dens.length:=by omega
  rw [this]
 | r+1,i,n+1,s,hi,hn,h0,h1=>by
  unfold yda
  have l1:=h.l1;have l2:=h.l2
  have h2:=h.step (i:=i) (by omega)
  have h3:=yD9 (h.den (i:=i) (by omega)) (x:=cuts.getD (i+1) 0-cuts.getD i 0) (by omega)
  have a1:=h.lo (i:=i) (by omega)
  have a2:=h.hi (i:=i+1) (by omega)
  have a3:=h.len0
  have e1:=wib (n:=(i:Int)+1) (by omega) (by omega)
  have e2:=wib (n:=cuts.getD (i+1) 0-cuts.getD i 0) (by omega) (by omega)
  have e3:=wib (n:=dens.getD i 0*(cuts.getD (i+1) 0-cuts.getD i 0)) (by omega) (by omega)
  have e4:=wib (n:=s+dens.getD i 0*(cuts.getD (i+1) 0-cuts.getD i 0)) (by omega) (by omega)
  rw [cbT (by omega),ybe,ybe,e1,yhn,qAe,qAe,asT (by omega),asT (by omega),asC (by omega),asT (by omega),asT (by omega),asC (by omega),asT (by omega),asT (by omega),asC (by omega),ybL (by omega),ybL (by omega),ybL (by omega),e2,e3,e4]
  exact yyy h W x0 r (i+1) n _ (by omega) (by omega) (by omega) (by omega)
theorem yHI (h1:cuts.length<4611686018427387904) (h2:dens.length<4611686018427387904) (K:Int→Int→Prop) :
  yek len (ints cuts) (ints dens) K=if ckC len cuts dens=0 then K (totC cuts dens) 0 else K 0 (ckC len cuts dens):=by
 by_cases h:ckC len cuts dens=0
 ·rw [if_pos h]
  refine yx5 _ _ _ _ _ (fun K k=>?_) K
  unfold yek yh5
  have hv:=yps h
  rw [ylW h1 h2,h,cnF rfl]
  refine ⟨dens.length+1,?_⟩
  have l1:=hv.l1
  have a1:=hv.lo (i:=0) (by omega)
  rw [ybe]
  have:=yyy hv yaZ (fun b c d a e f g j=>(K a (0:Int))) dens.length 0 (dens.length+1) 0 (by omega) (by omega) (by omega) (by omega)
  rw [show ((0:Nat):Int)=0 from rfl] at this
  rw [this]
  exact k
 ·rw [if_neg h]
  unfold yek yh5
  rw [ylW h1 h2,cnT h]
def exK (e:Except Int Rat) (K:Int→Int→Int→Prop):Prop:=match e with | .ok q=>K q.num q.den 0 | .error c=>K 0 0 c
def fit {α:Type} (q:Rat) (k:Rat→Except Int α):Except Int α:=if small q then k q else .error 16
def valS (cuts dens:List Int) (b:Rat):Nat→Nat→Rat→Rat→Except Int Rat
 | 0,_,_,sum=>.ok sum
 | r+1,i,p,sum =>
  let en:Rat:=if b<(cuts.getD (i+1) 0:Int) then b else (cuts.getD (i+1) 0:Int)
  if dens.getD i 0=0∨¬p<en then valS cuts dens b r (i+1) (if p<en then en else p) sum
  else fit (en-p) fun l=>fit (l*(dens.getD i 0:Int)) fun w=>fit (sum+w) fun s=>valS cuts dens b r (i+1) en s
def valC (cuts dens:List Int) (a b:Rat):Except Int Rat:=valS cuts dens b dens.length 0 a 0
theorem ycw {q:Rat} {K:Int→Int→Int→Prop}:fitK q K=if small q then K q.num q.den 0 else K 0 0 16:=rfl
theorem yyz (h:VC len cuts dens) {b:Rat} (hb:small b) (an ad:Int) (W1:Int→List PV→List PV→(Int→Prop)→Prop) (W2:Int→List PV→List PV→Int→Int→(Bool→Prop)→Prop) (K:Int→Int→Int→Prop) :
  ∀ (r i n:Nat) (p sum:Rat),i+r=dens.length→r<n→small p→small sum →
   ya6 W1 W2 ybX ybP yaD ybh ybx (fun a d e=>(K a d e)) (fun j k l m o q s f g t u v w x y=>(K f g (0:Int)))
    n len (ints cuts) (ints dens) b.num b.den an ad sum.num sum.den p.num p.den (ints dens) dens.length i=exK (valS cuts dens b r i p sum) K
 | 0,i,n+1,p,sum,hi,hn,hp,hs=>by
  unfold ya6 valS
  rw [cbF (by omega)];rfl
 | r+1,i,n+1,p,sum,hi,hn,hp,hs=>by
  unfold ya6
  have l1:=h.l1;have l2:=h.l2
  have sc:=h.sc (i:=i+1) (by omega)
  have sd:=h.sd (i:=i) (by omega)
  have e1:=wib (n:=(i:Int)+1) (by omega) (by omega)
  rw [cbT (by omega),ybe,ybe,e1,yhn,qAe,qAe,asT (by omega),asT (by omega),asC (by omega),asT (by omega),asT (by omega),asC (by omega),ybL (by omega),ybL (by omega),yho,yfl hb sc]
  have ih:=fun p sum hp hs=>yyz h hb an ad W1 W2 K r (i+1) n p sum (by omega) (by omega) hp hs
  unfold valS
  by_cases hbc:b<((cuts.getD (i+1) 0:Int):Rat)
  ·rw [cbT hbc]
   simp only [if_pos hbc]
   by_cases hd:dens.getD i 0=0
   ·rw [ceT hd,if_pos (.inl hd),yfl hp hb]
    by_cases hpb:p<b
    ·rw [cbT hpb,if_pos hpb];exact ih b sum hb hs
    ·rw [cbF hpb,if_neg hpb];exact ih p sum hp hs
   ·rw [ceF hd,yfl hp hb]
    by_cases hpb:p<b
    ·have hc:¬(dens.getD i 0=0∨¬p<b):=by simp [hpb];exact hd
     rw [if_neg hc,decide_eq_true hpb,qA2,yae,ynd hb hp,ycw]
     by_cases s1:small (b-p)
     ·rw [if_pos s1,cnF rfl,yho,ytS s1 sd,ycw,fit,if_pos s1]
      by_cases s2:small ((b-p)*(dens.getD i 0:Int))
      ·rw [if_pos s2,cnF rfl,yCk hs s2,ycw,fit,if_pos s2]
       by_cases s3:small (sum+(b-p)*(dens.getD i 0:Int))
       ·rw [if_pos s3,cnF rfl,fit,if_pos s3];exact ih b _ hb s3
       ·rw [if_neg s3,cnT (by decide),fit,if_neg s3];rfl
      ·rw [if_neg s2,cnT (by decide),fit,if_neg s2];rfl
     ·rw [if_neg s1,cnT (by decide),fit,if_neg s1];rfl
    ·rw [if_pos (.inr hpb),decide_eq_false hpb,qBn,yam,yfl hp hb,cbF hpb,if_neg hpb];exact ih p sum hp hs
  ·rw [cbF hbc]
   simp only [if_neg hbc]
   obtain ⟨c,hc⟩:∃ c:Rat,c=((cuts.getD (i+1) 0:Int):Rat):=⟨_,rfl⟩
   rw [← hc] at sc ⊢
   by_cases hd:dens.getD i 0=0
   ·rw [ceT hd,if_pos (.inl hd),yfl hp sc]
    by_cases hpb:p<c
    ·rw [cbT hpb,if_pos hpb];exact ih c sum sc hs
    ·rw [cbF hpb,if_neg hpb];exact ih p sum hp hs
   ·rw [ceF hd,yfl hp sc]
    by_cases hpb:p<c
    ·have hcc:¬(dens.getD i 0=0∨¬p<c):=by simp [hpb];exact hd
     rw [if_neg hcc,decide_eq_true hpb,qA2,yae,ynd sc hp,ycw]
     by_cases s1:small (c-p)
     ·rw [if_pos s1,cnF rfl,yho,ytS s1 sd,ycw,fit,if_pos s1]
      by_cases s2:small ((c-p)*(dens.getD i 0:Int))
      ·rw [if_pos s2,cnF rfl,yCk hs s2,ycw,fit,if_pos s2]
       by_cases s3:small (sum+(c-p)*(dens.getD i 0:Int))
       ·rw [if_pos s3,cnF rfl,fit,if_pos s3];exact ih c _ sc s3
       ·rw [if_neg s3,cnT (by decide),fit,if_neg s3];rfl
      ·rw [if_neg s2,cnT (by decide),fit,if_neg s2];rfl
     ·rw [if_neg s1,cnT (by decide),fit,if_neg s1];rfl
    ·rw [if_pos (.inr hpb),decide_eq_false hpb,qBn,yam,yfl hp sc,cbF hpb,if_neg hpb];exact ih p sum hp hs
end
def rt (n d:Int):Rat:=mkRat n d.toNat
theorem yeQ (q:Rat):rt q.num q.den=q:=by unfold rt;rw [qAe,Rat.mkRat_self]
theorem yjU {n d:Int} (h:RV n d):small (rt n d)∧(rt n d).num=n∧((rt n d).den:Int)=d:=by
 obtain ⟨q,h1,h2,h3⟩:=yCh h
 subst h2 h3
 rw [yeQ];exact ⟨h1,rfl,rfl⟩
theorem PT.pt {len n d:Int} (h:PT len n d):small (rt n d)∧(rt n d).num=n∧((rt n d).den:Int)=d∧0≤rt n d∧rt n d≤(len:Rat):=by
 obtain ⟨q,h1,h2,h3,h4,h5⟩:=yLo h
 subst h2 h3
 rw [yeQ];exact ⟨h1,rfl,rfl,h4,h5⟩
theorem yEa {len:Int} {q:Rat} (h:small q) (h0:0≤q) (h1:q≤(len:Rat)):PT len q.num q.den:=by
 refine ⟨h.rv,Rat.num_nonneg.2 h0,?_⟩
 rw [Rat.le_iff,Rat.num_intCast,Rat.den_intCast] at h1
 simpa using h1
section
variable {len:Int} {cuts dens:List Int}
def valR (len:Int) (cuts dens:List Int) (an ad bn bd:Int):Except Int Rat :=
 if ckC len cuts dens=0 then (if PT len an ad∧PT len bn bd∧¬rt bn bd<rt an ad then valC cuts dens (rt an ad) (rt bn bd) else .error 2) else .error (ckC len cuts dens)
theorem yFA {w:(Int→Int→Int→Prop)→Prop} {e:Except Int Rat} (det:∀ r0 r1 r2,(∀ K:Int→Int→Int→Prop,K r0 r1 r2→w K)→∀ K,w K=K r0 r1 r2) (h:∀ K,exK e K→w K) (K:Int→Int→Int→Prop):w K=exK e K:=by
 cases e with
 | ok q=>exact det _ _ _ h K
 | error c=>exact det _ _ _ h K
theorem yHJ (h1:cuts.length<4611686018427387904) (h2:dens.length<4611686018427387904) {an ad bn bd:Int} (ha:I64 an) (ha':I64 ad) (hb:I64 bn) (hb':I64 bd) (K:Int→Int→Int→Prop) :
  yfx len (ints cuts) (ints dens) an ad bn bd K=exK (valR len cuts dens an ad bn bd) K:=by
 refine yFA (fun r0 r1 r2 h K=>yx6 _ _ _ _ _ _ _ r0 r1 r2 h K) (fun K k=>?_) K
 unfold yfx ykY
 rw [ylW h1 h2]
 unfold valR at k
 by_cases h:ckC len cuts dens=0
 case neg=>rw [cnT h];rw [if_neg h] at k;exact k
 have hv:=yps h
 have hl:=hv.len0
 rw [if_pos h] at k
 rw [cnF h,yyv (by omega) ha ha']
 by_cases p1:PT len an ad
 case neg=>rw [decide_eq_false p1,qBn,yam];rw [if_neg (fun x=>p1 x.1)] at k;exact k
 rw [decide_eq_true p1,qA2,yae,yyv (by omega) hb hb']
 by_cases p2:PT len bn bd
 case neg=>rw [decide_eq_false p2,qBn,yam];rw [if_neg (fun x=>p2 x.2.1)] at k;exact k
 rw [decide_eq_true p2,qA2,yae]
 obtain ⟨s1,e1,e2,_,_⟩:=p1.pt
 obtain ⟨s2,f1,f2,_,_⟩:=p2.pt
 have hless:=yfl s2 s1
 rw [e1,e2,f1,f2] at hless
 rw [hless]
 by_cases p3:rt bn bd<rt an ad
 ·rw [cbT p3];rw [if_neg (fun x=>x.2.2 p3)] at k;exact k
 rw [cbF p3]
 rw [if_pos ⟨p1,p2,p3⟩] at k
 rw [yho,ybe]
 refine ⟨dens.length+1,?_⟩
 have:=yyz hv s2 0 0 yaZ ybR K dens.length 0 (dens.length+1) (rt an ad) 0 (by omega) (by omega) s1 (by decide)
 rw [e1,e2,f1,f2] at this
 exact this.mpr k
def mrkS (cuts dens:List Int):Nat→Nat→Rat→Rat→Except Int Rat
 | 0,_,_,_=>.error 6
 | r+1,i,p,v =>
  if ¬p<(cuts.getD (i+1) 0:Int) then mrkS cuts dens r (i+1) p v
  else if dens.getD i 0=0 then mrkS cuts dens r (i+1) (cuts.getD (i+1) 0:Int) v
  else fit ((cuts.getD (i+1) 0:Int)-p) fun l=>fit (l*(dens.getD i 0:Int)) fun w =>
   if w<v then fit (v-w) fun v'=>mrkS cuts dens r (i+1) (cuts.getD (i+1) 0:Int) v'
   else fit (v / (dens.getD i 0:Int)) fun s=>fit (p+s) .ok
def mrkC (cuts dens:List Int) (a v:Rat):Except Int Rat:=if v=0 then .ok a else mrkS cuts dens dens.length 0 a v
def mrkR (len:Int) (cuts dens:List Int) (an ad vn vd:Int):Except Int Rat :=
 if ckC len cuts dens=0 then (if PT len an ad∧RV vn vd∧0≤vn then mrkC cuts dens (rt an ad) (rt vn vd) else .error 2) else .error (ckC len cuts dens)
theorem yAj (h:VC len cuts dens) (W1:Int→List PV→List PV→(Int→Prop)→Prop) (W2:Int→List PV→List PV→Int→Int→(Bool→Prop)→Prop) (W3:Int→Int→(Int→Prop)→Prop) (K:Int→Int→Int→Prop) :
  ∀ (r i n:Nat) (p v:Rat) (o1 o2:Int),i+r=dens.length→r<n→small p→small v →
   ybo W1 W2 W3 ybP ybX yaD ybh ycD ybx
    (fun l m b d f a=>(cbr (a !=(0:Int)) (cbr (a !=(0:Int)) (K (0:Int) (0:Int) a) (K b d (0:Int))) (cbr (f !=(0:Int)) (K (0:Int) (0:Int) f) (K b d (0:Int)))))
    (fun o q j k g s t u w y z A B C=>(cbr (g !=(0:Int)) (K (0:Int) (0:Int) g) (K j k (0:Int))))
    n v.num v.den o1 o2 6 len (ints cuts) (ints dens) p.num p.den (ints dens) dens.length i=exK (mrkS cuts dens r i p v) K
 | 0,i,n+1,p,v,o1,o2,hi,hn,hp,hs=>by
  unfold ybo mrkS
  rw [cbF (by omega)];rfl
 | r+1,i,n+1,p,v,o1,o2,hi,hn,hp,hs=>by
  unfold ybo
  have l1:=h.l1;have l2:=h.l2
  have sc:=h.sc (i:=i+1) (by omega)
  have sd:=h.sd (i:=i) (by omega)
  have hd0:=h.den (i:=i) (by omega)
  have e1:=wib (n:=(i:Int)+1) (by omega) (by omega)
  rw [cbT (by omega),ybe,ybe,e1,yhn,qAe,qAe,asT (by omega),asT (by omega),asC (by omega),asT (by omega),asT (by omega),asC (by omega),ybL (by omega),ybL (by omega),yho,yfl hp sc]
  have ih:=fun p v o1 o2 hp hs=>yAj h W1 W2 W3 K r (i+1) n p v o1 o2 (by omega) (by omega) hp hs
  unfold mrkS
  obtain ⟨c,hc⟩:∃ c:Rat,c=((cuts.getD (i+1) 0:Int):Rat):=⟨_,rfl⟩
  rw [← hc] at sc ⊢
  by_cases hpc:p<c
  case neg=>rw [decide_eq_false hpc,qBn,yam,if_pos hpc];exact ih p v o1 o2 hp hs
  rw [decide_eq_true hpc,qA2,yae,if_neg (fun x=>x hpc),yho]
  by_cases hd:dens.getD i 0=0
  ·rw [cbF (by omega),ceT hd,if_pos hd];exact ih c v o1 o2 sc hs
  rw [cbT (by omega),if_neg hd,ynd sc hp,ycw]
  by_cases s1:small (c-p)
  case neg=>rw [if_neg s1,cnT (by decide),cnT (by decide),cnT (by decide),fit,if_neg s1];rfl
  rw [if_pos s1,cnF rfl,yho,ytS s1 sd,ycw,fit,if_pos s1]
  by_cases s2:small ((c-p)*(dens.getD i 0:Int))
  case neg=>rw [if_neg s2,cnT (by decide),cnT (by decide),cnT (by decide),fit,if_neg s2];rfl
  rw [if_pos s2,cnF rfl,ceF hd,yfl s2 hs,fit,if_pos s2]
  by_cases hw:(c-p)*(dens.getD i 0:Int)<v
  ·rw [cbT hw,if_pos hw,ynd hs s2,ycw,fit]
   by_cases s3:small (v-(c-p)*(dens.getD i 0:Int))
   ·rw [if_pos s3,if_pos s3,cnF rfl,cnF rfl];exact ih c _ o1 o2 sc s3
   ·rw [if_neg s3,if_neg s3,cnT (by decide),cnT (by decide),cnF rfl,cnT (by decide)];rfl
  ·have hdn:((dens.getD i 0:Int):Rat)≠0:=fun e=>hd (Rat.intCast_eq_zero_iff.1 e)
   rw [cbF hw,if_neg hw,yho,yKe hs sd hdn,ycw,fit]
   by_cases s3:small (v / (dens.getD i 0:Int))
   ·rw [if_pos s3,if_pos s3,ceT rfl,yCk hp s3,ycw,fit]
    by_cases s4:small (p+v / (dens.getD i 0:Int))
    ·rw [if_pos s4,if_pos s4,cnF rfl,cnF rfl];rfl
    ·rw [if_neg s4,if_neg s4,cnF rfl,cnT (by decide)];rfl
   ·rw [if_neg s3,if_neg s3,ceF (by decide),cnF rfl,cnT (by decide)];rfl
theorem yI7 (h1:cuts.length<4611686018427387904) (h2:dens.length<4611686018427387904) {an ad vn vd:Int} (ha:I64 an) (ha':I64 ad) (hv:I64 vn) (hv':I64 vd) (K:Int→Int→Int→Prop) :
  ygB len (ints cuts) (ints dens) an ad vn vd K=exK (mrkR len cuts dens an ad vn vd) K:=by
 refine yFA (fun r0 r1 r2 h K=>yzi _ _ _ _ _ _ _ r0 r1 r2 h K) (fun K k=>?_) K
 unfold ygB ymB
 rw [ylW h1 h2]
 unfold mrkR at k
 by_cases h:ckC len cuts dens=0
 case neg=>rw [cnT h];rw [if_neg h] at k;exact k
 have hc:=yps h
 have hl:=hc.len0
 rw [if_pos h] at k
 rw [cnF h,yyv (by omega) ha ha']
 by_cases p1:PT len an ad
 case neg=>rw [decide_eq_false p1,qBn,yam];rw [if_neg (fun x=>p1 x.1)] at k;exact k
 rw [decide_eq_true p1,qA2,yae,yAg hv hv',chk]
 by_cases p2:RV vn vd
 case neg=>rw [if_neg p2,cnT (by decide)];rw [if_neg (fun x=>p2 x.2.1)] at k;exact k
 rw [if_pos p2,cnF rfl]
 by_cases p3:vn<0
 ·rw [cbT p3];rw [if_neg (fun x=>by omega)] at k;exact k
 rw [cbF p3]
 rw [if_pos ⟨p1,p2,by omega⟩] at k
 obtain ⟨s1,e1,e2,_,_⟩:=p1.pt
 obtain ⟨s2,f1,f2⟩:=yjU p2
 unfold mrkC at k
 by_cases p4:vn=0
 ·rw [ceT p4]
  rw [if_pos (Rat.num_eq_zero.1 (f1.trans p4))] at k
  have k:K (rt an ad).num (rt an ad).den 0:=k
  rw [e1,e2] at k
  exact k
 rw [ceF p4]
 rw [if_neg (fun x=>p4 (by rw [← f1,x];rfl))] at k
 rw [ybe]
 refine ⟨dens.length+1,?_⟩
 have:=yAj hc yaZ ybR ybu K dens.length 0 (dens.length+1) (rt an ad) (rt vn vd) 0 0 (by omega) (by omega) s1 s2
 rw [e1,e2,f1,f2] at this
 exact this.mpr k
def okD (cuts dens:List Int) (i:Nat):Prop:=∀ j,i≤j→j<dens.length→cuts.getD j 0<cuts.getD (j+1) 0∧0≤dens.getD j 0∧dens.getD j 0≤12
theorem ypt (l1:dens.length+1=cuts.length) (l2:dens.length<4611686018427387904) (x0:Int→Prop) (x1:Int→List PV→List PV→Bool→Int→Bool→Prop) (P:Prop)
  (hbad:¬okD cuts dens 0→x0 8=P) (hgood:∀ b:Bool,okD cuts dens 0→b=decide (∃ j,j<dens.length∧0<dens.getD j 0)→x1 len (ints cuts) (ints dens) b dens.length false=P) :
  ∀ (r i n:Nat) (b:Bool),i+r=dens.length→r<n→(∀ j,j<i→cuts.getD j 0<cuts.getD (j+1) 0∧0≤dens.getD j 0∧dens.getD j 0≤12)→b=decide (∃ j,j<i∧0<dens.getD j 0) →
   ycQ x0 x1 n len (ints cuts) (ints dens) b i=P
 | 0,i,n+1,b,hi,hn,hj,hb=>by
  unfold ycQ
  rw [ybe,cbF (by omega),show (i:Int)=dens.length by omega]
  refine hgood b (fun j _ h=>hj j (by omega)) ?_
  rw [hb,decide_eq_decide]
  rw [show i=dens.length by omega]
 | r+1,i,n+1,b,hi,hn,hj,hb=>by
  unfold ycQ
  have e1:=wib (n:=(i:Int)+1) (by omega) (by omega)
  rw [ybe,ybe,cbT (by omega),e1,yhn,qAe,qAe,asT (by omega),asT (by omega),asC (by omega),asT (by omega),asT (by omega),asC (by omega),ybL (by omega),ybL (by omega)]
  have bad:¬(cuts.getD i 0<cuts.getD (i+1) 0∧0≤dens.getD i 0∧dens.getD i 0≤12)→x0 8=P:=fun h=>hbad fun hk=>h (hk i (by omega) (by omega))
  by_cases a1:cuts.getD (i+1) 0≤cuts.getD i 0
  ·rw [cbT a1];exact bad (by omega)
  rw [cbF a1,asT (by omega),asT (by omega),asC (by omega),ybL (by omega)]
  by_cases a2:dens.getD i 0<0
  ·rw [cbT a2];exact bad (by omega)
  rw [cbF a2,asT (by omega),asT (by omega),asC (by omega)]
  by_cases a3:dens.getD i 0>12
  ·rw [cbT a3];exact bad (by omega)
  rw [cbF a3]
  have hj2:∀ j,j<i+1→cuts.getD j 0<cuts.getD (j+1) 0∧0≤dens.getD j 0∧dens.getD j 0≤12:=by
   intro j hlt
   by_cases e:j=i
   ·subst e;omega
   ·exact hj j (by omega)
  have ex:∀ c:Bool,(c=true↔(b=true∨0<dens.getD i 0))→c=decide (∃ j,j<i+1∧0<dens.getD j 0):=by
   intro c hc
   rw [Bool.eq_iff_iff,hc,hb,decide_eq_true_iff,decide_eq_true_iff]
   constructor
   ·rintro (⟨j,h1,h2⟩ | h)
    ·exact ⟨j,by omega,h2⟩
    ·exact ⟨i,by omega,h⟩
   ·rintro ⟨j,h1,h2⟩
    by_cases e:j=i
    ·subst e;exact .inr h2
    ·exact .inl ⟨j,by omega,h2⟩
  cases b with
  | true =>
   rw [yam]
   exact ypt l1 l2 x0 x1 P hbad hgood r (i+1) n true (by omega) (by omega) hj2 (ex _ (by simp))
  | false =>
   rw [yae,asT (by omega),asT (by omega),asC (by omega)]
   exact ypt l1 l2 x0 x1 P hbad hgood r (i+1) n _ (by omega) (by omega) hj2 (ex _ (by simp))
theorem ypX (h1:cuts.length<4611686018427387904) (h2:dens.length<4611686018427387904) (K:Int→Prop) :
  ybz len (ints cuts) (ints dens) K=K (ckC len cuts dens):=by
 refine yzv _ _ _ _ (fun K k=>?_) K
 unfold ybz ymS
 simp only [ybe]
 have bad:¬(len>1000∨cuts.length>40)→¬VC len cuts dens→K 8:=fun h h2=>by
  rw [ckC,if_neg h,if_neg h2] at k;exact k
 by_cases a1:len>1000
 ·rw [cbT a1];rw [ckC,if_pos (.inl a1)] at k;exact k
 rw [cbF a1]
 by_cases a2:cuts.length>40
 ·rw [cbT (by omega)];rw [ckC,if_pos (.inr a2)] at k;exact k
 have a12:¬(len>1000∨cuts.length>40):=by omega
 rw [cbF (by omega)]
 by_cases a3:len<1
 ·rw [cbT a3];exact bad a12 (fun h=>by have:=h.1;omega)
 rw [cbF a3]
 by_cases a4:cuts.length<2
 ·rw [cbT (by omega)];exact bad a12 (fun h=>by have:=h.2.2.1;omega)
 rw [cbF (by omega),wib (n:=(cuts.length:Int)-1) (by omega) (by omega)]
 by_cases a5:dens.length+1=cuts.length
 case neg=>rw [cnT (by omega)];exact bad a12 (fun h=>a5 h.2.2.2.2.1)
 rw [cnF (by omega),asT (by omega),asC (by omega),ybL (by omega)]
 by_cases a6:cuts.getD 0 0=0
 case neg=>rw [cnT a6];exact bad a12 (fun h=>a6 h.2.2.2.2.2.1)
 rw [cnF a6,asT (by omega),asT (by omega),asC (by omega),ybL (by omega)]
 have en:((cuts.length:Int)-1).toNat=cuts.length-1:=by omega
 rw [en]
 by_cases a7:cuts.getD (cuts.length-1) 0=len
 case neg=>rw [cnT a7];exact bad a12 (fun h=>a7 h.2.2.2.2.2.2.1)
 rw [cnF a7]
 have mem:∀ d,d∈dens↔∃ j,j<dens.length∧dens.getD j 0=d:=by
  intro d
  rw [List.mem_iff_getElem]
  constructor
  ·rintro ⟨j,hj,e⟩;exact ⟨j,hj,by rw [qAb,qAd hj];exact e⟩
  ·rintro ⟨j,hj,e⟩;exact ⟨j,hj,by rw [qAb,qAd hj] at e;exact e⟩
 refine ⟨dens.length+1,?_⟩
 refine (ypt a5 h2 _ _ (K (ckC len cuts dens)) (fun hk=>?_) (fun b hk hb=>?_) dens.length 0 (dens.length+1) false (by omega) (by omega) (fun j h=>by omega) (by simp)).mpr k
 ·have hv:¬VC len cuts dens:=fun h=>hk fun j _ hj=>⟨h.step (by omega),h.den hj⟩
  rw [ckC,if_neg a12,if_neg hv]
 ·have hsome:yyt dens↔∃ j,j<dens.length∧0<dens.getD j 0:=by
   constructor
   ·rintro ⟨d,hd,h0⟩
    obtain ⟨j,hj,e⟩:=(mem d).1 hd
    exact ⟨j,hj,by rw [e];exact h0⟩
   ·rintro ⟨j,hj,h0⟩;exact ⟨_,(mem _).2 ⟨j,hj,rfl⟩,h0⟩
  have hv:VC len cuts dens↔yyt dens:=by
   refine ⟨fun h=>h.2.2.2.2.2.2.2.2.2,fun h=>⟨by omega,by omega,by omega,by omega,a5,a6,a7,fun j _ hj=>(hk j (by omega) (by omega)).1,fun d hd=>?_,h⟩⟩
   obtain ⟨j,hj,e⟩:=(mem d).1 hd
   rw [← e];exact (hk j (by omega) hj).2
  rw [ckC,if_neg a12]
  by_cases hs:yyt dens
  ·rw [if_pos (hv.2 hs),hb,decide_eq_true (hsome.1 hs)];rfl
  ·rw [if_neg (fun x=>hs (hv.1 x)),hb,decide_eq_false (fun x=>hs (hsome.2 x))];rfl
theorem yyA (h:VC len cuts dens) (x0:Int→List PV→List PV→Int→Int→Bool→Prop) :
  ∀ (r i n:Nat) (s:Int),i+r=dens.length→r<n→0≤s→s≤12*cuts.getD i 0 →
   ydq x0 n len (ints cuts) (ints dens) s i=x0 len (ints cuts) (ints dens) (totS cuts dens r i s) dens.length false
 | 0,i,n+1,s,hi,hn,h0,h1=>by
  unfold ydq totS
  have:(i:Int)=dens.length:=by omega
  rw [ybe,cbF (by omega),this]
 | r+1,i,n+1,s,hi,hn,h0,h1=>by
  unfold ydq
  have l1:=h.l1;have l2:=h.l2
  have h2:=h.step (i:=i) (by omega)
  have h3:=yD9 (h.den (i:=i) (by omega)) (x:=cuts.getD (i+1) 0-cuts.getD i 0) (by omega)
  have a1:=h.lo (i:=i) (by omega)
  have a2:=h.hi (i:=i+1) (by omega)
  have a3:=h.len0
  have e1:=wib (n:=(i:Int)+1) (by omega) (by omega)
  have e2:=wib (n:=cuts.getD (i+1) 0-cuts.getD i 0) (by omega) (by omega)
  have e3:=wib (n:=dens.getD i 0*(cuts.getD (i+1) 0-cuts.getD i 0)) (by omega) (by omega)
  have e4:=wib (n:=s+dens.getD i 0*(cuts.getD (i+1) 0-cuts.getD i 0)) (by omega) (by omega)
  rw [ybe,ybe,cbT (by omega),e1,yhn,qAe,qAe,asT (by omega),asT (by omega),asC (by omega),asT (by omega),asT (by omega),asC (by omega),asT (by omega),asT (by omega),asC (by omega),ybL (by omega),ybL (by omega),ybL (by omega),e2,e3,e4]
  exact yyA h x0 r (i+1) n _ (by omega) (by omega) (by omega) (by omega)
theorem yHK (hv:VC len cuts dens) (K:Int→Prop):yaY len (ints cuts) (ints dens) K=K (totC cuts dens):=by
 refine yzw _ _ _ _ (fun K k=>?_) K
 unfold yaY ymV
 refine ⟨dens.length+1,?_⟩
 have l1:=hv.l1
 have a1:=hv.lo (i:=0) (by omega)
 have:=yyA hv (fun b c d a e f=>K a) dens.length 0 (dens.length+1) 0 (by omega) (by omega) (by omega) (by omega)
 rw [show ((0:Nat):Int)=0 from rfl] at this
 rw [this]
 exact k
theorem yAk (hl:-1000000000000000000≤len∧len≤1000000000000000000) {n d:Int} (hn:I64 n) (hd:I64 d) (K:Bool→Prop) :
  yfe len n d K=K (decide (PT len n d)):=by
 unfold yfe ymX
 rw [ylV hn hd]
 by_cases h:RV n d
 ·obtain ⟨q,e1,e2,e3⟩:=yCh h
  rw [chk,if_pos h,ceT rfl]
  by_cases h0:n≥0
  ·rw [cbT h0,yCp,← e2,← e3,yd0 (ypW hl) e1]
   congr 1
   have:((len:Rat)<q)↔len*(q.den:Int)<q.num:=yyu _ _
   by_cases h3:(len:Rat)<q
   ·have h4:=this.1 h3
    rw [decide_eq_true h3,decide_eq_false];rfl
    intro hp;have:=hp.2.2;omega
   ·have h4:¬_:=fun x=>h3 (this.2 x)
    rw [decide_eq_false h3,decide_eq_true];rfl
    exact ⟨e1.rv,by omega,by omega⟩
  ·rw [cbF h0,decide_eq_false]
   intro hp;have:=hp.2.1;omega
 ·rw [chk,if_neg h,ceF (by decide),decide_eq_false]
  intro hp;exact h hp.1
def mxQ (a b:Rat):Rat:=if a<b then b else a
def mnQ (a b:Rat):Rat:=if a<b then a else b
theorem yHL {q r:Rat} (hq:small q) (hr:small r) (K:Int→Int→Prop):ykC q.num q.den r.num r.den K=K (mxQ q r).num (mxQ q r).den:=by
 unfold ykC ymY mxQ
 rw [yd0 hq hr]
 by_cases h:q<r
 ·rw [cbT h,if_pos h]
 ·rw [cbF h,if_neg h]
theorem yFB {q r:Rat} (hq:small q) (hr:small r) (K:Int→Int→Prop):yiW q.num q.den r.num r.den K=K (mnQ q r).num (mnQ q r).den:=by
 unfold yiW yk6 mnQ
 rw [yd0 hq hr]
 by_cases h:q<r
 ·rw [cbT h,if_pos h]
 ·rw [cbF h,if_neg h]
theorem yI8 {q r:Rat} (hq:small q) (hr:small r):small (mxQ q r):=by unfold mxQ;split <;> assumption
theorem yI9 {q r:Rat} (hq:small q) (hr:small r):small (mnQ q r):=by unfold mnQ;split <;> assumption
def worS (cuts dens:List Int) (i:Nat) (a b:Rat):Except Int Rat :=
 let f:=mxQ a (cuts.getD i 0:Int)
 let t:=mnQ b (cuts.getD (i+1) 0:Int)
 if ¬f<t∨dens.getD i 0=0 then .ok 0 else fit (t-f) fun d=>fit (d*(dens.getD i 0:Int)) .ok
theorem yHM (h:VC len cuts dens) {i:Nat} (hi:i<dens.length) {a b:Rat} (ha:small a) (hb:small b) (K:Int→Int→Int→Prop) :
  yff len (ints cuts) (ints dens) i a.num a.den b.num b.den K=exK (worS cuts dens i a b) K:=by
 unfold yff ymZ worS
 have l1:=h.l1;have l2:=h.l2
 have sc:=h.sc (i:=i+1) (by omega)
 have sc0:=h.sc (i:=i) (by omega)
 have sd:=h.sd (i:=i) (by omega)
 have e1:=wib (n:=(i:Int)+1) (by omega) (by omega)
 rw [ybe,ybe,e1,yhn,qAe,qAe,asT (by omega),asT (by omega),asC (by omega),ybL (by omega),yCp,yHL ha sc0,asT (by omega),asT (by omega),asC (by omega),ybL (by omega),yCp,yFB hb sc]
 have s1:=yI8 ha sc0
 have s2:=yI9 hb sc
 rw [yd0 s1 s2]
 by_cases c1:mxQ a (cuts.getD i 0:Int)<mnQ b (cuts.getD (i+1) 0:Int)
 case neg =>
  rw [decide_eq_false c1,qBn,yam]
  simp only [c1,not_false_eq_true,true_or,if_true];rfl
 rw [decide_eq_true c1,qA2,yae,asT (by omega),asT (by omega),asC (by omega),ybL (by omega)]
 by_cases c2:dens.getD i 0=0
 ·rw [ceT c2]
  simp only [c2,or_true,if_true];rfl
 rw [ceF c2,yKj s2 s1,ycw]
 have cc:¬(¬mxQ a (cuts.getD i 0:Int)<mnQ b (cuts.getD (i+1) 0:Int)∨dens.getD i 0=0):=fun x=>x.elim (fun y=>y c1) c2
 simp only [if_neg cc,fit]
 by_cases s3:small (mnQ b (cuts.getD (i+1) 0:Int)-mxQ a (cuts.getD i 0:Int))
 ·rw [if_pos s3,if_pos s3,cnF rfl,asT (by omega),asT (by omega),asC (by omega),yCp,yKk s3 sd,ycw]
  split <;> rfl
 ·rw [if_neg s3,if_neg s3,cnT (by decide)];rfl
theorem ygq {α:Type} {q:Rat} {k:Rat→Except Int α} (h:small q):fit q k=k q:=if_pos h
theorem yyB {α:Type} {q:Rat} {k:Rat→Except Int α} (h:¬small q):fit q k=.error 16:=if_neg h
theorem yyC {q:Rat} {K:Int→Int→Int→Prop}:exK (.ok q) K=K q.num q.den 0:=rfl
theorem yCq {c:Int} {K:Int→Int→Int→Prop}:exK (.error c) K=K 0 0 c:=rfl
theorem add_zero (q:Rat):q+0=q:=by grind
theorem yvU (h:VC len cuts dens) {a b:Rat} (ha:small a) (hb:small b) (hab:¬b<a) (W1:Int→List PV→List PV→(Int→Prop)→Prop) (W2:Int→Int→Int→(Bool→Prop)→Prop) (W3:Int→Int→Int→Int→(Bool→Prop)→Prop) (K:Int→Int→Int→Prop) :
  ∀ (r i n:Nat) (p sum:Rat),i+r=dens.length→r<n→small sum→p=mxQ a (mnQ b (cuts.getD i 0:Int)) →
   ydr W1 W2 W3 yff ygF (fun e f g=>(K e f g)) (fun l m o q s t u v w j k z A=>(K j k (0:Int)))
    n len (ints cuts) (ints dens) a.num a.den b.num b.den 0 0 sum.num sum.den i=exK (valS cuts dens b r i p sum) K
 | 0,i,n+1,p,sum,hi,hn,hs,hp=>by
  unfold ydr valS
  rw [ybe,cbF (by omega)];rfl
 | r+1,i,n+1,p,sum,hi,hn,hs,hp=>by
  unfold ydr
  have l1:=h.l1;have l2:=h.l2
  have e1:=wib (n:=(i:Int)+1) (by omega) (by omega)
  have hst:=h.step (i:=i) (by omega)
  have hst':((cuts.getD i 0:Int):Rat)<((cuts.getD (i+1) 0:Int):Rat):=Rat.intCast_lt_intCast.2 hst
  have sd:=h.sd (i:=i) (by omega)
  have sc:=h.sc (i:=i+1) (by omega)
  have sc0:=h.sc (i:=i) (by omega)
  rw [ybe,cbT (by omega),yHM h (by omega) ha hb,e1,yhn]
  have ih:=fun p sum hs hp=>yvU h ha hb hab W1 W2 W3 K r (i+1) n p sum (by omega) (by omega) hs hp
  unfold valS worS
  obtain ⟨c0,hc0⟩:∃ c:Rat,c=((cuts.getD i 0:Int):Rat):=⟨_,rfl⟩
  obtain ⟨c,hc⟩:∃ c:Rat,c=((cuts.getD (i+1) 0:Int):Rat):=⟨_,rfl⟩
  obtain ⟨d,hd⟩:∃ d:Rat,d=((dens.getD i 0:Int):Rat):=⟨_,rfl⟩
  rw [← hc0,← hc] at hst'
  rw [← hc] at sc
  rw [← hc0] at sc0 hp
  rw [← hd] at sd
  rw [← hc] at ih
  simp only [← hc0,← hc,← hd]
  have zk:∀ K2:Int→Int→Int→Prop,fitK (sum+0) K2=K2 sum.num sum.den 0:=fun K2=>by rw [add_zero,ycw,if_pos hs]
  have en:(if b<c then b else c)=mnQ b c:=rfl
  rw [en]
  have nx:(if p<mnQ b c then mnQ b c else p)=mxQ a (mnQ b c):=by
   rw [hp];unfold mxQ mnQ
   grind
  have add0:=yCo hs (r:=0) (by decide)
  rw [show (0:Rat).num=0 from rfl,show ((0:Rat).den:Int)=1 from rfl] at add0
  by_cases c2:dens.getD i 0=0
  ·rw [if_pos (.inr c2),if_pos (.inl c2),nx]
   rw [yyC,cnF rfl]
   rw [show ((0:Rat).num)=0 from rfl,show (((0:Rat).den:Nat):Int)=1 from rfl,add0,zk,cnF rfl]
   exact ih _ sum hs rfl
  by_cases c1:mxQ a c0<mnQ b c
  ·-- the interval counts
   have hpm:p=mxQ a c0:=by
    rw [hp];unfold mxQ mnQ at *
    grind
   have hpl:p<mnQ b c:=by rw [hpm];exact c1
   rw [if_neg (fun x=>x.elim (fun y=>y c1) c2),if_neg (fun x=>x.elim c2 (fun y=>y hpl)),← hpm]
   have nx2:mnQ b c=mxQ a (mnQ b c):=by rw [← nx,if_pos hpl]
   by_cases s1:small (mnQ b c-p)
   case neg=>rw [yyB s1,yyB s1,yCq,cnT (by decide)];rfl
   rw [ygq s1,ygq s1]
   by_cases s2:small ((mnQ b c-p)*d)
   case neg=>rw [yyB s2,yyB s2,yCq,cnT (by decide)];rfl
   rw [ygq s2,ygq s2,yyC]
   rw [cnF rfl,yCo hs s2,ycw]
   by_cases s3:small (sum+(mnQ b c-p)*d)
   ·rw [if_pos s3,ygq s3,cnF rfl]
    exact ih _ _ s3 nx2
   ·rw [if_neg s3,yyB s3,cnT (by decide)];rfl
  ·have hpl:¬p<mnQ b c:=by
    rw [hp];unfold mxQ mnQ at *
    grind
   rw [if_pos (.inl c1),if_pos (.inr hpl),nx]
   rw [yyC,cnF rfl]
   rw [show ((0:Rat).num)=0 from rfl,show (((0:Rat).den:Nat):Int)=1 from rfl,add0,zk,cnF rfl]
   exact ih _ sum hs rfl
theorem yHN (h1:cuts.length<4611686018427387904) (h2:dens.length<4611686018427387904) {an ad bn bd:Int} (ha:I64 an) (ha':I64 ad) (hb:I64 bn) (hb':I64 bd) (K:Int→Int→Int→Prop) :
  yaN len (ints cuts) (ints dens) an ad bn bd K=exK (valR len cuts dens an ad bn bd) K:=by
 refine yFA (fun r0 r1 r2 h K=>yzx _ _ _ _ _ _ _ r0 r1 r2 h K) (fun K k=>?_) K
 unfold yaN ym0
 rw [ypX h1 h2]
 unfold valR at k
 by_cases h:ckC len cuts dens=0
 case neg=>rw [cnT h,ypX h1 h2];rw [if_neg h] at k;exact k
 have hv:=yps h
 have hl:=hv.len0
 rw [if_pos h] at k
 rw [cnF h,yAk (by omega) ha ha']
 by_cases p1:PT len an ad
 case neg=>rw [decide_eq_false p1,qBn,yam];rw [if_neg (fun x=>p1 x.1)] at k;exact k
 rw [decide_eq_true p1,qA2,yae,yAk (by omega) hb hb']
 by_cases p2:PT len bn bd
 case neg=>rw [decide_eq_false p2,qBn,yam];rw [if_neg (fun x=>p2 x.2.1)] at k;exact k
 rw [decide_eq_true p2,qA2,yae]
 obtain ⟨s1,e1,e2,z1,_⟩:=p1.pt
 obtain ⟨s2,f1,f2,_,_⟩:=p2.pt
 have hless:=yd0 s2 s1
 rw [e1,e2,f1,f2] at hless
 rw [hless]
 by_cases p3:rt bn bd<rt an ad
 ·rw [cbT p3];rw [if_neg (fun x=>x.2.2 p3)] at k;exact k
 rw [cbF p3]
 rw [if_pos ⟨p1,p2,p3⟩] at k
 refine ⟨dens.length+1,?_⟩
 have c0:((cuts.getD 0 0:Int):Rat)=0:=by rw [hv.2.2.2.2.2.1];rfl
 have:=yvU hv s1 s2 p3 ybz yfe yaG K dens.length 0 (dens.length+1) (rt an ad) 0 (by omega) (by omega) (by decide) (by rw [c0];unfold mxQ mnQ;grind)
 rw [e1,e2,f1,f2] at this
 exact this.mpr k
end
structure Ck where
 len:Int
 cuts:List Int
 dens:List Int
end Go.Pf.Vc
