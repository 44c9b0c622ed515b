/- Part 4. -/
import Derived.Test.YtobbapakhillmaaGreatTkW3
noncomputable section
namespace Go.Pf.Vc
open Go Go.Pf
set_option maxRecDepth 100000
set_option maxHeartbeats 0
def yfx (a0:yau) (a1:yaD) (a2:yaE) (a3:ybe) (a4:yaF) (c:Ls→Int→Int→Int→Int→Int→Int→Int→Int→Int→Int→Int→Int→Int→Int→Int→Int→Int→Int→Int→Int→Int→Ls→Ls→Int→Int→Int→Int→Int→Int→Int→Int→Int→Int→Int→Int→Int→Ls→Int→Int→Bool→Prop):Nat→Ls→Int→Int→Int→Int→Int→Int→Int→Int→Int→Int→Int→Int→Int→Int→Int→Int→Int→Int→Int→Int→Int→Ls→Ls→Int→Int→Int→Int→Int→Int→Int→Int→Int→Int→Int→Int→Int→Ls→Int→Int→Prop
 | 0,_,_,_,_,_,_,_,_,_,_,_,_,_,_,_,_,_,_,_,_,_,_,_,_,_,_,_,_,_,_,_,_,_,_,_,_,_,_,_,_=>False
 | e+1,l0,i1,i2,i3,i4,i5,i6,i7,i8,i9,i10,i11,i12,i13,i14,i15,i16,i17,i18,i19,i20,i21,l22,l23,i24,i25,i26,i27,i28,i29,i30,i31,i32,i33,i34,i35,i38,l39,i40,i41 =>
 (cbr (decide (i41<i40))
 (jn (fun (d:Ls→Prop) =>
 (asr (decide ((0:Int)≤i41))
 (asr (decide (i41<(((List.length l39):Nat):Int)))
 (lt (List.getD l39 (i41.toNat) .nils) (fun a =>
 (asr (conf z4 a)
 (cbr (!(((yaa (yab a 0)) ==(yaa (yab a 2)))&&(((yaa (yab a 1)) ==(yaa (yab a 3)))&&true)))
 (asr (decide ((List.length l0)=(List.length l0)))
 (asr (decide ((0+(List.length l0))≤(List.length l0)))
 (asr (!(decide (((0+(List.length l0))+1)≤(List.length l0))))
 (asr (decide ((List.length l0)=(List.length l0)))
 (asr (decide ((((List.length l0)+1)+64)*(32+1)≤room))
 (d (l0++([(.agg [(.int .i64 (yaa (yab a 0))),(.int .i64 (yaa (yab a 1))),(.int .i64 (yaa (yab a 2))),(.int .i64 (yaa (yab a 3)))])]:Ls))))))))
 (d l0))))))))
 (fun b=>(lt (IntKind.i64.wrap (i41+(1:Int))) (fun f =>
 (asr (decide ((List.length b)=List.length b)&&decide ((List.length b)=List.length b))
 (yfx a0 a1 a2 a3 a4 c e b i1 i2 i3 i4 i5 i6 i7 i8 i9 i10 i11 i12 i13 i14 i15 i16 i17 i18 i19 i20 i21 l22 l23 i24 i25 i26 i27 i28 i29 i30 i31 i32 i33 i34 i35 i38 l39 i40 f))))))
 (c l0 i1 i2 i3 i4 i5 i6 i7 i8 i9 i10 i11 i12 i13 i14 i15 i16 i17 i18 i19 i20 i21 l22 l23 i24 i25 i26 i27 i28 i29 i30 i31 i32 i33 i34 i35 i38 l39 i40 i41 false))
def ydS (a0:yau) (a1:yaD) (a2:yaE) (a3:ybe) (a4:yaF) (b:Int→Int→Int→Int→Int→Int→Int→Int→Int→Int→Int→Int→Int→Int→Int→Int→Int→Int→Int→Int→Int→Ls→Ls→Int→Int→Int→Int→Int→Int→Int→Int→Int→Int→Int→Int→Int→Ls→Int→Int→Bool→Prop) (c:Ls→Int→Int→Int→Int→Int→Int→Int→Int→Int→Int→Int→Int→Int→Int→Int→Int→Int→Int→Int→Int→Int→Ls→Ls→Int→Int→Int→Int→Int→Int→Int→Int→Int→Int→Int→Int→Int→Ls→Int→Int→Bool→Prop):Nat→Int→Int→Int→Int→Int→Int→Int→Int→Int→Int→Int→Int→Int→Int→Int→Int→Int→Int→Int→Int→Int→Ls→Ls→Int→Int→Int→Int→Int→Int→Int→Int→Int→Int→Int→Int→Int→Ls→Int→Int→Prop
 | 0,_,_,_,_,_,_,_,_,_,_,_,_,_,_,_,_,_,_,_,_,_,_,_,_,_,_,_,_,_,_,_,_,_,_,_,_,_,_,_=>False
 | d+1,i0,i1,i2,i3,i4,i5,i6,i7,i8,i9,i10,i11,i12,i13,i14,i15,i16,i17,i18,i19,i20,l21,l22,i23,i24,i25,i26,i27,i28,i29,i30,i31,i32,i33,i34,i35,l36,i37,i38 =>
 (cbr (decide (i38<i37))
 (asr (decide ((0:Int)≤i38))
 (asr (decide (i38<(((List.length l36):Nat):Int)))
 (lt (List.getD l36 (i38.toNat) .nils) (fun a =>
 (asr (conf z4 a)
 (cbr (!(((yaa (yab a 0)) ==(yaa (yab a 2)))&&(((yaa (yab a 1)) ==(yaa (yab a 3)))&&true)))
 (lt (IntKind.i64.wrap (i38+(1:Int))) (fun e =>
 (asr (decide (1=List.length ([(.agg [(.int .i64 (yaa (yab a 0))),(.int .i64 (yaa (yab a 1))),(.int .i64 (yaa (yab a 2))),(.int .i64 (yaa (yab a 3)))])]:Ls))&&decide (1=List.length ([(.agg [(.int .i64 (yaa (yab a 0))),(.int .i64 (yaa (yab a 1))),(.int .i64 (yaa (yab a 2))),(.int .i64 (yaa (yab a 3)))])]:Ls)))
 (yfx a0 a1 a2 a3 a4 c d ([(.agg [(.int .i64 (yaa (yab a 0))),(.int .i64 (yaa (yab a 1))),(.int .i64 (yaa (yab a 2))),(.int .i64 (yaa (yab a 3)))])]:Ls) i0 i1 i2 i3 i4 i5 i6 i7 i8 i9 i10 i11 i12 i13 i14 i15 i16 i17 i18 i19 i20 l21 l22 i23 i24 i25 i26 i27 i28 i29 i30 i31 i32 i33 i34 i35 l36 i37 e))))
 (lt (IntKind.i64.wrap (i38+(1:Int))) (fun f =>
 (ydS a0 a1 a2 a3 a4 b c d i0 i1 i2 i3 i4 i5 i6 i7 i8 i9 i10 i11 i12 i13 i14 i15 i16 i17 i18 i19 i20 l21 l22 i23 i24 i25 i26 i27 i28 i29 i30 i31 i32 i33 i34 i35 l36 i37 f)))))))))
 (b i0 i1 i2 i3 i4 i5 i6 i7 i8 i9 i10 i11 i12 i13 i14 i15 i16 i17 i18 i19 i20 l21 l22 i23 i24 i25 i26 i27 i28 i29 i30 i31 i32 i33 i34 i35 l36 i37 i38 false))
def yhM (a0:yau) (a1:yaD) (a2:yaE) (a3:ybe) (a4:yaF) (c:Ls→Ls→Int→Int→Int→Int→Int→Int→Int→Int→Int→Int→Int→Int→Int→Int→Int→Int→Int→Int→Int→Int→Int→Ls→Ls→Int→Int→Int→Int→Int→Int→Int→Int→Int→Int→Int→Int→Int→Ls→Int→Int→Bool→Prop):Nat→Ls→Ls→Int→Int→Int→Int→Int→Int→Int→Int→Int→Int→Int→Int→Int→Int→Int→Int→Int→Int→Int→Int→Int→Ls→Ls→Int→Int→Int→Int→Int→Int→Int→Int→Int→Int→Int→Int→Int→Ls→Int→Int→Prop
 | 0,_,_,_,_,_,_,_,_,_,_,_,_,_,_,_,_,_,_,_,_,_,_,_,_,_,_,_,_,_,_,_,_,_,_,_,_,_,_,_,_,_=>False
 | e+1,l0,l1,i4,i5,i6,i7,i8,i9,i10,i11,i12,i13,i14,i15,i16,i17,i18,i19,i20,i21,i22,i23,i24,l25,l26,i27,i28,i29,i30,i31,i32,i33,i34,i35,i36,i37,i38,i41,l42,i43,i44 =>
 (cbr (decide (i44<i43))
 (jn (fun (d:Ls→Prop) =>
 (asr (decide ((0:Int)≤i44))
 (asr (decide (i44<(((List.length l42):Nat):Int)))
 (lt (List.getD l42 (i44.toNat) .nils) (fun a =>
 (asr (conf z4 a)
 (cbr (!(((yaa (yab a 0)) ==(yaa (yab a 2)))&&(((yaa (yab a 1)) ==(yaa (yab a 3)))&&true)))
 (asr (decide ((List.length l1)=(List.length l1)))
 (asr (decide ((0+(List.length l1))≤(List.length l1)))
 (asr (!(decide (((0+(List.length l1))+1)≤(List.length l1))))
 (asr (decide ((List.length l1)=(List.length l1)))
 (asr (decide ((((List.length l1)+1)+64)*(32+1)≤room))
 (d (l1++([(.agg [(.int .i64 (yaa (yab a 0))),(.int .i64 (yaa (yab a 1))),(.int .i64 (yaa (yab a 2))),(.int .i64 (yaa (yab a 3)))])]:Ls))))))))
 (d l1))))))))
 (fun b=>(lt (IntKind.i64.wrap (i44+(1:Int))) (fun f =>
 (asr (decide ((List.length l0)=List.length l0)&&decide ((List.length l0)=List.length l0)&&decide ((List.length b)=List.length b)&&decide ((List.length b)=List.length b))
 (yhM a0 a1 a2 a3 a4 c e l0 b i4 i5 i6 i7 i8 i9 i10 i11 i12 i13 i14 i15 i16 i17 i18 i19 i20 i21 i22 i23 i24 l25 l26 i27 i28 i29 i30 i31 i32 i33 i34 i35 i36 i37 i38 i41 l42 i43 f))))))
 (c l0 l1 i4 i5 i6 i7 i8 i9 i10 i11 i12 i13 i14 i15 i16 i17 i18 i19 i20 i21 i22 i23 i24 l25 l26 i27 i28 i29 i30 i31 i32 i33 i34 i35 i36 i37 i38 i41 l42 i43 i44 false))
def yhN (a0:yau) (a1:yaD) (a2:yaE) (a3:ybe) (a4:yaF) (b:Ls→Int→Int→Int→Int→Int→Int→Int→Int→Int→Int→Int→Int→Int→Int→Int→Int→Int→Int→Int→Int→Int→Ls→Ls→Int→Int→Int→Int→Int→Int→Int→Int→Int→Int→Int→Int→Int→Ls→Int→Int→Bool→Prop) (c:Ls→Ls→Int→Int→Int→Int→Int→Int→Int→Int→Int→Int→Int→Int→Int→Int→Int→Int→Int→Int→Int→Int→Int→Ls→Ls→Int→Int→Int→Int→Int→Int→Int→Int→Int→Int→Int→Int→Int→Ls→Int→Int→Bool→Prop):Nat→Ls→Int→Int→Int→Int→Int→Int→Int→Int→Int→Int→Int→Int→Int→Int→Int→Int→Int→Int→Int→Int→Int→Ls→Ls→Int→Int→Int→Int→Int→Int→Int→Int→Int→Int→Int→Int→Int→Ls→Int→Int→Prop
 | 0,_,_,_,_,_,_,_,_,_,_,_,_,_,_,_,_,_,_,_,_,_,_,_,_,_,_,_,_,_,_,_,_,_,_,_,_,_,_,_,_=>False
 | d+1,l0,i3,i4,i5,i6,i7,i8,i9,i10,i11,i12,i13,i14,i15,i16,i17,i18,i19,i20,i21,i22,i23,l24,l25,i26,i27,i28,i29,i30,i31,i32,i33,i34,i35,i36,i37,i38,l39,i40,i41 =>
 (cbr (decide (i41<i40))
 (asr (decide ((0:Int)≤i41))
 (asr (decide (i41<(((List.length l39):Nat):Int)))
 (lt (List.getD l39 (i41.toNat) .nils) (fun a =>
 (asr (conf z4 a)
 (cbr (!(((yaa (yab a 0)) ==(yaa (yab a 2)))&&(((yaa (yab a 1)) ==(yaa (yab a 3)))&&true)))
 (lt (IntKind.i64.wrap (i41+(1:Int))) (fun e =>
 (asr (decide ((List.length l0)=List.length l0)&&decide ((List.length l0)=List.length l0)&&decide (1=List.length ([(.agg [(.int .i64 (yaa (yab a 0))),(.int .i64 (yaa (yab a 1))),(.int .i64 (yaa (yab a 2))),(.int .i64 (yaa (yab a 3)))])]:Ls))&&decide (1=List.length ([(.agg [(.int .i64 (yaa (yab a 0))),(.int .i64 (yaa (yab a 1))),(.int .i64 (yaa (yab a 2))),(.int .i64 (yaa (yab a 3)))])]:Ls)))
 (yhM a0 a1 a2 a3 a4 c d l0 ([(.agg [(.int .i64 (yaa (yab a 0))),(.int .i64 (yaa (yab a 1))),(.int .i64 (yaa (yab a 2))),(.int .i64 (yaa (yab a 3)))])]:Ls) i3 i4 i5 i6 i7 i8 i9 i10 i11 i12 i13 i14 i15 i16 i17 i18 i19 i20 i21 i22 i23 l24 l25 i26 i27 i28 i29 i30 i31 i32 i33 i34 i35 i36 i37 i38 l39 i40 e))))
 (lt (IntKind.i64.wrap (i41+(1:Int))) (fun f =>
 (asr (decide ((List.length l0)=List.length l0)&&decide ((List.length l0)=List.length l0))
 (yhN a0 a1 a2 a3 a4 b c d l0 i3 i4 i5 i6 i7 i8 i9 i10 i11 i12 i13 i14 i15 i16 i17 i18 i19 i20 i21 i22 i23 l24 l25 i26 i27 i28 i29 i30 i31 i32 i33 i34 i35 i36 i37 i38 l39 i40 f))))))))))
 (b l0 i3 i4 i5 i6 i7 i8 i9 i10 i11 i12 i13 i14 i15 i16 i17 i18 i19 i20 i21 i22 i23 l24 l25 i26 i27 i28 i29 i30 i31 i32 i33 i34 i35 i36 i37 i38 l39 i40 i41 false))
def ydT (a0:yau) (a1:yaD) (a2:yaE) (a3:ybe) (a4:yaF) (c:Ls→Ls→Int→Int→Int→Int→Int→Int→Int→Int→Int→Int→Int→Int→Int→Int→Int→Int→Int→Int→Int→Int→Int→Ls→Ls→Int→Int→Int→Int→Int→Int→Int→Int→Int→Int→Int→Int→Int→Ls→Int→Int→Bool→Prop):Nat→Ls→Ls→Int→Int→Int→Int→Int→Int→Int→Int→Int→Int→Int→Int→Int→Int→Int→Int→Int→Int→Int→Int→Int→Ls→Ls→Int→Int→Int→Int→Int→Int→Int→Int→Int→Int→Int→Int→Int→Ls→Int→Int→Prop
 | 0,_,_,_,_,_,_,_,_,_,_,_,_,_,_,_,_,_,_,_,_,_,_,_,_,_,_,_,_,_,_,_,_,_,_,_,_,_,_,_,_,_=>False
 | e+1,l0,l1,i4,i5,i6,i7,i8,i9,i10,i11,i12,i13,i14,i15,i16,i17,i18,i19,i20,i21,i22,i23,i24,l25,l26,i27,i28,i29,i30,i31,i32,i33,i34,i35,i36,i37,i38,i41,l42,i43,i44 =>
 (cbr (decide (i44<i43))
 (jn (fun (d:Ls→Prop) =>
 (asr (decide ((0:Int)≤i44))
 (asr (decide (i44<(((List.length l42):Nat):Int)))
 (lt (List.getD l42 (i44.toNat) .nils) (fun a =>
 (asr (conf z4 a)
 (cbr (!(((yaa (yab a 0)) ==(yaa (yab a 2)))&&(((yaa (yab a 1)) ==(yaa (yab a 3)))&&true)))
 (asr (decide ((List.length l1)=(List.length l1)))
 (asr (decide ((0+(List.length l1))≤(List.length l1)))
 (asr (!(decide (((0+(List.length l1))+1)≤(List.length l1))))
 (asr (decide ((List.length l1)=(List.length l1)))
 (asr (decide ((((List.length l1)+1)+64)*(32+1)≤room))
 (d (l1++([(.agg [(.int .i64 (yaa (yab a 0))),(.int .i64 (yaa (yab a 1))),(.int .i64 (yaa (yab a 2))),(.int .i64 (yaa (yab a 3)))])]:Ls))))))))
 (d l1))))))))
 (fun b=>(lt (IntKind.i64.wrap (i44+(1:Int))) (fun f =>
 (asr (decide ((List.length l0)=List.length l0)&&decide ((List.length l0)=List.length l0)&&decide ((List.length b)=List.length b)&&decide ((List.length b)=List.length b))
 (ydT a0 a1 a2 a3 a4 c e l0 b i4 i5 i6 i7 i8 i9 i10 i11 i12 i13 i14 i15 i16 i17 i18 i19 i20 i21 i22 i23 i24 l25 l26 i27 i28 i29 i30 i31 i32 i33 i34 i35 i36 i37 i38 i41 l42 i43 f))))))
 (c l0 l1 i4 i5 i6 i7 i8 i9 i10 i11 i12 i13 i14 i15 i16 i17 i18 i19 i20 i21 i22 i23 i24 l25 l26 i27 i28 i29 i30 i31 i32 i33 i34 i35 i36 i37 i38 i41 l42 i43 i44 false))
def ycn (a0:yau) (a1:yaD) (a2:yaE) (a3:ybe) (a4:yaF) (b:Ls→Int→Int→Int→Int→Int→Int→Int→Int→Int→Int→Int→Int→Int→Int→Int→Int→Int→Int→Int→Int→Int→Ls→Ls→Int→Int→Int→Int→Int→Int→Int→Int→Int→Int→Int→Int→Int→Ls→Int→Int→Bool→Prop) (c:Ls→Ls→Int→Int→Int→Int→Int→Int→Int→Int→Int→Int→Int→Int→Int→Int→Int→Int→Int→Int→Int→Int→Int→Ls→Ls→Int→Int→Int→Int→Int→Int→Int→Int→Int→Int→Int→Int→Int→Ls→Int→Int→Bool→Prop):Nat→Ls→Int→Int→Int→Int→Int→Int→Int→Int→Int→Int→Int→Int→Int→Int→Int→Int→Int→Int→Int→Int→Int→Ls→Ls→Int→Int→Int→Int→Int→Int→Int→Int→Int→Int→Int→Int→Int→Ls→Int→Int→Prop
 | 0,_,_,_,_,_,_,_,_,_,_,_,_,_,_,_,_,_,_,_,_,_,_,_,_,_,_,_,_,_,_,_,_,_,_,_,_,_,_,_,_=>False
 | d+1,l0,i3,i4,i5,i6,i7,i8,i9,i10,i11,i12,i13,i14,i15,i16,i17,i18,i19,i20,i21,i22,i23,l24,l25,i26,i27,i28,i29,i30,i31,i32,i33,i34,i35,i36,i37,i38,l39,i40,i41 =>
 (cbr (decide (i41<i40))
 (asr (decide ((0:Int)≤i41))
 (asr (decide (i41<(((List.length l39):Nat):Int)))
 (lt (List.getD l39 (i41.toNat) .nils) (fun a =>
 (asr (conf z4 a)
 (cbr (!(((yaa (yab a 0)) ==(yaa (yab a 2)))&&(((yaa (yab a 1)) ==(yaa (yab a 3)))&&true)))
 (lt (IntKind.i64.wrap (i41+(1:Int))) (fun e =>
 (asr (decide ((List.length l0)=List.length l0)&&decide ((List.length l0)=List.length l0)&&decide (1=List.length ([(.agg [(.int .i64 (yaa (yab a 0))),(.int .i64 (yaa (yab a 1))),(.int .i64 (yaa (yab a 2))),(.int .i64 (yaa (yab a 3)))])]:Ls))&&decide (1=List.length ([(.agg [(.int .i64 (yaa (yab a 0))),(.int .i64 (yaa (yab a 1))),(.int .i64 (yaa (yab a 2))),(.int .i64 (yaa (yab a 3)))])]:Ls)))
 (ydT a0 a1 a2 a3 a4 c d l0 ([(.agg [(.int .i64 (yaa (yab a 0))),(.int .i64 (yaa (yab a 1))),(.int .i64 (yaa (yab a 2))),(.int .i64 (yaa (yab a 3)))])]:Ls) i3 i4 i5 i6 i7 i8 i9 i10 i11 i12 i13 i14 i15 i16 i17 i18 i19 i20 i21 i22 i23 l24 l25 i26 i27 i28 i29 i30 i31 i32 i33 i34 i35 i36 i37 i38 l39 i40 e))))
 (lt (IntKind.i64.wrap (i41+(1:Int))) (fun f =>
 (asr (decide ((List.length l0)=List.length l0)&&decide ((List.length l0)=List.length l0))
 (ycn a0 a1 a2 a3 a4 b c d l0 i3 i4 i5 i6 i7 i8 i9 i10 i11 i12 i13 i14 i15 i16 i17 i18 i19 i20 i21 i22 i23 l24 l25 i26 i27 i28 i29 i30 i31 i32 i33 i34 i35 i36 i37 i38 l39 i40 f))))))))))
 (b l0 i3 i4 i5 i6 i7 i8 i9 i10 i11 i12 i13 i14 i15 i16 i17 i18 i19 i20 i21 i22 i23 l24 l25 i26 i27 i28 i29 i30 i31 i32 i33 i34 i35 i36 i37 i38 l39 i40 i41 false))
def yfy (a0:yau) (a1:yaD) (a2:yaE) (a3:ybe) (a4:yaF) (g:Ls→Int→Int→Int→Int→Int→Int→Int→Int→Int→Int→Int→Int→Int→Int→Int→Int→Int→Int→Int→Int→Int→Ls→Ls→Int→Int→Int→Int→Int→Int→Int→Int→Int→Int→Int→Int→Int→Bool→Prop):Nat→Ls→Int→Int→Int→Int→Int→Int→Int→Int→Int→Int→Int→Int→Int→Int→Int→Int→Int→Int→Int→Int→Int→Ls→Ls→Int→Int→Int→Int→Int→Int→Int→Int→Int→Int→Int→Int→Int→Prop
 | 0,_,_,_,_,_,_,_,_,_,_,_,_,_,_,_,_,_,_,_,_,_,_,_,_,_,_,_,_,_,_,_,_,_,_,_,_,_=>False
 | h+1,l0,i3,i4,i5,i6,i7,i8,i9,i10,i11,i12,i13,i14,i15,i16,i17,i18,i19,i20,i21,i22,i23,l24,l25,i26,i27,i28,i29,i30,i31,i32,i33,i34,i35,i36,i37,i38 =>
 (cbr (decide (i38<(3:Int)))
 (jn (fun (a:Ls→Prop) =>
 (cbr (decide (i38=(0:Int)))
 (cbr (decide (i20=(0:Int)))
 (cbr (decide (i38=(0:Int)))
 (a ([(.agg [(.int .i64 i3),(.int .i64 i4),(.int .i64 i5),(.int .i64 i6)]),(.agg [(.int .i64 i26),(.int .i64 i27),(.int .i64 i28),(.int .i64 i29)])]:Ls))
 (cbr (decide (i38=(1:Int)))
 (a ([(.agg [(.int .i64 i3),(.int .i64 i4),(.int .i64 i5),(.int .i64 i6)]),(.agg [(.int .i64 i30),(.int .i64 i31),(.int .i64 i32),(.int .i64 i33)])]:Ls))
 (cbr (decide (i38=(2:Int)))
 (a ([(.agg [(.int .i64 i3),(.int .i64 i4),(.int .i64 i5),(.int .i64 i6)]),(.agg [(.int .i64 i34),(.int .i64 i35),(.int .i64 i36),(.int .i64 i37)])]:Ls))
 False)))
 (cbr (decide (i20=(1:Int)))
 (cbr (decide (i38=(0:Int)))
 (a ([(.agg [(.int .i64 i7),(.int .i64 i8),(.int .i64 i9),(.int .i64 i10)]),(.agg [(.int .i64 i26),(.int .i64 i27),(.int .i64 i28),(.int .i64 i29)])]:Ls))
 (cbr (decide (i38=(1:Int)))
 (a ([(.agg [(.int .i64 i7),(.int .i64 i8),(.int .i64 i9),(.int .i64 i10)]),(.agg [(.int .i64 i30),(.int .i64 i31),(.int .i64 i32),(.int .i64 i33)])]:Ls))
 (cbr (decide (i38=(2:Int)))
 (a ([(.agg [(.int .i64 i7),(.int .i64 i8),(.int .i64 i9),(.int .i64 i10)]),(.agg [(.int .i64 i34),(.int .i64 i35),(.int .i64 i36),(.int .i64 i37)])]:Ls))
 False)))
 (cbr (decide (i20=(2:Int)))
 (cbr (decide (i38=(0:Int)))
 (a ([(.agg [(.int .i64 i11),(.int .i64 i12),(.int .i64 i13),(.int .i64 i14)]),(.agg [(.int .i64 i26),(.int .i64 i27),(.int .i64 i28),(.int .i64 i29)])]:Ls))
 (cbr (decide (i38=(1:Int)))
 (a ([(.agg [(.int .i64 i11),(.int .i64 i12),(.int .i64 i13),(.int .i64 i14)]),(.agg [(.int .i64 i30),(.int .i64 i31),(.int .i64 i32),(.int .i64 i33)])]:Ls))
 (cbr (decide (i38=(2:Int)))
 (a ([(.agg [(.int .i64 i11),(.int .i64 i12),(.int .i64 i13),(.int .i64 i14)]),(.agg [(.int .i64 i34),(.int .i64 i35),(.int .i64 i36),(.int .i64 i37)])]:Ls))
 False)))
 False)))
 (cbr (decide (i38=(1:Int)))
 (cbr (decide (i21=(0:Int)))
 (cbr (decide (i38=(0:Int)))
 (a ([(.agg [(.int .i64 i3),(.int .i64 i4),(.int .i64 i5),(.int .i64 i6)]),(.agg [(.int .i64 i26),(.int .i64 i27),(.int .i64 i28),(.int .i64 i29)])]:Ls))
 (cbr (decide (i38=(1:Int)))
 (a ([(.agg [(.int .i64 i3),(.int .i64 i4),(.int .i64 i5),(.int .i64 i6)]),(.agg [(.int .i64 i30),(.int .i64 i31),(.int .i64 i32),(.int .i64 i33)])]:Ls))
 (cbr (decide (i38=(2:Int)))
 (a ([(.agg [(.int .i64 i3),(.int .i64 i4),(.int .i64 i5),(.int .i64 i6)]),(.agg [(.int .i64 i34),(.int .i64 i35),(.int .i64 i36),(.int .i64 i37)])]:Ls))
 False)))
 (cbr (decide (i21=(1:Int)))
 (cbr (decide (i38=(0:Int)))
 (a ([(.agg [(.int .i64 i7),(.int .i64 i8),(.int .i64 i9),(.int .i64 i10)]),(.agg [(.int .i64 i26),(.int .i64 i27),(.int .i64 i28),(.int .i64 i29)])]:Ls))
 (cbr (decide (i38=(1:Int)))
 (a ([(.agg [(.int .i64 i7),(.int .i64 i8),(.int .i64 i9),(.int .i64 i10)]),(.agg [(.int .i64 i30),(.int .i64 i31),(.int .i64 i32),(.int .i64 i33)])]:Ls))
 (cbr (decide (i38=(2:Int)))
 (a ([(.agg [(.int .i64 i7),(.int .i64 i8),(.int .i64 i9),(.int .i64 i10)]),(.agg [(.int .i64 i34),(.int .i64 i35),(.int .i64 i36),(.int .i64 i37)])]:Ls))
 False)))
 (cbr (decide (i21=(2:Int)))
 (cbr (decide (i38=(0:Int)))
 (a ([(.agg [(.int .i64 i11),(.int .i64 i12),(.int .i64 i13),(.int .i64 i14)]),(.agg [(.int .i64 i26),(.int .i64 i27),(.int .i64 i28),(.int .i64 i29)])]:Ls))
 (cbr (decide (i38=(1:Int)))
 (a ([(.agg [(.int .i64 i11),(.int .i64 i12),(.int .i64 i13),(.int .i64 i14)]),(.agg [(.int .i64 i30),(.int .i64 i31),(.int .i64 i32),(.int .i64 i33)])]:Ls))
 (cbr (decide (i38=(2:Int)))
 (a ([(.agg [(.int .i64 i11),(.int .i64 i12),(.int .i64 i13),(.int .i64 i14)]),(.agg [(.int .i64 i34),(.int .i64 i35),(.int .i64 i36),(.int .i64 i37)])]:Ls))
 False)))
 False)))
 (cbr (decide (i38=(2:Int)))
 (cbr (decide (i22=(0:Int)))
 (cbr (decide (i38=(0:Int)))
 (a ([(.agg [(.int .i64 i3),(.int .i64 i4),(.int .i64 i5),(.int .i64 i6)]),(.agg [(.int .i64 i26),(.int .i64 i27),(.int .i64 i28),(.int .i64 i29)])]:Ls))
 (cbr (decide (i38=(1:Int)))
 (a ([(.agg [(.int .i64 i3),(.int .i64 i4),(.int .i64 i5),(.int .i64 i6)]),(.agg [(.int .i64 i30),(.int .i64 i31),(.int .i64 i32),(.int .i64 i33)])]:Ls))
 (cbr (decide (i38=(2:Int)))
 (a ([(.agg [(.int .i64 i3),(.int .i64 i4),(.int .i64 i5),(.int .i64 i6)]),(.agg [(.int .i64 i34),(.int .i64 i35),(.int .i64 i36),(.int .i64 i37)])]:Ls))
 False)))
 (cbr (decide (i22=(1:Int)))
 (cbr (decide (i38=(0:Int)))
 (a ([(.agg [(.int .i64 i7),(.int .i64 i8),(.int .i64 i9),(.int .i64 i10)]),(.agg [(.int .i64 i26),(.int .i64 i27),(.int .i64 i28),(.int .i64 i29)])]:Ls))
 (cbr (decide (i38=(1:Int)))
 (a ([(.agg [(.int .i64 i7),(.int .i64 i8),(.int .i64 i9),(.int .i64 i10)]),(.agg [(.int .i64 i30),(.int .i64 i31),(.int .i64 i32),(.int .i64 i33)])]:Ls))
 (cbr (decide (i38=(2:Int)))
 (a ([(.agg [(.int .i64 i7),(.int .i64 i8),(.int .i64 i9),(.int .i64 i10)]),(.agg [(.int .i64 i34),(.int .i64 i35),(.int .i64 i36),(.int .i64 i37)])]:Ls))
 False)))
 (cbr (decide (i22=(2:Int)))
 (cbr (decide (i38=(0:Int)))
 (a ([(.agg [(.int .i64 i11),(.int .i64 i12),(.int .i64 i13),(.int .i64 i14)]),(.agg [(.int .i64 i26),(.int .i64 i27),(.int .i64 i28),(.int .i64 i29)])]:Ls))
 (cbr (decide (i38=(1:Int)))
 (a ([(.agg [(.int .i64 i11),(.int .i64 i12),(.int .i64 i13),(.int .i64 i14)]),(.agg [(.int .i64 i30),(.int .i64 i31),(.int .i64 i32),(.int .i64 i33)])]:Ls))
 (cbr (decide (i38=(2:Int)))
 (a ([(.agg [(.int .i64 i11),(.int .i64 i12),(.int .i64 i13),(.int .i64 i14)]),(.agg [(.int .i64 i34),(.int .i64 i35),(.int .i64 i36),(.int .i64 i37)])]:Ls))
 False)))
 False)))
 False))))
 (fun i=>(asr (decide ((List.length l0)=List.length l0)&&decide ((List.length l0)=List.length l0))
 (∃ j:Nat,yhN a0 a1 a2 a3 a4
 (fun b k l m n o p q r s t u v w x y z A B C D E F G H I J K L M N O Q R S T U _ _ _ _=>(a3 ([]:Ls) (fun V W =>
 (a4 V W (fun e =>
 (asr (decide ((List.length b)=(List.length b)))
 (asr (decide ((0+(List.length b))≤(List.length b)))
 (asr (!(decide (((0+(List.length b))+1)≤(List.length b))))
 (asr (decide ((List.length b)=(List.length b)))
 (asr (decide ((((List.length b)+1)+64)*(24+1)≤room))
 (lt (IntKind.i64.wrap (U+(1:Int))) (fun X =>
 (asr (decide ((List.length (b++([(.data e)]:Ls)))=List.length (b++([(.data e)]:Ls)))&&decide ((List.length (b++([(.data e)]:Ls)))=List.length (b++([(.data e)]:Ls))))
 (yfy a0 a1 a2 a3 a4 g h (b++([(.data e)]:Ls)) k l m n o p q r s t u v w x y z A B C D E F G H I J K L M N O Q R S T X))))))))))))))
 (fun c d Y Z va vb vc vd ve vf vg vh vi vj vk vl vm vn vo vp vq vr vs vt vu vv vw vx vy vz vA vB vC vD vE vF vG vH _ _ _ _=>(asr (decide ((List.length d)=(List.length d)))
 (asr (decide ((0+(List.length d))≤(List.length d)))
 (a3 (List.take (List.length d) d) (fun vI vJ =>
 (a4 vI vJ (fun f =>
 (asr (decide ((List.length c)=(List.length c)))
 (asr (decide ((0+(List.length c))≤(List.length c)))
 (asr (!(decide (((0+(List.length c))+1)≤(List.length c))))
 (asr (decide ((List.length c)=(List.length c)))
 (asr (decide ((((List.length c)+1)+64)*(24+1)≤room))
 (lt (IntKind.i64.wrap (vH+(1:Int))) (fun vK =>
 (asr (decide ((List.length (c++([(.data f)]:Ls)))=List.length (c++([(.data f)]:Ls)))&&decide ((List.length (c++([(.data f)]:Ls)))=List.length (c++([(.data f)]:Ls))))
 (yfy a0 a1 a2 a3 a4 g h (c++([(.data f)]:Ls)) Y Z va vb vc vd ve vf vg vh vi vj vk vl vm vn vo vp vq vr vs vt vu vv vw vx vy vz vA vB vC vD vE vF vG vK))))))))))))))))
 j l0 i3 i4 i5 i6 i7 i8 i9 i10 i11 i12 i13 i14 i15 i16 i17 i18 i19 i20 i21 i22 i23 l24 l25 i26 i27 i28 i29 i30 i31 i32 i33 i34 i35 i36 i37 i38 i (2:Int) (0:Int)))))
 (g l0 i3 i4 i5 i6 i7 i8 i9 i10 i11 i12 i13 i14 i15 i16 i17 i18 i19 i20 i21 i22 i23 l24 l25 i26 i27 i28 i29 i30 i31 i32 i33 i34 i35 i36 i37 i38 false))
def yay (a0:yau) (a1:yaD) (a2:yaE) (a3:ybe) (a4:yaF) (g:Ls→Int→Int→Int→Int→Int→Int→Int→Int→Int→Int→Int→Int→Int→Int→Int→Int→Int→Int→Int→Int→Int→Ls→Ls→Int→Int→Int→Int→Int→Int→Int→Int→Int→Int→Int→Int→Int→Bool→Prop):Nat→Ls→Int→Int→Int→Int→Int→Int→Int→Int→Int→Int→Int→Int→Int→Int→Int→Int→Int→Int→Int→Int→Int→Ls→Ls→Int→Int→Int→Int→Int→Int→Int→Int→Int→Int→Int→Int→Int→Prop
 | 0,_,_,_,_,_,_,_,_,_,_,_,_,_,_,_,_,_,_,_,_,_,_,_,_,_,_,_,_,_,_,_,_,_,_,_,_,_=>False
 | h+1,l0,i3,i4,i5,i6,i7,i8,i9,i10,i11,i12,i13,i14,i15,i16,i17,i18,i19,i20,i21,i22,i23,l24,l25,i26,i27,i28,i29,i30,i31,i32,i33,i34,i35,i36,i37,i38 =>
 (cbr (decide (i38<(3:Int)))
 (jn (fun (a:Ls→Prop) =>
 (cbr (decide (i38=(0:Int)))
 (cbr (decide (i20=(0:Int)))
 (cbr (decide (i38=(0:Int)))
 (a ([(.agg [(.int .i64 i3),(.int .i64 i4),(.int .i64 i5),(.int .i64 i6)]),(.agg [(.int .i64 i26),(.int .i64 i27),(.int .i64 i28),(.int .i64 i29)])]:Ls))
 (cbr (decide (i38=(1:Int)))
 (a ([(.agg [(.int .i64 i3),(.int .i64 i4),(.int .i64 i5),(.int .i64 i6)]),(.agg [(.int .i64 i30),(.int .i64 i31),(.int .i64 i32),(.int .i64 i33)])]:Ls))
 (cbr (decide (i38=(2:Int)))
 (a ([(.agg [(.int .i64 i3),(.int .i64 i4),(.int .i64 i5),(.int .i64 i6)]),(.agg [(.int .i64 i34),(.int .i64 i35),(.int .i64 i36),(.int .i64 i37)])]:Ls))
 False)))
 (cbr (decide (i20=(1:Int)))
 (cbr (decide (i38=(0:Int)))
 (a ([(.agg [(.int .i64 i7),(.int .i64 i8),(.int .i64 i9),(.int .i64 i10)]),(.agg [(.int .i64 i26),(.int .i64 i27),(.int .i64 i28),(.int .i64 i29)])]:Ls))
 (cbr (decide (i38=(1:Int)))
 (a ([(.agg [(.int .i64 i7),(.int .i64 i8),(.int .i64 i9),(.int .i64 i10)]),(.agg [(.int .i64 i30),(.int .i64 i31),(.int .i64 i32),(.int .i64 i33)])]:Ls))
 (cbr (decide (i38=(2:Int)))
 (a ([(.agg [(.int .i64 i7),(.int .i64 i8),(.int .i64 i9),(.int .i64 i10)]),(.agg [(.int .i64 i34),(.int .i64 i35),(.int .i64 i36),(.int .i64 i37)])]:Ls))
 False)))
 (cbr (decide (i20=(2:Int)))
 (cbr (decide (i38=(0:Int)))
 (a ([(.agg [(.int .i64 i11),(.int .i64 i12),(.int .i64 i13),(.int .i64 i14)]),(.agg [(.int .i64 i26),(.int .i64 i27),(.int .i64 i28),(.int .i64 i29)])]:Ls))
 (cbr (decide (i38=(1:Int)))
 (a ([(.agg [(.int .i64 i11),(.int .i64 i12),(.int .i64 i13),(.int .i64 i14)]),(.agg [(.int .i64 i30),(.int .i64 i31),(.int .i64 i32),(.int .i64 i33)])]:Ls))
 (cbr (decide (i38=(2:Int)))
 (a ([(.agg [(.int .i64 i11),(.int .i64 i12),(.int .i64 i13),(.int .i64 i14)]),(.agg [(.int .i64 i34),(.int .i64 i35),(.int .i64 i36),(.int .i64 i37)])]:Ls))
 False)))
 False)))
 (cbr (decide (i38=(1:Int)))
 (cbr (decide (i21=(0:Int)))
 (cbr (decide (i38=(0:Int)))
 (a ([(.agg [(.int .i64 i3),(.int .i64 i4),(.int .i64 i5),(.int .i64 i6)]),(.agg [(.int .i64 i26),(.int .i64 i27),(.int .i64 i28),(.int .i64 i29)])]:Ls))
 (cbr (decide (i38=(1:Int)))
 (a ([(.agg [(.int .i64 i3),(.int .i64 i4),(.int .i64 i5),(.int .i64 i6)]),(.agg [(.int .i64 i30),(.int .i64 i31),(.int .i64 i32),(.int .i64 i33)])]:Ls))
 (cbr (decide (i38=(2:Int)))
 (a ([(.agg [(.int .i64 i3),(.int .i64 i4),(.int .i64 i5),(.int .i64 i6)]),(.agg [(.int .i64 i34),(.int .i64 i35),(.int .i64 i36),(.int .i64 i37)])]:Ls))
 False)))
 (cbr (decide (i21=(1:Int)))
 (cbr (decide (i38=(0:Int)))
 (a ([(.agg [(.int .i64 i7),(.int .i64 i8),(.int .i64 i9),(.int .i64 i10)]),(.agg [(.int .i64 i26),(.int .i64 i27),(.int .i64 i28),(.int .i64 i29)])]:Ls))
 (cbr (decide (i38=(1:Int)))
 (a ([(.agg [(.int .i64 i7),(.int .i64 i8),(.int .i64 i9),(.int .i64 i10)]),(.agg [(.int .i64 i30),(.int .i64 i31),(.int .i64 i32),(.int .i64 i33)])]:Ls))
 (cbr (decide (i38=(2:Int)))
 (a ([(.agg [(.int .i64 i7),(.int .i64 i8),(.int .i64 i9),(.int .i64 i10)]),(.agg [(.int .i64 i34),(.int .i64 i35),(.int .i64 i36),(.int .i64 i37)])]:Ls))
 False)))
 (cbr (decide (i21=(2:Int)))
 (cbr (decide (i38=(0:Int)))
 (a ([(.agg [(.int .i64 i11),(.int .i64 i12),(.int .i64 i13),(.int .i64 i14)]),(.agg [(.int .i64 i26),(.int .i64 i27),(.int .i64 i28),(.int .i64 i29)])]:Ls))
 (cbr (decide (i38=(1:Int)))
 (a ([(.agg [(.int .i64 i11),(.int .i64 i12),(.int .i64 i13),(.int .i64 i14)]),(.agg [(.int .i64 i30),(.int .i64 i31),(.int .i64 i32),(.int .i64 i33)])]:Ls))
 (cbr (decide (i38=(2:Int)))
 (a ([(.agg [(.int .i64 i11),(.int .i64 i12),(.int .i64 i13),(.int .i64 i14)]),(.agg [(.int .i64 i34),(.int .i64 i35),(.int .i64 i36),(.int .i64 i37)])]:Ls))
 False)))
 False)))
 (cbr (decide (i38=(2:Int)))
 (cbr (decide (i22=(0:Int)))
 (cbr (decide (i38=(0:Int)))
 (a ([(.agg [(.int .i64 i3),(.int .i64 i4),(.int .i64 i5),(.int .i64 i6)]),(.agg [(.int .i64 i26),(.int .i64 i27),(.int .i64 i28),(.int .i64 i29)])]:Ls))
 (cbr (decide (i38=(1:Int)))
 (a ([(.agg [(.int .i64 i3),(.int .i64 i4),(.int .i64 i5),(.int .i64 i6)]),(.agg [(.int .i64 i30),(.int .i64 i31),(.int .i64 i32),(.int .i64 i33)])]:Ls))
 (cbr (decide (i38=(2:Int)))
 (a ([(.agg [(.int .i64 i3),(.int .i64 i4),(.int .i64 i5),(.int .i64 i6)]),(.agg [(.int .i64 i34),(.int .i64 i35),(.int .i64 i36),(.int .i64 i37)])]:Ls))
 False)))
 (cbr (decide (i22=(1:Int)))
 (cbr (decide (i38=(0:Int)))
 (a ([(.agg [(.int .i64 i7),(.int .i64 i8),(.int .i64 i9),(.int .i64 i10)]),(.agg [(.int .i64 i26),(.int .i64 i27),(.int .i64 i28),(.int .i64 i29)])]:Ls))
 (cbr (decide (i38=(1:Int)))
 (a ([(.agg [(.int .i64 i7),(.int .i64 i8),(.int .i64 i9),(.int .i64 i10)]),(.agg [(.int .i64 i30),(.int .i64 i31),(.int .i64 i32),(.int .i64 i33)])]:Ls))
 (cbr (decide (i38=(2:Int)))
 (a ([(.agg [(.int .i64 i7),(.int .i64 i8),(.int .i64 i9),(.int .i64 i10)]),(.agg [(.int .i64 i34),(.int .i64 i35),(.int .i64 i36),(.int .i64 i37)])]:Ls))
 False)))
 (cbr (decide (i22=(2:Int)))
 (cbr (decide (i38=(0:Int)))
 (a ([(.agg [(.int .i64 i11),(.int .i64 i12),(.int .i64 i13),(.int .i64 i14)]),(.agg [(.int .i64 i26),(.int .i64 i27),(.int .i64 i28),(.int .i64 i29)])]:Ls))
 (cbr (decide (i38=(1:Int)))
 (a ([(.agg [(.int .i64 i11),(.int .i64 i12),(.int .i64 i13),(.int .i64 i14)]),(.agg [(.int .i64 i30),(.int .i64 i31),(.int .i64 i32),(.int .i64 i33)])]:Ls))
 (cbr (decide (i38=(2:Int)))
 (a ([(.agg [(.int .i64 i11),(.int .i64 i12),(.int .i64 i13),(.int .i64 i14)]),(.agg [(.int .i64 i34),(.int .i64 i35),(.int .i64 i36),(.int .i64 i37)])]:Ls))
 False)))
 False)))
 False))))
 (fun i=>(asr (decide ((List.length l0)=List.length l0)&&decide ((List.length l0)=List.length l0))
 (∃ j:Nat,ycn a0 a1 a2 a3 a4
 (fun b k l m n o p q r s t u v w x y z A B C D E F G H I J K L M N O Q R S T U _ _ _ _=>(a3 ([]:Ls) (fun V W =>
 (a4 V W (fun e =>
 (asr (decide ((List.length b)=(List.length b)))
 (asr (decide ((0+(List.length b))≤(List.length b)))
 (asr (!(decide (((0+(List.length b))+1)≤(List.length b))))
 (asr (decide ((List.length b)=(List.length b)))
 (asr (decide ((((List.length b)+1)+64)*(24+1)≤room))
 (lt (IntKind.i64.wrap (U+(1:Int))) (fun X =>
 (asr (decide ((List.length (b++([(.data e)]:Ls)))=List.length (b++([(.data e)]:Ls)))&&decide ((List.length (b++([(.data e)]:Ls)))=List.length (b++([(.data e)]:Ls))))
 (yay a0 a1 a2 a3 a4 g h (b++([(.data e)]:Ls)) k l m n o p q r s t u v w x y z A B C D E F G H I J K L M N O Q R S T X))))))))))))))
 (fun c d Y Z va vb vc vd ve vf vg vh vi vj vk vl vm vn vo vp vq vr vs vt vu vv vw vx vy vz vA vB vC vD vE vF vG vH _ _ _ _=>(asr (decide ((List.length d)=(List.length d)))
 (asr (decide ((0+(List.length d))≤(List.length d)))
 (a3 (List.take (List.length d) d) (fun vI vJ =>
 (a4 vI vJ (fun f =>
 (asr (decide ((List.length c)=(List.length c)))
 (asr (decide ((0+(List.length c))≤(List.length c)))
 (asr (!(decide (((0+(List.length c))+1)≤(List.length c))))
 (asr (decide ((List.length c)=(List.length c)))
 (asr (decide ((((List.length c)+1)+64)*(24+1)≤room))
 (lt (IntKind.i64.wrap (vH+(1:Int))) (fun vK =>
 (asr (decide ((List.length (c++([(.data f)]:Ls)))=List.length (c++([(.data f)]:Ls)))&&decide ((List.length (c++([(.data f)]:Ls)))=List.length (c++([(.data f)]:Ls))))
 (yay a0 a1 a2 a3 a4 g h (c++([(.data f)]:Ls)) Y Z va vb vc vd ve vf vg vh vi vj vk vl vm vn vo vp vq vr vs vt vu vv vw vx vy vz vA vB vC vD vE vF vG vK))))))))))))))))
 j l0 i3 i4 i5 i6 i7 i8 i9 i10 i11 i12 i13 i14 i15 i16 i17 i18 i19 i20 i21 i22 i23 l24 l25 i26 i27 i28 i29 i30 i31 i32 i33 i34 i35 i36 i37 i38 i (2:Int) (0:Int)))))
 (g l0 i3 i4 i5 i6 i7 i8 i9 i10 i11 i12 i13 i14 i15 i16 i17 i18 i19 i20 i21 i22 i23 l24 l25 i26 i27 i28 i29 i30 i31 i32 i33 i34 i35 i36 i37 i38 false))
def ybn (a0:yau) (a1:yaD) (a2:yaE) (a3:ybe) (a4:yaF) (f:Int→Int→Int→Int→Int→Int→Int→Int→Int→Int→Int→Int→Int→Int→Int→Int→Int→Int→Int→Int→Int→Ls→Ls→Int→Int→Int→Int→Int→Int→Int→Int→Int→Int→Int→Int→Int→Bool→Prop) (g:Ls→Int→Int→Int→Int→Int→Int→Int→Int→Int→Int→Int→Int→Int→Int→Int→Int→Int→Int→Int→Int→Int→Ls→Ls→Int→Int→Int→Int→Int→Int→Int→Int→Int→Int→Int→Int→Int→Bool→Prop) (h:Ls→Int→Int→Int→Int→Int→Int→Int→Int→Int→Int→Int→Int→Int→Int→Int→Int→Int→Int→Int→Int→Int→Ls→Ls→Int→Int→Int→Int→Int→Int→Int→Int→Int→Int→Int→Int→Int→Bool→Prop):Nat→Int→Int→Int→Int→Int→Int→Int→Int→Int→Int→Int→Int→Int→Int→Int→Int→Int→Int→Int→Int→Int→Ls→Ls→Int→Int→Int→Int→Int→Int→Int→Int→Int→Int→Int→Int→Int→Prop
 | 0,_,_,_,_,_,_,_,_,_,_,_,_,_,_,_,_,_,_,_,_,_,_,_,_,_,_,_,_,_,_,_,_,_,_,_,_=>False
 | e+1,i0,i1,i2,i3,i4,i5,i6,i7,i8,i9,i10,i11,i12,i13,i14,i15,i16,i17,i18,i19,i20,l21,l22,i23,i24,i25,i26,i27,i28,i29,i30,i31,i32,i33,i34,i35 =>
 (cbr (decide (i35<(3:Int)))
 (jn (fun (a:Ls→Prop) =>
 (cbr (decide (i35=(0:Int)))
 (cbr (decide (i17=(0:Int)))
 (cbr (decide (i35=(0:Int)))
 (a ([(.agg [(.int .i64 i0),(.int .i64 i1),(.int .i64 i2),(.int .i64 i3)]),(.agg [(.int .i64 i23),(.int .i64 i24),(.int .i64 i25),(.int .i64 i26)])]:Ls))
 (cbr (decide (i35=(1:Int)))
 (a ([(.agg [(.int .i64 i0),(.int .i64 i1),(.int .i64 i2),(.int .i64 i3)]),(.agg [(.int .i64 i27),(.int .i64 i28),(.int .i64 i29),(.int .i64 i30)])]:Ls))
 (cbr (decide (i35=(2:Int)))
 (a ([(.agg [(.int .i64 i0),(.int .i64 i1),(.int .i64 i2),(.int .i64 i3)]),(.agg [(.int .i64 i31),(.int .i64 i32),(.int .i64 i33),(.int .i64 i34)])]:Ls))
 False)))
 (cbr (decide (i17=(1:Int)))
 (cbr (decide (i35=(0:Int)))
 (a ([(.agg [(.int .i64 i4),(.int .i64 i5),(.int .i64 i6),(.int .i64 i7)]),(.agg [(.int .i64 i23),(.int .i64 i24),(.int .i64 i25),(.int .i64 i26)])]:Ls))
 (cbr (decide (i35=(1:Int)))
 (a ([(.agg [(.int .i64 i4),(.int .i64 i5),(.int .i64 i6),(.int .i64 i7)]),(.agg [(.int .i64 i27),(.int .i64 i28),(.int .i64 i29),(.int .i64 i30)])]:Ls))
 (cbr (decide (i35=(2:Int)))
 (a ([(.agg [(.int .i64 i4),(.int .i64 i5),(.int .i64 i6),(.int .i64 i7)]),(.agg [(.int .i64 i31),(.int .i64 i32),(.int .i64 i33),(.int .i64 i34)])]:Ls))
 False)))
 (cbr (decide (i17=(2:Int)))
 (cbr (decide (i35=(0:Int)))
 (a ([(.agg [(.int .i64 i8),(.int .i64 i9),(.int .i64 i10),(.int .i64 i11)]),(.agg [(.int .i64 i23),(.int .i64 i24),(.int .i64 i25),(.int .i64 i26)])]:Ls))
 (cbr (decide (i35=(1:Int)))
 (a ([(.agg [(.int .i64 i8),(.int .i64 i9),(.int .i64 i10),(.int .i64 i11)]),(.agg [(.int .i64 i27),(.int .i64 i28),(.int .i64 i29),(.int .i64 i30)])]:Ls))
 (cbr (decide (i35=(2:Int)))
 (a ([(.agg [(.int .i64 i8),(.int .i64 i9),(.int .i64 i10),(.int .i64 i11)]),(.agg [(.int .i64 i31),(.int .i64 i32),(.int .i64 i33),(.int .i64 i34)])]:Ls))
 False)))
 False)))
 (cbr (decide (i35=(1:Int)))
 (cbr (decide (i18=(0:Int)))
 (cbr (decide (i35=(0:Int)))
 (a ([(.agg [(.int .i64 i0),(.int .i64 i1),(.int .i64 i2),(.int .i64 i3)]),(.agg [(.int .i64 i23),(.int .i64 i24),(.int .i64 i25),(.int .i64 i26)])]:Ls))
 (cbr (decide (i35=(1:Int)))
 (a ([(.agg [(.int .i64 i0),(.int .i64 i1),(.int .i64 i2),(.int .i64 i3)]),(.agg [(.int .i64 i27),(.int .i64 i28),(.int .i64 i29),(.int .i64 i30)])]:Ls))
 (cbr (decide (i35=(2:Int)))
 (a ([(.agg [(.int .i64 i0),(.int .i64 i1),(.int .i64 i2),(.int .i64 i3)]),(.agg [(.int .i64 i31),(.int .i64 i32),(.int .i64 i33),(.int .i64 i34)])]:Ls))
 False)))
 (cbr (decide (i18=(1:Int)))
 (cbr (decide (i35=(0:Int)))
 (a ([(.agg [(.int .i64 i4),(.int .i64 i5),(.int .i64 i6),(.int .i64 i7)]),(.agg [(.int .i64 i23),(.int .i64 i24),(.int .i64 i25),(.int .i64 i26)])]:Ls))
 (cbr (decide (i35=(1:Int)))
 (a ([(.agg [(.int .i64 i4),(.int .i64 i5),(.int .i64 i6),(.int .i64 i7)]),(.agg [(.int .i64 i27),(.int .i64 i28),(.int .i64 i29),(.int .i64 i30)])]:Ls))
 (cbr (decide (i35=(2:Int)))
 (a ([(.agg [(.int .i64 i4),(.int .i64 i5),(.int .i64 i6),(.int .i64 i7)]),(.agg [(.int .i64 i31),(.int .i64 i32),(.int .i64 i33),(.int .i64 i34)])]:Ls))
 False)))
 (cbr (decide (i18=(2:Int)))
 (cbr (decide (i35=(0:Int)))
 (a ([(.agg [(.int .i64 i8),(.int .i64 i9),(.int .i64 i10),(.int .i64 i11)]),(.agg [(.int .i64 i23),(.int .i64 i24),(.int .i64 i25),(.int .i64 i26)])]:Ls))
 (cbr (decide (i35=(1:Int)))
 (a ([(.agg [(.int .i64 i8),(.int .i64 i9),(.int .i64 i10),(.int .i64 i11)]),(.agg [(.int .i64 i27),(.int .i64 i28),(.int .i64 i29),(.int .i64 i30)])]:Ls))
 (cbr (decide (i35=(2:Int)))
 (a ([(.agg [(.int .i64 i8),(.int .i64 i9),(.int .i64 i10),(.int .i64 i11)]),(.agg [(.int .i64 i31),(.int .i64 i32),(.int .i64 i33),(.int .i64 i34)])]:Ls))
 False)))
 False)))
 (cbr (decide (i35=(2:Int)))
 (cbr (decide (i19=(0:Int)))
 (cbr (decide (i35=(0:Int)))
 (a ([(.agg [(.int .i64 i0),(.int .i64 i1),(.int .i64 i2),(.int .i64 i3)]),(.agg [(.int .i64 i23),(.int .i64 i24),(.int .i64 i25),(.int .i64 i26)])]:Ls))
 (cbr (decide (i35=(1:Int)))
 (a ([(.agg [(.int .i64 i0),(.int .i64 i1),(.int .i64 i2),(.int .i64 i3)]),(.agg [(.int .i64 i27),(.int .i64 i28),(.int .i64 i29),(.int .i64 i30)])]:Ls))
 (cbr (decide (i35=(2:Int)))
 (a ([(.agg [(.int .i64 i0),(.int .i64 i1),(.int .i64 i2),(.int .i64 i3)]),(.agg [(.int .i64 i31),(.int .i64 i32),(.int .i64 i33),(.int .i64 i34)])]:Ls))
 False)))
 (cbr (decide (i19=(1:Int)))
 (cbr (decide (i35=(0:Int)))
 (a ([(.agg [(.int .i64 i4),(.int .i64 i5),(.int .i64 i6),(.int .i64 i7)]),(.agg [(.int .i64 i23),(.int .i64 i24),(.int .i64 i25),(.int .i64 i26)])]:Ls))
 (cbr (decide (i35=(1:Int)))
 (a ([(.agg [(.int .i64 i4),(.int .i64 i5),(.int .i64 i6),(.int .i64 i7)]),(.agg [(.int .i64 i27),(.int .i64 i28),(.int .i64 i29),(.int .i64 i30)])]:Ls))
 (cbr (decide (i35=(2:Int)))
 (a ([(.agg [(.int .i64 i4),(.int .i64 i5),(.int .i64 i6),(.int .i64 i7)]),(.agg [(.int .i64 i31),(.int .i64 i32),(.int .i64 i33),(.int .i64 i34)])]:Ls))
 False)))
 (cbr (decide (i19=(2:Int)))
 (cbr (decide (i35=(0:Int)))
 (a ([(.agg [(.int .i64 i8),(.int .i64 i9),(.int .i64 i10),(.int .i64 i11)]),(.agg [(.int .i64 i23),(.int .i64 i24),(.int .i64 i25),(.int .i64 i26)])]:Ls))
 (cbr (decide (i35=(1:Int)))
 (a ([(.agg [(.int .i64 i8),(.int .i64 i9),(.int .i64 i10),(.int .i64 i11)]),(.agg [(.int .i64 i27),(.int .i64 i28),(.int .i64 i29),(.int .i64 i30)])]:Ls))
 (cbr (decide (i35=(2:Int)))
 (a ([(.agg [(.int .i64 i8),(.int .i64 i9),(.int .i64 i10),(.int .i64 i11)]),(.agg [(.int .i64 i31),(.int .i64 i32),(.int .i64 i33),(.int .i64 i34)])]:Ls))
 False)))
 False)))
 False))))
 (fun i=>(∃ j:Nat,ydS a0 a1 a2 a3 a4
 (fun k l m n o p q r s t u v w x y z A B C D E F G H I J K L M N O Q R S T U _ _ _ _=>(a3 ([]:Ls) (fun V W =>
 (a4 V W (fun c =>
 (lt (IntKind.i64.wrap (U+(1:Int))) (fun X =>
 (asr (decide (1=List.length ([(.data c)]:Ls))&&decide (1=List.length ([(.data c)]:Ls)))
 (yfy a0 a1 a2 a3 a4 g e ([(.data c)]:Ls) k l m n o p q r s t u v w x y z A B C D E F G H I J K L M N O Q R S T X)))))))))
 (fun b Y Z va vb vc vd ve vf vg vh vi vj vk vl vm vn vo vp vq vr vs vt vu vv vw vx vy vz vA vB vC vD vE vF vG vH _ _ _ _=>(asr (decide ((List.length b)=(List.length b)))
 (asr (decide ((0+(List.length b))≤(List.length b)))
 (a3 (List.take (List.length b) b) (fun vI vJ =>
 (a4 vI vJ (fun d =>
 (lt (IntKind.i64.wrap (vH+(1:Int))) (fun vK =>
 (asr (decide (1=List.length ([(.data d)]:Ls))&&decide (1=List.length ([(.data d)]:Ls)))
 (yay a0 a1 a2 a3 a4 h e ([(.data d)]:Ls) Y Z va vb vc vd ve vf vg vh vi vj vk vl vm vn vo vp vq vr vs vt vu vv vw vx vy vz vA vB vC vD vE vF vG vK)))))))))))
 j i0 i1 i2 i3 i4 i5 i6 i7 i8 i9 i10 i11 i12 i13 i14 i15 i16 i17 i18 i19 i20 l21 l22 i23 i24 i25 i26 i27 i28 i29 i30 i31 i32 i33 i34 i35 i (2:Int) (0:Int))))
 (f i0 i1 i2 i3 i4 i5 i6 i7 i8 i9 i10 i11 i12 i13 i14 i15 i16 i17 i18 i19 i20 l21 l22 i23 i24 i25 i26 i27 i28 i29 i30 i31 i32 i33 i34 i35 false))
def yk6 (a0:yau) (a1:yaD) (a2:yaE) (a3:ybe) (a4:yaF) (p0:Ls) (K:Ls→Int→Int→Int→Int→Int→Int→Int→Int→Int→Int→Int→Int→Int→Int→Int→Int→Int→Int→Int→Int→Ls→Int→Prop):Prop :=
 (a0 p0 ([]:Ls) (fun d =>
 (cbr (d !=(0:Int))
 (K ([]:Ls) (0:Int) (0:Int) (0:Int) (0:Int) (0:Int) (0:Int) (0:Int) (0:Int) (0:Int) (0:Int) (0:Int) (0:Int) (0:Int) (0:Int) (0:Int) (0:Int) (0:Int) (0:Int) (0:Int) (0:Int) ([]:Ls) d)
 (a1 p0 ([]:Ls) (fun e f g h i j k l m n o p c q r s t u v w x y =>
 (jn (fun (z:Ls→Ls→Int→Int→Int→Int→Int→Int→Int→Int→Int→Int→Int→Int→Prop) =>
 (cbr (decide (c≥(0:Int)))
 (a2 x y e f g h i j k l m n o p c q r s t u v w (fun D E F G H I J L M N O Q R S =>
 (z R S D E F G H I J L M N O Q)))
 (z x y (0:Int) (0:Int) (0:Int) (0:Int) (0:Int) (0:Int) (0:Int) (0:Int) (0:Int) (0:Int) (0:Int) (0:Int))))
 (fun T U V W X Y Z va vb vc vd ve vf vg=>(∃ vh:Nat,ybn a0 a1 a2 a3 a4
 (fun vi vj vk vl vm vn vo vp vq vr vs vt vu vv vw vx vy vz vA vB A _ vC _ _ _ _ _ _ _ _ _ _ _ _ _ _=>(cbr (A !=(0:Int))
 (K ([]:Ls) (0:Int) (0:Int) (0:Int) (0:Int) (0:Int) (0:Int) (0:Int) (0:Int) (0:Int) (0:Int) (0:Int) (0:Int) (0:Int) (0:Int) (0:Int) (0:Int) (0:Int) (0:Int) (0:Int) (0:Int) ([]:Ls) A)
 (K ([]:Ls) vi vj vk vl vm vn vo vp vq vr vs vt vu vv vw vx vy vz vA vB vC (0:Int))))
 (fun a vD vE vF vG vH vI vJ vK vL vM vN vO vP vQ vR vS vT vU vV vW B _ vX _ _ _ _ _ _ _ _ _ _ _ _ _ _=>(cbr (B !=(0:Int))
 (K ([]:Ls) (0:Int) (0:Int) (0:Int) (0:Int) (0:Int) (0:Int) (0:Int) (0:Int) (0:Int) (0:Int) (0:Int) (0:Int) (0:Int) (0:Int) (0:Int) (0:Int) (0:Int) (0:Int) (0:Int) (0:Int) ([]:Ls) B)
 (asr (decide ((List.length a)=(List.length a)))
 (asr (decide ((0+(List.length a))≤(List.length a)))
 (K (List.take (List.length a) a) vD vE vF vG vH vI vJ vK vL vM vN vO vP vQ vR vS vT vU vV vW vX (0:Int))))))
 (fun b vY vZ v0 v1 v2 v3 v4 v5 v6 v7 v8 v9 wa wb wc wd we wf wg wh C _ wi _ _ _ _ _ _ _ _ _ _ _ _ _ _=>(cbr (C !=(0:Int))
 (K ([]:Ls) (0:Int) (0:Int) (0:Int) (0:Int) (0:Int) (0:Int) (0:Int) (0:Int) (0:Int) (0:Int) (0:Int) (0:Int) (0:Int) (0:Int) (0:Int) (0:Int) (0:Int) (0:Int) (0:Int) (0:Int) ([]:Ls) C)
 (asr (decide ((List.length b)=(List.length b)))
 (asr (decide ((0+(List.length b))≤(List.length b)))
 (K (List.take (List.length b) b) vY vZ v0 v1 v2 v3 v4 v5 v6 v7 v8 v9 wa wb wc wd we wf wg wh wi (0:Int))))))
 vh e f g h i j k l m n o p c q r s t u v w (0:Int) T U V W X Y Z va vb vc vd ve vf vg (0:Int)))))))))
def yel:ydv:=yk6 yao yaf yag yak yae
def yzY:Sg:=⟨pt9,Ls→Int→Int→Int→Int→Int→Int→Int→Int→Int→Int→Int→Int→Int→Int→Int→Int→Int→Int→Int→Int→Ls→Int→Prop,fun K=>(fun r0 r1 r2 r3 r4 r5 r6 r7 r8 r9 r10 r11 r12 r13 r14 r15 r16 r17 r18 r19 r20 r21 r22=>K (.tup [(.agg [(.data r0)]),(.agg [(.int .i64 r1),(.int .i64 r2),(.int .i64 r3),(.int .i64 r4),(.int .i64 r5),(.int .i64 r6),(.int .i64 r7),(.int .i64 r8),(.int .i64 r9),(.int .i64 r10),(.int .i64 r11),(.int .i64 r12),(.int .i64 r13),(.int .i64 r14),(.int .i64 r15),(.int .i64 r16),(.int .i64 r17),(.int .i64 r18),(.int .i64 r19),(.int .i64 r20)]),(.data r21),(.int .i64 r22)]))⟩
def yvf (Q:Qx):Int→Int→Int→Int→Int→Int→Int→Int→Int→Int→Int→Int→Int→Int→Int→Int→Int→Int→Int→Int→Int→Ls→Ls→Int→Int→Int→Int→Int→Int→Int→Int→Int→Int→Int→Int→Int→Ls→Int→Int→Bool→Prop:=(fun i0 i1 i2 i3 i4 i5 i6 i7 i8 i9 i10 i11 i12 i13 i14 i15 i16 i17 i18 i19 i20 l21 l22 i23 i24 i25 i26 i27 i28 i29 i30 i31 i32 i33 i34 i35 l36 i37 i38 b39=>Q (.exit 2) [(2,.v (.ptr 1 1 0 0)),(3,.v (.ptr 0 1 0 0)),(4,.box (.agg [(.int .i64 i23),(.int .i64 i24),(.int .i64 i25),(.int .i64 i26),(.int .i64 i27),(.int .i64 i28),(.int .i64 i29),(.int .i64 i30),(.int .i64 i31),(.int .i64 i32),(.int .i64 i33),(.int .i64 i34)])),(6,.v .nils),(15,.v (.int .i64 i35)),(28,.v (.data l36)),(29,.v (.int .i64 i37)),(30,.v (.int .i64 i38)),(31,.v (.bool b39))] [⟨false,false,1,([(.agg [.nils])]:Ls)⟩,⟨false,true,20,([(.agg [(.int .i64 i0),(.int .i64 i1),(.int .i64 i2),(.int .i64 i3),(.int .i64 i4),(.int .i64 i5),(.int .i64 i6),(.int .i64 i7),(.int .i64 i8),(.int .i64 i9),(.int .i64 i10),(.int .i64 i11),(.int .i64 i12),(.int .i64 i13),(.int .i64 i14),(.int .i64 i15),(.int .i64 i16),(.int .i64 i17),(.int .i64 i18),(.int .i64 i19)])]:Ls)⟩,⟨false,true,1,([(.int .i64 i20)]:Ls)⟩,⟨false,true,2,([(.agg [(.data l21),(.data l22)])]:Ls)⟩])
def ylO (Q:Qx):Ls→Int→Int→Int→Int→Int→Int→Int→Int→Int→Int→Int→Int→Int→Int→Int→Int→Int→Int→Int→Int→Int→Ls→Ls→Int→Int→Int→Int→Int→Int→Int→Int→Int→Int→Int→Int→Int→Ls→Int→Int→Bool→Prop:=(fun l0 i1 i2 i3 i4 i5 i6 i7 i8 i9 i10 i11 i12 i13 i14 i15 i16 i17 i18 i19 i20 i21 l22 l23 i24 i25 i26 i27 i28 i29 i30 i31 i32 i33 i34 i35 i38 l39 i40 i41 b42=>Q (.exit 2) [(2,.v (.ptr 1 1 0 0)),(3,.v (.ptr 0 1 0 0)),(4,.box (.agg [(.int .i64 i24),(.int .i64 i25),(.int .i64 i26),(.int .i64 i27),(.int .i64 i28),(.int .i64 i29),(.int .i64 i30),(.int .i64 i31),(.int .i64 i32),(.int .i64 i33),(.int .i64 i34),(.int .i64 i35)])),(6,.v (.own 4 0 (List.length l0) (List.length l0) none)),(15,.v (.int .i64 i38)),(28,.v (.data l39)),(29,.v (.int .i64 i40)),(30,.v (.int .i64 i41)),(31,.v (.bool b42))] [⟨false,false,1,([(.agg [.nils])]:Ls)⟩,⟨false,true,20,([(.agg [(.int .i64 i1),(.int .i64 i2),(.int .i64 i3),(.int .i64 i4),(.int .i64 i5),(.int .i64 i6),(.int .i64 i7),(.int .i64 i8),(.int .i64 i9),(.int .i64 i10),(.int .i64 i11),(.int .i64 i12),(.int .i64 i13),(.int .i64 i14),(.int .i64 i15),(.int .i64 i16),(.int .i64 i17),(.int .i64 i18),(.int .i64 i19),(.int .i64 i20)])]:Ls)⟩,⟨false,true,1,([(.int .i64 i21)]:Ls)⟩,⟨false,true,2,([(.agg [(.data l22),(.data l23)])]:Ls)⟩,⟨false,true,4,l0⟩])
def yvg (Q:Qx):Ls→Int→Int→Int→Int→Int→Int→Int→Int→Int→Int→Int→Int→Int→Int→Int→Int→Int→Int→Int→Int→Int→Ls→Ls→Int→Int→Int→Int→Int→Int→Int→Int→Int→Int→Int→Int→Int→Ls→Int→Int→Bool→Prop:=(fun l0 i3 i4 i5 i6 i7 i8 i9 i10 i11 i12 i13 i14 i15 i16 i17 i18 i19 i20 i21 i22 i23 l24 l25 i26 i27 i28 i29 i30 i31 i32 i33 i34 i35 i36 i37 i38 l39 i40 i41 b42=>Q (.exit 2) [(2,.v (.ptr 1 1 0 0)),(3,.v (.ptr 0 1 0 0)),(4,.box (.agg [(.int .i64 i26),(.int .i64 i27),(.int .i64 i28),(.int .i64 i29),(.int .i64 i30),(.int .i64 i31),(.int .i64 i32),(.int .i64 i33),(.int .i64 i34),(.int .i64 i35),(.int .i64 i36),(.int .i64 i37)])),(6,.v .nils),(15,.v (.int .i64 i38)),(28,.v (.data l39)),(29,.v (.int .i64 i40)),(30,.v (.int .i64 i41)),(31,.v (.bool b42))] [⟨false,false,1,([(.agg [(.own 4 0 (List.length l0) (List.length l0) none)])]:Ls)⟩,⟨false,true,20,([(.agg [(.int .i64 i3),(.int .i64 i4),(.int .i64 i5),(.int .i64 i6),(.int .i64 i7),(.int .i64 i8),(.int .i64 i9),(.int .i64 i10),(.int .i64 i11),(.int .i64 i12),(.int .i64 i13),(.int .i64 i14),(.int .i64 i15),(.int .i64 i16),(.int .i64 i17),(.int .i64 i18),(.int .i64 i19),(.int .i64 i20),(.int .i64 i21),(.int .i64 i22)])]:Ls)⟩,⟨false,true,1,([(.int .i64 i23)]:Ls)⟩,⟨false,true,2,([(.agg [(.data l24),(.data l25)])]:Ls)⟩,⟨false,true,1,l0⟩])
def ylP (Q:Qx):Ls→Ls→Int→Int→Int→Int→Int→Int→Int→Int→Int→Int→Int→Int→Int→Int→Int→Int→Int→Int→Int→Int→Int→Ls→Ls→Int→Int→Int→Int→Int→Int→Int→Int→Int→Int→Int→Int→Int→Ls→Int→Int→Bool→Prop:=(fun l0 l1 i4 i5 i6 i7 i8 i9 i10 i11 i12 i13 i14 i15 i16 i17 i18 i19 i20 i21 i22 i23 i24 l25 l26 i27 i28 i29 i30 i31 i32 i33 i34 i35 i36 i37 i38 i41 l42 i43 i44 b45=>Q (.exit 2) [(2,.v (.ptr 1 1 0 0)),(3,.v (.ptr 0 1 0 0)),(4,.box (.agg [(.int .i64 i27),(.int .i64 i28),(.int .i64 i29),(.int .i64 i30),(.int .i64 i31),(.int .i64 i32),(.int .i64 i33),(.int .i64 i34),(.int .i64 i35),(.int .i64 i36),(.int .i64 i37),(.int .i64 i38)])),(6,.v (.own 5 0 (List.length l1) (List.length l1) none)),(15,.v (.int .i64 i41)),(28,.v (.data l42)),(29,.v (.int .i64 i43)),(30,.v (.int .i64 i44)),(31,.v (.bool b45))] [⟨false,false,1,([(.agg [(.own 4 0 (List.length l0) (List.length l0) none)])]:Ls)⟩,⟨false,true,20,([(.agg [(.int .i64 i4),(.int .i64 i5),(.int .i64 i6),(.int .i64 i7),(.int .i64 i8),(.int .i64 i9),(.int .i64 i10),(.int .i64 i11),(.int .i64 i12),(.int .i64 i13),(.int .i64 i14),(.int .i64 i15),(.int .i64 i16),(.int .i64 i17),(.int .i64 i18),(.int .i64 i19),(.int .i64 i20),(.int .i64 i21),(.int .i64 i22),(.int .i64 i23)])]:Ls)⟩,⟨false,true,1,([(.int .i64 i24)]:Ls)⟩,⟨false,true,2,([(.agg [(.data l25),(.data l26)])]:Ls)⟩,⟨false,true,1,l0⟩,⟨false,true,4,l1⟩])
def yvh (Q:Qx):Ls→Int→Int→Int→Int→Int→Int→Int→Int→Int→Int→Int→Int→Int→Int→Int→Int→Int→Int→Int→Int→Int→Ls→Ls→Int→Int→Int→Int→Int→Int→Int→Int→Int→Int→Int→Int→Int→Ls→Int→Int→Bool→Prop:=(fun l0 i3 i4 i5 i6 i7 i8 i9 i10 i11 i12 i13 i14 i15 i16 i17 i18 i19 i20 i21 i22 i23 l24 l25 i26 i27 i28 i29 i30 i31 i32 i33 i34 i35 i36 i37 i38 l39 i40 i41 b42=>Q (.exit 2) [(2,.v (.ptr 1 1 0 0)),(3,.v (.ptr 0 1 0 0)),(4,.box (.agg [(.int .i64 i26),(.int .i64 i27),(.int .i64 i28),(.int .i64 i29),(.int .i64 i30),(.int .i64 i31),(.int .i64 i32),(.int .i64 i33),(.int .i64 i34),(.int .i64 i35),(.int .i64 i36),(.int .i64 i37)])),(6,.v .nils),(15,.v (.int .i64 i38)),(28,.v (.data l39)),(29,.v (.int .i64 i40)),(30,.v (.int .i64 i41)),(31,.v (.bool b42))] [⟨false,false,1,([(.agg [(.own 5 0 (List.length l0) (List.length l0) none)])]:Ls)⟩,⟨false,true,20,([(.agg [(.int .i64 i3),(.int .i64 i4),(.int .i64 i5),(.int .i64 i6),(.int .i64 i7),(.int .i64 i8),(.int .i64 i9),(.int .i64 i10),(.int .i64 i11),(.int .i64 i12),(.int .i64 i13),(.int .i64 i14),(.int .i64 i15),(.int .i64 i16),(.int .i64 i17),(.int .i64 i18),(.int .i64 i19),(.int .i64 i20),(.int .i64 i21),(.int .i64 i22)])]:Ls)⟩,⟨false,true,1,([(.int .i64 i23)]:Ls)⟩,⟨false,true,2,([(.agg [(.data l24),(.data l25)])]:Ls)⟩,⟨true,true,4,([]:Ls)⟩,⟨false,true,1,l0⟩])
def ylQ (Q:Qx):Ls→Ls→Int→Int→Int→Int→Int→Int→Int→Int→Int→Int→Int→Int→Int→Int→Int→Int→Int→Int→Int→Int→Int→Ls→Ls→Int→Int→Int→Int→Int→Int→Int→Int→Int→Int→Int→Int→Int→Ls→Int→Int→Bool→Prop:=(fun l0 l1 i4 i5 i6 i7 i8 i9 i10 i11 i12 i13 i14 i15 i16 i17 i18 i19 i20 i21 i22 i23 i24 l25 l26 i27 i28 i29 i30 i31 i32 i33 i34 i35 i36 i37 i38 i41 l42 i43 i44 b45=>Q (.exit 2) [(2,.v (.ptr 1 1 0 0)),(3,.v (.ptr 0 1 0 0)),(4,.box (.agg [(.int .i64 i27),(.int .i64 i28),(.int .i64 i29),(.int .i64 i30),(.int .i64 i31),(.int .i64 i32),(.int .i64 i33),(.int .i64 i34),(.int .i64 i35),(.int .i64 i36),(.int .i64 i37),(.int .i64 i38)])),(6,.v (.own 6 0 (List.length l1) (List.length l1) none)),(15,.v (.int .i64 i41)),(28,.v (.data l42)),(29,.v (.int .i64 i43)),(30,.v (.int .i64 i44)),(31,.v (.bool b45))] [⟨false,false,1,([(.agg [(.own 5 0 (List.length l0) (List.length l0) none)])]:Ls)⟩,⟨false,true,20,([(.agg [(.int .i64 i4),(.int .i64 i5),(.int .i64 i6),(.int .i64 i7),(.int .i64 i8),(.int .i64 i9),(.int .i64 i10),(.int .i64 i11),(.int .i64 i12),(.int .i64 i13),(.int .i64 i14),(.int .i64 i15),(.int .i64 i16),(.int .i64 i17),(.int .i64 i18),(.int .i64 i19),(.int .i64 i20),(.int .i64 i21),(.int .i64 i22),(.int .i64 i23)])]:Ls)⟩,⟨false,true,1,([(.int .i64 i24)]:Ls)⟩,⟨false,true,2,([(.agg [(.data l25),(.data l26)])]:Ls)⟩,⟨true,true,4,([]:Ls)⟩,⟨false,true,1,l0⟩,⟨false,true,4,l1⟩])
def yvi (Q:Qx):Int→Int→Int→Int→Int→Int→Int→Int→Int→Int→Int→Int→Int→Int→Int→Int→Int→Int→Int→Int→Int→Ls→Ls→Int→Int→Int→Int→Int→Int→Int→Int→Int→Int→Int→Int→Int→Bool→Prop:=(fun i0 i1 i2 i3 i4 i5 i6 i7 i8 i9 i10 i11 i12 i13 i14 i15 i16 i17 i18 i19 i20 l21 l22 i23 i24 i25 i26 i27 i28 i29 i30 i31 i32 i33 i34 i35 b36=>Q (.exit 0) [(2,.v (.ptr 1 1 0 0)),(3,.v (.ptr 0 1 0 0)),(4,.box (.agg [(.int .i64 i23),(.int .i64 i24),(.int .i64 i25),(.int .i64 i26),(.int .i64 i27),(.int .i64 i28),(.int .i64 i29),(.int .i64 i30),(.int .i64 i31),(.int .i64 i32),(.int .i64 i33),(.int .i64 i34)])),(15,.v (.int .i64 i35)),(16,.v (.bool b36))] [⟨false,false,1,([(.agg [.nils])]:Ls)⟩,⟨false,true,20,([(.agg [(.int .i64 i0),(.int .i64 i1),(.int .i64 i2),(.int .i64 i3),(.int .i64 i4),(.int .i64 i5),(.int .i64 i6),(.int .i64 i7),(.int .i64 i8),(.int .i64 i9),(.int .i64 i10),(.int .i64 i11),(.int .i64 i12),(.int .i64 i13),(.int .i64 i14),(.int .i64 i15),(.int .i64 i16),(.int .i64 i17),(.int .i64 i18),(.int .i64 i19)])]:Ls)⟩,⟨false,true,1,([(.int .i64 i20)]:Ls)⟩,⟨false,true,2,([(.agg [(.data l21),(.data l22)])]:Ls)⟩])
def ylR (Q:Qx):Ls→Int→Int→Int→Int→Int→Int→Int→Int→Int→Int→Int→Int→Int→Int→Int→Int→Int→Int→Int→Int→Int→Ls→Ls→Int→Int→Int→Int→Int→Int→Int→Int→Int→Int→Int→Int→Int→Bool→Prop:=(fun l0 i3 i4 i5 i6 i7 i8 i9 i10 i11 i12 i13 i14 i15 i16 i17 i18 i19 i20 i21 i22 i23 l24 l25 i26 i27 i28 i29 i30 i31 i32 i33 i34 i35 i36 i37 i38 b39=>Q (.exit 0) [(2,.v (.ptr 1 1 0 0)),(3,.v (.ptr 0 1 0 0)),(4,.box (.agg [(.int .i64 i26),(.int .i64 i27),(.int .i64 i28),(.int .i64 i29),(.int .i64 i30),(.int .i64 i31),(.int .i64 i32),(.int .i64 i33),(.int .i64 i34),(.int .i64 i35),(.int .i64 i36),(.int .i64 i37)])),(15,.v (.int .i64 i38)),(16,.v (.bool b39))] [⟨false,false,1,([(.agg [(.own 4 0 (List.length l0) (List.length l0) none)])]:Ls)⟩,⟨false,true,20,([(.agg [(.int .i64 i3),(.int .i64 i4),(.int .i64 i5),(.int .i64 i6),(.int .i64 i7),(.int .i64 i8),(.int .i64 i9),(.int .i64 i10),(.int .i64 i11),(.int .i64 i12),(.int .i64 i13),(.int .i64 i14),(.int .i64 i15),(.int .i64 i16),(.int .i64 i17),(.int .i64 i18),(.int .i64 i19),(.int .i64 i20),(.int .i64 i21),(.int .i64 i22)])]:Ls)⟩,⟨false,true,1,([(.int .i64 i23)]:Ls)⟩,⟨false,true,2,([(.agg [(.data l24),(.data l25)])]:Ls)⟩,⟨false,true,1,l0⟩])
def ylS (Q:Qx):Ls→Int→Int→Int→Int→Int→Int→Int→Int→Int→Int→Int→Int→Int→Int→Int→Int→Int→Int→Int→Int→Int→Ls→Ls→Int→Int→Int→Int→Int→Int→Int→Int→Int→Int→Int→Int→Int→Bool→Prop:=(fun l0 i3 i4 i5 i6 i7 i8 i9 i10 i11 i12 i13 i14 i15 i16 i17 i18 i19 i20 i21 i22 i23 l24 l25 i26 i27 i28 i29 i30 i31 i32 i33 i34 i35 i36 i37 i38 b39=>Q (.exit 0) [(2,.v (.ptr 1 1 0 0)),(3,.v (.ptr 0 1 0 0)),(4,.box (.agg [(.int .i64 i26),(.int .i64 i27),(.int .i64 i28),(.int .i64 i29),(.int .i64 i30),(.int .i64 i31),(.int .i64 i32),(.int .i64 i33),(.int .i64 i34),(.int .i64 i35),(.int .i64 i36),(.int .i64 i37)])),(15,.v (.int .i64 i38)),(16,.v (.bool b39))] [⟨false,false,1,([(.agg [(.own 5 0 (List.length l0) (List.length l0) none)])]:Ls)⟩,⟨false,true,20,([(.agg [(.int .i64 i3),(.int .i64 i4),(.int .i64 i5),(.int .i64 i6),(.int .i64 i7),(.int .i64 i8),(.int .i64 i9),(.int .i64 i10),(.int .i64 i11),(.int .i64 i12),(.int .i64 i13),(.int .i64 i14),(.int .i64 i15),(.int .i64 i16),(.int .i64 i17),(.int .i64 i18),(.int .i64 i19),(.int .i64 i20),(.int .i64 i21),(.int .i64 i22)])]:Ls)⟩,⟨false,true,1,([(.int .i64 i23)]:Ls)⟩,⟨false,true,2,([(.agg [(.data l24),(.data l25)])]:Ls)⟩,⟨true,true,4,([]:Ls)⟩,⟨false,true,1,l0⟩])
def pt50:HPt:=hB false false 1 (rC (vA (lC vNs lN)) rN) (hB false true 20 pt41 (hB false true 1 pt17 (hB false true 2 pt38 hN)))
def pt51:Pat Frm:=fV 15 pt0 (fV 28 vD (fV 29 pt0 (fV 30 pt0 fN)))
def pt52:Pat Frm:=fV 2 pt20 (fV 3 pt19 (fX 4 (vA pt39) (fV 6 vNs pt51)))
def pt53:HPt:=hB false false 1 (rC (vA (lC pt49 lN)) rN) (hB false true 20 pt41 (hB false true 1 pt17 (hB false true 2 pt38 pt37)))
def pt54:VPt:=vW 5 (nK 0) (nT 5) (nT 5)
def pt55:HPt:=hB false false 1 (rC (vA (lC pt54 lN)) rN) (hB false true 20 pt41 (hB false true 1 pt17 (hB false true 2 pt38 (hB true true 4 rN pt37))))
def ynE (a0:yau) (a1:yaD) (a2:yaE) (a3:ybe) (a4:yaF) (Q:Qx):List St:=[⟨(pS pt50 pt52 fN),ydS a0 a1 a2 a3 a4 (yvf Q) (ylO Q)⟩,⟨(pS (hB false false 1 (rC (vA (lC vNs lN)) rN) (hB false true 20 pt41 (hB false true 1 pt17 (hB false true 2 pt38 pt22)))) (fV 2 pt20 (fV 3 pt19 (fX 4 (vA pt39) (fV 6 pt49 pt51)))) fN),fun n i1 i2 i3 i4 i5 i6 i7 i8 i9 i10 i11 i12 i13 i14 i15 i16 i17 i18 i19 i20 i21 l22 l23 l0 i24 i25 i26 i27 i28 i29 i30 i31 i32 i33 i34 i35 i38 l39 i40 i41=>yfx a0 a1 a2 a3 a4 (ylO Q) n l0 i1 i2 i3 i4 i5 i6 i7 i8 i9 i10 i11 i12 i13 i14 i15 i16 i17 i18 i19 i20 i21 l22 l23 i24 i25 i26 i27 i28 i29 i30 i31 i32 i33 i34 i35 i38 l39 i40 i41⟩,⟨(pS pt53 pt52 fN),fun n i3 i4 i5 i6 i7 i8 i9 i10 i11 i12 i13 i14 i15 i16 i17 i18 i19 i20 i21 i22 i23 l24 l25 l0 i26 i27 i28 i29 i30 i31 i32 i33 i34 i35 i36 i37 i38 l39 i40 i41=>yhN a0 a1 a2 a3 a4 (yvg Q) (ylP Q) n l0 i3 i4 i5 i6 i7 i8 i9 i10 i11 i12 i13 i14 i15 i16 i17 i18 i19 i20 i21 i22 i23 l24 l25 i26 i27 i28 i29 i30 i31 i32 i33 i34 i35 i36 i37 i38 l39 i40 i41⟩,⟨(pS (hB false false 1 (rC (vA (lC pt49 lN)) rN) (hB false true 20 pt41 (hB false true 1 pt17 (hB false true 2 pt38 (hB false true 1 rA pt22))))) (fV 2 pt20 (fV 3 pt19 (fX 4 (vA pt39) (fV 6 pt54 pt51)))) fN),fun n i4 i5 i6 i7 i8 i9 i10 i11 i12 i13 i14 i15 i16 i17 i18 i19 i20 i21 i22 i23 i24 l25 l26 l0 l1 i27 i28 i29 i30 i31 i32 i33 i34 i35 i36 i37 i38 i41 l42 i43 i44=>yhM a0 a1 a2 a3 a4 (ylP Q) n l0 l1 i4 i5 i6 i7 i8 i9 i10 i11 i12 i13 i14 i15 i16 i17 i18 i19 i20 i21 i22 i23 i24 l25 l26 i27 i28 i29 i30 i31 i32 i33 i34 i35 i36 i37 i38 i41 l42 i43 i44⟩,⟨(pS pt55 pt52 fN),fun n i3 i4 i5 i6 i7 i8 i9 i10 i11 i12 i13 i14 i15 i16 i17 i18 i19 i20 i21 i22 i23 l24 l25 l0 i26 i27 i28 i29 i30 i31 i32 i33 i34 i35 i36 i37 i38 l39 i40 i41=>ycn a0 a1 a2 a3 a4 (yvh Q) (ylQ Q) n l0 i3 i4 i5 i6 i7 i8 i9 i10 i11 i12 i13 i14 i15 i16 i17 i18 i19 i20 i21 i22 i23 l24 l25 i26 i27 i28 i29 i30 i31 i32 i33 i34 i35 i36 i37 i38 l39 i40 i41⟩,⟨(pS (hB false false 1 (rC (vA (lC pt54 lN)) rN) (hB false true 20 pt41 (hB false true 1 pt17 (hB false true 2 pt38 (hB true true 4 rN (hB false true 1 rA pt22)))))) (fV 2 pt20 (fV 3 pt19 (fX 4 (vA pt39) (fV 6 (vW 6 (nK 0) (nT 6) (nT 6)) pt51)))) fN),fun n i4 i5 i6 i7 i8 i9 i10 i11 i12 i13 i14 i15 i16 i17 i18 i19 i20 i21 i22 i23 i24 l25 l26 l0 l1 i27 i28 i29 i30 i31 i32 i33 i34 i35 i36 i37 i38 i41 l42 i43 i44=>ydT a0 a1 a2 a3 a4 (ylQ Q) n l0 l1 i4 i5 i6 i7 i8 i9 i10 i11 i12 i13 i14 i15 i16 i17 i18 i19 i20 i21 i22 i23 i24 l25 l26 i27 i28 i29 i30 i31 i32 i33 i34 i35 i36 i37 i38 i41 l42 i43 i44⟩]
def pt56:Pat Frm:=fV 2 pt20 (fV 3 pt19 (fX 4 (vA pt39) (fV 15 pt0 fN)))
def ynF (a0:yau) (a1:yaD) (a2:yaE) (a3:ybe) (a4:yaF) (Q:Qx):List St:=[⟨(pS pt50 pt56 fN),ybn a0 a1 a2 a3 a4 (yvi Q) (ylR Q) (ylS Q)⟩,⟨(pS pt53 pt56 fN),fun n i3 i4 i5 i6 i7 i8 i9 i10 i11 i12 i13 i14 i15 i16 i17 i18 i19 i20 i21 i22 i23 l24 l25 l0 i26 i27 i28 i29 i30 i31 i32 i33 i34 i35 i36 i37 i38=>yfy a0 a1 a2 a3 a4 (ylR Q) n l0 i3 i4 i5 i6 i7 i8 i9 i10 i11 i12 i13 i14 i15 i16 i17 i18 i19 i20 i21 i22 i23 l24 l25 i26 i27 i28 i29 i30 i31 i32 i33 i34 i35 i36 i37 i38⟩,⟨(pS pt55 pt56 fN),fun n i3 i4 i5 i6 i7 i8 i9 i10 i11 i12 i13 i14 i15 i16 i17 i18 i19 i20 i21 i22 i23 l24 l25 l0 i26 i27 i28 i29 i30 i31 i32 i33 i34 i35 i36 i37 i38=>yay a0 a1 a2 a3 a4 (ylS Q) n l0 i3 i4 i5 i6 i7 i8 i9 i10 i11 i12 i13 i14 i15 i16 i17 i18 i19 i20 i21 i22 i23 l24 l25 i26 i27 i28 i29 i30 i31 i32 i33 i34 i35 i36 i37 i38⟩]
def yh0 (a0:yau) (a1:yaD) (a2:yaE) (a3:ybe) (a4:yaF):LP:=lpS [(52887900,ynE a0 a1 a2 a3 a4),(52887901,ynF a0 a1 a2 a3 a4)]
def yk7 (a0:yau) (a1:yaD) (a2:yaE) (a3:ybe) (a4:yaF):SE:=⟨(E ef0),yfU [(ydh,ymF.pw a0),(ygT,yzJ.pw a3),(ybT,ylL.pw a4)],yfV [],yh0 a0 a1 a2 a3 a4,yln [(ybJ,yci a1),(ych,ycV a2)]⟩
def yqS (a0:yau) (a1:yaD) (a2:yaE) (a3:ybe) (a4:yaF):SE:=⟨(E ef0),yfU [(ydh,ymF.pw a0),(ygT,yzJ.pw a3),(ybT,ylL.pw a4)],yfV [(yoa,yjq)],yh0 a0 a1 a2 a3 a4,yln [(ybJ,yci a1),(ych,ycV a2)]⟩
theorem ypa:SEOk (Uni (E ef0)) (yk7 yao yaf yag yak yae):=yh5 (Sub.uni _) ⟨(yhK ef0 ye2),yqG,(ygB ef0 ye2),trivial⟩ trivial ye2.ok ⟨(yeD ef0 ye2),(yhh ef0 ye2),trivial⟩
theorem ytM (a0 a1 a2 a3 a4):ybS (yk7 a0 a1 a2 a3 a4) 5 a yml true (ynE a0 a1 a2 a3 a4):=fun _=>⟨fun _=>by kernel_rfl,fun _ _=>by kernel_rfl,fun _=>by kernel_rfl,fun _ _=>by kernel_rfl,fun _=>by kernel_rfl,fun _ _=>by kernel_rfl,fun _=>by kernel_rfl,fun _ _=>by kernel_rfl,fun _=>by kernel_rfl,fun _ _=>by kernel_rfl,fun _=>by kernel_rfl,fun _ _=>by kernel_rfl,trivial⟩
theorem yky:LpT (Uni (E ef0)) (yh0 yao yaf yag yak yae) [] 52887900 (.lG 52887900 yml):=fun _ _ _=>yn7.stG (Sub.uni _) (yaU (ypa) 5) (YOk.no _ _) (yat (by kernel_rfl)) (ytM _ _ _ _ _ _)
theorem ytN (a0 a1 a2 a3 a4):ybS (yk7 a0 a1 a2 a3 a4) 5 a yry true (ynF a0 a1 a2 a3 a4):=fun _=>⟨fun _=>by kernel_rfl,fun _ _=>by kernel_rfl,fun _=>by kernel_rfl,fun _ _=>by kernel_rfl,fun _=>by kernel_rfl,fun _ _=>by kernel_rfl,trivial⟩
theorem ytO:LpT (Uni (E ef0)) (yh0 yao yaf yag yak yae) [] 52887901 (.lG 52887901 yry):=fun _ _ _=>yn7.stG (Sub.uni _) (yaU (ypa) 5) (YOk.no _ _) (yba (l:=[(52887900,.lG 52887900 yml)]) ⟨yky,trivial⟩ (by kernel_rfl)) (ytN _ _ _ _ _ _)
theorem yyK:SEOk (Uni (E ef0)) (yqS yao yaf yag yak yae):=yh5 (Sub.uni _) ⟨(yhK ef0 ye2),yqG,(ygB ef0 ye2),trivial⟩ ⟨⟨by kernel_rfl,by kernel_rfl,rfl,fun az=>ybR (by kernel_rfl) az,ye2.num _ (by kernel_rfl),by kernel_rfl,(yba (l:=[(52887900,.lG 52887900 yml),(52887901,.lG 52887901 yry)]) ⟨yky,ytO,trivial⟩ (by kernel_rfl))⟩,trivial⟩ ye2.ok ⟨(yeD ef0 ye2),(yhh ef0 ye2),trivial⟩
theorem yzZ (a0 a1 a2 a3 a4):EqW (yqS a0 a1 a2 a3 a4) 6 yBD yzY (yk6 a0 a1 a2 a3 a4):=fun _ _=>by kernel_rfl
theorem yqT:OkF (E ef0) (yzY.pw yel) ygU:=okU ye2 (yzZ _ _ _ _ _) (yyK) ynj.flat (yat (by kernel_rfl))
abbrev ydU:Type:=Ls→Ls→(Ls→Ls→Int→Int→Int→Int→Int→Int→Int→Int→Int→Int→Int→Int→Int→Int→Int→Int→Int→Int→Int→Int→Int→Prop)→Prop
def yiu (a0:yau) (a1:yaD) (p0 p1:Ls) (K:Ls→Ls→Int→Int→Int→Int→Int→Int→Int→Int→Int→Int→Int→Int→Int→Int→Int→Int→Int→Int→Int→Int→Int→Prop):Prop :=
 (a0 p0 p1 (fun a =>
 (cbr (a !=(0:Int))
 (K ([]:Ls) ([]:Ls) (0:Int) (0:Int) (0:Int) (0:Int) (0:Int) (0:Int) (0:Int) (0:Int) (0:Int) (0:Int) (0:Int) (0:Int) (0:Int) (0:Int) (0:Int) (0:Int) (0:Int) (0:Int) (0:Int) (0:Int) a)
 (a1 p0 p1 (fun b c d e f g h i j k l m n o p q r s t u v w =>
 (K v w b c d e f g h i j k l m n o p q r s t u (0:Int)))))))
def ydV:ydU:=yiu yao yaf
def ywR:Sg:=⟨pt27,Ls→Ls→Int→Int→Int→Int→Int→Int→Int→Int→Int→Int→Int→Int→Int→Int→Int→Int→Int→Int→Int→Int→Int→Prop,fun K=>(fun r0 r1 r2 r3 r4 r5 r6 r7 r8 r9 r10 r11 r12 r13 r14 r15 r16 r17 r18 r19 r20 r21 r22=>K (.tup [(.agg [(.data r0),(.data r1)]),(.agg [(.int .i64 r2),(.int .i64 r3),(.int .i64 r4),(.int .i64 r5),(.int .i64 r6),(.int .i64 r7),(.int .i64 r8),(.int .i64 r9),(.int .i64 r10),(.int .i64 r11),(.int .i64 r12),(.int .i64 r13),(.int .i64 r14),(.int .i64 r15),(.int .i64 r16),(.int .i64 r17),(.int .i64 r18),(.int .i64 r19),(.int .i64 r20),(.int .i64 r21)]),(.int .i64 r22)]))⟩
def ywS (e:Es) (a0:yau) (a1:yaD):SE:=⟨(E e),yfU [(ydh,ymF.pw a0)],yfV [(ylp,yuA)],lp0,yln [(ybJ,yci a1)]⟩
theorem ywT (e:Es) (a0 a1):EqW (ywS e a0 a1) 6 yyd ywR (yiu a0 a1):=fun _ _=>by kernel_rfl
theorem ywU (e:Es) (he:EG e):OkF (E e) (ywR.pw ydV) ygV:=okU he (ywT e _ _) (yh5 (Sub.uni _) ⟨(yhK e he),trivial⟩ ⟨⟨by kernel_rfl,by kernel_rfl,rfl,fun az=>ybR (by kernel_rfl) az,he.num _ (by kernel_rfl),by kernel_rfl,(yat (by kernel_rfl))⟩,trivial⟩ he.ok ⟨(yeD e he),trivial⟩) ynj.flat (yat (by kernel_rfl))
set_option linter.unusedVariables false
theorem ywV (p0:Ls) (p1:Ls) (r0:Int) (h:∀ K:Int→Prop,K r0→yal p0 p1 K) (K:Int→Prop):yal p0 p1 K=K r0 :=
 propext ⟨fun k=>detC (yff [] ya8) (az:=[(.data p0),(.data p1)]) (x:=(.int .i64 r0)) (fun K' k'=>h (fun r0=>K' (.int .i64 r0)) k') (K:=fun x=>match x with | (.int .i64 r0)=>K r0 | _=>False) k,h K⟩
theorem ybr (p0:Ls) (r0:Ls) (h:∀ K:Ls→Prop,K r0→yah p0 K) (K:Ls→Prop):yah p0 K=K r0 :=
 propext ⟨fun k=>detC (ydR [] ya8) (az:=[(.data p0)]) (x:=(.data r0)) (fun K' k'=>h (fun r0=>K' (.data r0)) k') (K:=fun x=>match x with | (.data r0)=>K r0 | _=>False) k,h K⟩
set_option maxHeartbeats 0
def ysh (a0:ybl) (a1:yau) (p0:Ls) (K:Bool→Prop):Prop :=
 (jn (fun (a:Bool→Prop) =>
 (a0 p0 (fun b =>
 (cbr (!b)
 (cbr ((((List.length p0):Nat):Int) ==(3:Int))
 (a1 p0 ([]:Ls) (fun c =>
 (a (c ==(0:Int)))))
 (a false))
 (a false)))))
 (fun d=>(K d)))
def yiZ:ybl:=ysh yda ye9
def yFA (e:Es) (a0:ybl) (a1:yau):SE:=sE (E e) [(yfn,yg9.pw a0),(ykb,ymF.pw a1)] lp0
theorem yFB (e:Es) (a0 a1):EqW (yFA e a0 a1) 6 yHE yg9 (ysh a0 a1):=fun _ _=>by kernel_rfl
theorem yFC (e:Es) (he:EG e):OkF (E e) (yg9.pw yiZ) ypw:=okU he (yFB e _ _) (yaz (Sub.uni _) ⟨(yku e he),(ytB e he),trivial⟩ trivial he.ok) ynj.flat (yat (by kernel_rfl))
abbrev ypb:Type:=(Ls→Prop)→Prop
def ytP (K:Ls→Prop):Prop :=
 (K ([(.agg [(.int .i64 (6:Int)),(.data ([(.int .i64 (0:Int)),(.int .i64 (6:Int))]:Ls)),(.data ([(.int .i64 (1:Int))]:Ls))]),(.agg [(.int .i64 (6:Int)),(.data ([(.int .i64 (0:Int)),(.int .i64 (4:Int)),(.int .i64 (6:Int))]:Ls)),(.data ([(.int .i64 (1:Int)),(.int .i64 (4:Int))]:Ls))]),(.agg [(.int .i64 (6:Int)),(.data ([(.int .i64 (0:Int)),(.int .i64 (2:Int)),(.int .i64 (6:Int))]:Ls)),(.data ([(.int .i64 (2:Int)),(.int .i64 (0:Int))]:Ls))])]:Ls))
def ypc:ypb:=ytP
def yCr:Sg:=⟨lN,Ls→Prop,fun K=>(fun r0=>K (.data r0))⟩
def yCs (e:Es):SE:=sE (E e) [] lp0
theorem yCt (e:Es):EqW (yCs e) 6 yDy yCr ytP:=fun _ _=>by kernel_rfl
theorem yCu (e:Es) (he:EG e):OkF (E e) (yCr.pw ypc) ykc:=okU he (yCt e) (yaz (Sub.uni _) trivial trivial he.ok) ynj.flat (yat (by kernel_rfl))
def yAC (a0:yaH) (p0:Int) (K:Int→Int→Prop):Prop :=
 (a0 p0 (fun a b =>
 (K a b)))
def yyL:yaH:=yAC yDQ
def yHP (e:Es) (a0:yaH):SE:=sE (E e) [(ysT,yhY.pw a0)] lp0
theorem yHQ (e:Es) (a0):EqW (yHP e a0) 6 yI0 yhY (yAC a0):=fun _ _=>by kernel_rfl
theorem yHR (e:Es) (he:EG e):OkF (E e) (yhY.pw yyL) ysU:=okU he (yHQ e _) (yaz (Sub.uni _) ⟨(yHM e he),trivial⟩ trivial he.ok) ynj.flat (yat (by kernel_rfl))
abbrev ygC:Type:=(Bool→Prop)→Prop
def ym4 (a0:ypb) (a1:ydv) (a2:yaH) (a3:ya6) (K:Bool→Prop):Prop :=
 (a0  (fun b =>
 (a1 b (fun c d e f g h i j k l m n o p q r s t u v w x y =>
 (a2 (0:Int) (fun z A =>
 (a2 (2:Int) (fun B C =>
 (a2 (2:Int) (fun D E =>
 (a2 (4:Int) (fun F G =>
 (a2 (6:Int) (fun H I =>
 (a2 (4:Int) (fun J L =>
 (jn (fun (a:Bool→Prop) =>
 (cbr (y ==(0:Int))
 (cbr ((d == z)&&((e == A)&&((f == B)&&((g == C)&&((h == D)&&((i == E)&&((j == F)&&((k == G)&&((l ==(11:Int))&&((m ==(2:Int))&&((n == H)&&((o == I)&&((p ==(2:Int))&&((q == J)&&((r == L)&&((s ==(11:Int))&&((t ==(2:Int))&&((u ==(1:Int))&&((v ==(2:Int))&&((w ==(0:Int))&&true))))))))))))))))))))
 (cbr ((((List.length x):Nat):Int) ==(16:Int))
 (a2 (2:Int) (fun M N =>
 (a2 (4:Int) (fun O Q =>
 (a2 (4:Int) (fun R S =>
 (a2 (6:Int) (fun T U =>
 (a2 (0:Int) (fun V W =>
 (a2 (2:Int) (fun X Y =>
 (a3 c ([(.data ([(.agg [(.int .i64 M),(.int .i64 N),(.int .i64 O),(.int .i64 Q)])]:Ls)),(.data ([(.agg [(.int .i64 R),(.int .i64 S),(.int .i64 T),(.int .i64 U)])]:Ls)),(.data ([(.agg [(.int .i64 V),(.int .i64 W),(.int .i64 X),(.int .i64 Y)])]:Ls))]:Ls) (fun Z =>
 (a Z)))))))))))))))
 (a false))
 (a false))
 (a false)))
 (fun va=>(K va)))))))))))))))))))
def yd2:ygC:=ym4 ypc yel yyL ygk
def yCv:Sg:=⟨lN,Bool→Prop,fun K=>(fun r0=>K (.bool r0))⟩
def yCw (a0:ypb) (a1:ydv) (a2:yaH) (a3:ya6):SE:=sE (E ef0) [(ykc,yCr.pw a0),(ygU,yzY.pw a1),(ysU,yhY.pw a2),(ymf,yD2.pw a3)] lp0
theorem yCx (a0 a1 a2 a3):EqW (yCw a0 a1 a2 a3) 6 yDI yCv (ym4 a0 a1 a2 a3):=fun _ _=>by kernel_rfl
theorem yCy:OkF (E ef0) (yCv.pw yd2) ykh:=okU ye2 (yCx _ _ _ _) (yaz (Sub.uni _) ⟨(yCu ef0 ye2),yqT,(yHR ef0 ye2),(yvX ef0 ye2),trivial⟩ trivial ye2.ok) ynj.flat (yat (by kernel_rfl))
def yaj (a0:ybl) (a1:ygC) (a2:ydU) (a3:ydv) (a4:ya6) (a5:yap) (a6:ygy) (x0:Ls→Ls→Int→Int→Int→Int→Int→Int→Int→Int→Int→Int→Int→Int→Int→Int→Int→Int→Int→Int→Int→Int→Ls→Ls→Int→Bool→Prop) (x1:Bool→Prop):Nat→Ls→Ls→Int→Int→Int→Int→Int→Int→Int→Int→Int→Int→Int→Int→Int→Int→Int→Int→Int→Int→Int→Int→Ls→Ls→Int→Prop
 | 0,_,_,_,_,_,_,_,_,_,_,_,_,_,_,_,_,_,_,_,_,_,_,_,_,_=>False
 | n+1,l0,l1,i2,i3,i4,i5,i6,i7,i8,i9,i10,i11,i12,i13,i14,i15,i16,i17,i18,i19,i20,i21,l22,l23,i24 =>
 (cbr (decide (i24<(3:Int)))
 (jn (fun c =>
 (jn (fun (a:Bool→Prop) =>
 (cbr (decide (i24=(0:Int)))
 (cbr (decide (i19<(0:Int)))
 (a true)
 (cbr (decide (i24=(0:Int)))
 (a (decide (i19>(2:Int))))
 (cbr (decide (i24=(1:Int)))
 (a (decide (i20>(2:Int))))
 (cbr (decide (i24=(2:Int)))
 (a (decide (i21>(2:Int))))
 False))))
 (cbr (decide (i24=(1:Int)))
 (cbr (decide (i20<(0:Int)))
 (a true)
 (cbr (decide (i24=(0:Int)))
 (a (decide (i19>(2:Int))))
 (cbr (decide (i24=(1:Int)))
 (a (decide (i20>(2:Int))))
 (cbr (decide (i24=(2:Int)))
 (a (decide (i21>(2:Int))))
 False))))
 (cbr (decide (i24=(2:Int)))
 (cbr (decide (i21<(0:Int)))
 (a true)
 (cbr (decide (i24=(0:Int)))
 (a (decide (i19>(2:Int))))
 (cbr (decide (i24=(1:Int)))
 (a (decide (i20>(2:Int))))
 (cbr (decide (i24=(2:Int)))
 (a (decide (i21>(2:Int))))
 False))))
 False))))
 (fun j=>(cbr j
 (x1 false)
 (jn (fun (b:Int→Int→Int→Int→Prop) =>
 (cbr (decide (i24=(0:Int)))
 (cbr (decide (i19=(0:Int)))
 (b i2 i3 i4 i5)
 (cbr (decide (i19=(1:Int)))
 (b i6 i7 i8 i9)
 (cbr (decide (i19=(2:Int)))
 (b i10 i11 i12 i13)
 False)))
 (cbr (decide (i24=(1:Int)))
 (cbr (decide (i20=(0:Int)))
 (b i2 i3 i4 i5)
 (cbr (decide (i20=(1:Int)))
 (b i6 i7 i8 i9)
 (cbr (decide (i20=(2:Int)))
 (b i10 i11 i12 i13)
 False)))
 (cbr (decide (i24=(2:Int)))
 (cbr (decide (i21=(0:Int)))
 (b i2 i3 i4 i5)
 (cbr (decide (i21=(1:Int)))
 (b i6 i7 i8 i9)
 (cbr (decide (i21=(2:Int)))
 (b i10 i11 i12 i13)
 False)))
 False))))
 (fun d e f g=>(a5 d e f g (fun k =>
 (cbr (!k)
 c
 (asr (decide ((0:Int)≤i24))
 (asr (decide (i24<(((List.length l22):Nat):Int)))
 (lt (List.getD l22 (i24.toNat) .nils) (fun h =>
 (asr (conf zD h)
 (a6 ([(.agg [(.int .i64 d),(.int .i64 e),(.int .i64 f),(.int .i64 g)])]:Ls) (ycL h) (fun l m =>
 (jn (fun (i:Bool→Prop) =>
 (cbr (m !=(0:Int))
 (i true)
 (i (decide ((((List.length l):Nat):Int)>(0:Int))))))
 (fun o=>(cbr o
 (x1 false)
 c)))))))))))))))))))
 (lt (IntKind.i64.wrap (i24+(1:Int))) (fun p =>
 (yaj a0 a1 a2 a3 a4 a5 a6 x0 x1 n l0 l1 i2 i3 i4 i5 i6 i7 i8 i9 i10 i11 i12 i13 i14 i15 i16 i17 i18 i19 i20 i21 l22 l23 p))))
 (x0 l0 l1 i2 i3 i4 i5 i6 i7 i8 i9 i10 i11 i12 i13 i14 i15 i16 i17 i18 i19 i20 i21 l22 l23 i24 false))
def ygm (a0:ybl) (a1:ygC) (a2:ydU) (a3:ydv) (a4:ya6) (a5:yap) (a6:ygy) (p0:Ls) (K:Bool→Prop):Prop :=
 (a0 p0 (fun A =>
 (cbr (!A)
 (a1  (fun B =>
 (K B)))
 (a2 p0 ([]:Ls) (fun C a e f g h i j k l m o p q r s t u v w x y D =>
 (a3 p0 (fun z E F G H I J L M N O Q R S T U V W X Y Z c va =>
 (jn (fun (b:Bool→Prop) =>
 (cbr (D !=(0:Int))
 (b true)
 (cbr (va !=(0:Int))
 (b true)
 (cbr (!((e == E)&&((f == F)&&((g == G)&&((h == H)&&((i == I)&&((j == J)&&((k == L)&&((l == M)&&((m == N)&&((o == O)&&((p == Q)&&((q == R)&&((r == S)&&((s == T)&&((t == U)&&((u == V)&&((v == W)&&((w == X)&&((x == Y)&&((y == Z)&&true)))))))))))))))))))))
 (b true)
 (cbr (decide ((((List.length c):Nat):Int)<(((List.length a):Nat):Int)))
 (b true)
 (asr (decide ((0:Int)≤(((List.length a):Nat):Int)))
 (asr (decide ((((List.length a):Nat):Int)≤(((List.length c):Nat):Int)))
 (a4 (List.take (List.length a) c) a (fun vb =>
 (cbr (!vb)
 (b true)
 (b ((((List.length z):Nat):Int) !=(3:Int)))))))))))))
 (fun vc=>(cbr vc
 (K false)
 (∃ n:Nat,yaj a0 a1 a2 a3 a4 a5 a6
 (fun vk vd vl vm vn vo vp vq vr vs vt vu vv vw ve vx vy vz vA vB vC vD vE vf vF vG=>(jn (fun (d:Bool→Prop) =>
 (cbr (decide (ve≥(0:Int)))
 (a1  (fun vg =>
 (d vg)))
 (cbr ((((List.length vf):Nat):Int) ==(((List.length vd):Nat):Int))
 (a1  (fun vh =>
 (d vh)))
 (d false))))
 (fun vi=>(K vi))))
 (fun vj=>(K vj))
 n C a e f g h i j k l m o p q r s t u v w x y z c (0:Int))))))))))))
def yeL:ybl:=ygm yiZ yd2 ydV yel ycx ybp yc2
def ynS (Q:Qx):Ls→Ls→Int→Int→Int→Int→Int→Int→Int→Int→Int→Int→Int→Int→Int→Int→Int→Int→Int→Int→Int→Int→Ls→Ls→Int→Bool→Prop:=(fun l0 l1 i2 i3 i4 i5 i6 i7 i8 i9 i10 i11 i12 i13 i14 i15 i16 i17 i18 i19 i20 i21 l22 l23 i24 b25=>Q (.exit 0) [(3,.box (.agg [(.data l0),(.data l1)])),(4,.box (.agg [(.int .i64 i2),(.int .i64 i3),(.int .i64 i4),(.int .i64 i5),(.int .i64 i6),(.int .i64 i7),(.int .i64 i8),(.int .i64 i9),(.int .i64 i10),(.int .i64 i11),(.int .i64 i12),(.int .i64 i13),(.int .i64 i14),(.int .i64 i15),(.int .i64 i16),(.int .i64 i17),(.int .i64 i18),(.int .i64 i19),(.int .i64 i20),(.int .i64 i21)])),(6,.box (.agg [(.data l22)])),(8,.v (.data l23)),(10,.v (.int .i64 i24)),(69,.v (.bool b25))] [])
def ynT (Q:Qx):Bool→Prop:=(fun b0=>Q .ret [(2,.v (.bool b0))] [])
def yie (a0:ybl) (a1:ygC) (a2:ydU) (a3:ydv) (a4:ya6) (a5:yap) (a6:ygy) (Q:Qx):List St:=[⟨(pS hN (fX 3 pt26 (fX 4 pt40 (fX 6 (vA pt9) (fV 8 vD (fV 10 pt0 fN))))) fN),yaj a0 a1 a2 a3 a4 a5 a6 (ynS Q) (ynT Q)⟩]
def yjJ (a0:ybl) (a1:ygC) (a2:ydU) (a3:ydv) (a4:ya6) (a5:yap) (a6:ygy):LP:=lpS [(22436900,yie a0 a1 a2 a3 a4 a5 a6)]
def ygn (a0:ybl) (a1:ygC) (a2:ydU) (a3:ydv) (a4:ya6) (a5:yap) (a6:ygy):SE:=sE (E ef0) [(ypw,yg9.pw a0),(ykh,yCv.pw a1),(ygV,ywR.pw a2),(ygU,yzY.pw a3),(ygW,yny.pw a4),(yh7,yox.pw a5),(ykl,yCk.pw a6)] (yjJ a0 a1 a2 a3 a4 a5 a6)
theorem yiC:SEOk (Uni (E ef0)) (ygn yiZ yd2 ydV yel ycx ybp yc2):=yaz (Sub.uni _) ⟨(yFC ef0 ye2),yCy,(ywU ef0 ye2),yqT,(ynA ef0 ye2),(ytE ef0 ye2),(yCn ef0 ye2),trivial⟩ trivial ye2.ok
theorem ym5 (a0 a1 a2 a3 a4 a5 a6):ybS (ygn a0 a1 a2 a3 a4 a5 a6) 5 a yrK false (yie a0 a1 a2 a3 a4 a5 a6):=fun _=>⟨fun _=>by kernel_rfl,fun _ _=>by kernel_rfl,trivial⟩
theorem ym6:LpT (Uni (E ef0)) (yjJ yiZ yd2 ydV yel ycx ybp yc2) [] 22436900 (.loop 22436900 yrK):=fun _ _ _=>yn7.st (Sub.uni _) (yaU (yiC) 5) (YOk.no _ _) (yat (by kernel_rfl)) (ym5 _ _ _ _ _ _ _ _)
theorem ysi (a0 a1 a2 a3 a4 a5 a6):EqW (ygn a0 a1 a2 a3 a4 a5 a6) 6 ykn yg9 (ygm a0 a1 a2 a3 a4 a5 a6):=fun _ _=>by kernel_rfl
theorem ysj:OkF (E ef0) (yg9.pw yeL) ygX:=okU ye2 (ysi _ _ _ _ _ _ _) (yiC) ynj.flat (yba (l:=[(22436900,.loop 22436900 yrK)]) ⟨ym6,trivial⟩ (by kernel_rfl))
def I64 (n:Int):Prop:=-9223372036854775808≤n∧n≤9223372036854775807
def U64 (n:Int):Prop:=0≤n∧n≤18446744073709551615
theorem ytQ (n:Int):IntKind.u64.wrap n=n % 18446744073709551616:=by
 simp only [IntKind.wrap,IntKind.signed,IntKind.bits,qBj,qAp,if_false]
 rfl
theorem yLT (n:Int):IntKind.i64.wrap n=if n % 18446744073709551616≥9223372036854775808 then n % 18446744073709551616-18446744073709551616 else n % 18446744073709551616:=by
 have e1:(2:Int) ^ 64=18446744073709551616:=rfl
 have e2:(2:Int) ^ (64-1)=9223372036854775808:=rfl
 simp only [IntKind.wrap,IntKind.signed,IntKind.bits,qAy,e1,e2]
 by_cases h:n % 18446744073709551616≥9223372036854775808 <;> simp [h]
theorem wu64 {n:Int} (h:U64 n):IntKind.u64.wrap n=n:=by
 unfold U64 at h
 rw [ytQ]
 omega
theorem wi64 {n:Int} (h:I64 n):IntKind.i64.wrap n=n:=by
 unfold I64 at h
 rw [yLT]
 split <;> omega
theorem yan {x y:Prop}:cbr true x y=x:=rfl
theorem yai {x y:Prop}:cbr false x y=y:=rfl
theorem yaM {x:Prop}:asr true x=x:=rfl
theorem ykz {p:Int} (h:I64 p) (K:Int→Prop):yee p K=K (p.natAbs:Int):=by
 unfold I64 at h
 unfold yee ykI
 by_cases hp:p<0
 ·have e:IntKind.u64.wrap ((0:Int)-IntKind.u64.wrap p)=(p.natAbs:Int):=by
   rw [ytQ,ytQ]
   omega
  rw [decide_eq_true hp,yan,e]
 ·rw [decide_eq_false hp,yai,wu64 ⟨by omega,by omega⟩]
  congr 1
  omega
theorem yD9 (x:Int→Int→Bool→Prop):∀ (n a b:Nat),b<n→yeo x n (a:Int) (b:Int)=x ((Nat.gcd a b:Nat):Int) 0 false
 | 0,a,b,h=>by omega
 | n+1,a,b,h=>by
  unfold yeo
  by_cases hb:b=0
  ·subst hb
   simp [cbr]
  ·have h1:(b:Int)>0:=by omega
   have h2:¬((b:Int)=0):=by omega
   rw [decide_eq_true h1,yan,decide_eq_false h2,qBk,yaM]
   have e:Int.tmod (a:Int) (b:Int)=((a % b:Nat):Int):=by rw [Int.tmod_eq_emod_of_nonneg (by omega)];omega
   rw [e,yD9 x n b (a % b) (by have:=Nat.mod_lt a (show b>0 by omega);omega)]
   rw [Nat.gcd_comm a b,Nat.gcd_rec b a,Nat.gcd_comm]
theorem yyM (a b:Nat) (K:Int→Prop) (h:K ((Nat.gcd a b:Nat):Int)):ycu (a:Int) (b:Int) K:=by
 unfold ycu ymm
 exact ⟨b+1,by rw [yD9 _ (b+1) a b (by omega)];exact h⟩
def RV (n d:Int):Prop:=1≤d∧d≤1000000000000000000∧-1000000000000000000≤n∧n≤1000000000000000000∧Nat.gcd n.natAbs d.natAbs=1
instance (n d:Int):Decidable (RV n d):=by unfold RV;infer_instance
def chk (n d:Int):Int:=if RV n d then 0 else 8
theorem yyN {n d:Int} (hn:I64 n) (hd:I64 d) {K:Int→Prop} (h:K (chk n d)):ybk n d K:=by
 unfold ybk yjr
 by_cases h1:d<1
 ·have e:chk n d=8:=if_neg fun h=>by have:=h.1;omega
  rw [decide_eq_true h1,yan,← e];exact h
 ·have hd':=hd;have hn':=hn
  unfold I64 at hd' hn'
  have ed:IntKind.u64.wrap d=((d.natAbs:Nat):Int):=by rw [wu64 ⟨by omega,by omega⟩];omega
  rw [decide_eq_false h1,yai,ykz hn,ed]
  by_cases h2:((if ((d.natAbs:Nat):Int)>((n.natAbs:Nat):Int) then ((d.natAbs:Nat):Int) else ((n.natAbs:Nat):Int))>1000000000000000000)
  ·have e:chk n d=8:=if_neg fun h=>by
    obtain ⟨a1,a2,a3,a4,_⟩:=h
    revert h2;split <;> omega
   rw [decide_eq_true h2,yan,← e];exact h
  ·rw [decide_eq_false h2,yai,ykz hn]
   refine yyM _ _ _ ?_
   have h3:0<Nat.gcd n.natAbs d.natAbs:=qCc _ (by omega)
   have h4:d≤1000000000000000000∧-1000000000000000000≤n∧n≤1000000000000000000:=by
    revert h2;split <;> omega
   by_cases h5:((Nat.gcd n.natAbs d.natAbs:Nat):Int)>1
   ·have e:chk n d=8:=if_neg fun h=>by have:=h.2.2.2.2;omega
    rw [decide_eq_true h5,yan,← e];exact h
   ·have e:chk n d=0:=if_pos ⟨by omega,h4.1,h4.2.1,h4.2.2,by omega⟩
    rw [decide_eq_false h5,yai,← e];exact h
theorem ym7 {p:Int} (h:U64 p):IntKind.u64.wrap (BitVec.ofInt IntKind.u64.bits p&&&BitVec.ofInt IntKind.u64.bits (4294967295:Int)).toNat=p % 4294967296:=by
 unfold U64 at h
 have e1:(BitVec.ofInt 64 p).toNat=p.toNat:=by
  rw [BitVec.toNat_ofInt];omega
 have e2:(BitVec.ofInt 64 (4294967295:Int)).toNat=4294967295:=rfl
 have e3:(BitVec.ofInt IntKind.u64.bits p&&&BitVec.ofInt IntKind.u64.bits (4294967295:Int)).toNat=p.toNat % 4294967296:=by
  show (BitVec.ofInt 64 p&&&BitVec.ofInt 64 (4294967295:Int)).toNat=_
  rw [BitVec.toNat_and,e1,e2]
  exact Nat.and_two_pow_sub_one_eq_mod p.toNat 32
 rw [e3,ytQ]
 omega
theorem yI1 (p:Int):Int.fdiv p 4294967296=p / 4294967296:=by
 rw [Int.fdiv_eq_ediv_of_nonneg _ (by omega)]
theorem yjK {a b:Int} (ha:U64 a) (hb:U64 b) (K:Int→Int→Prop):yfp a b K=K (a*b / 18446744073709551616) (a*b % 18446744073709551616):=by
 unfold yfp yrP
 simp only [yI1]
 rw [ym7 ha,ym7 hb]
 unfold U64 at ha hb
 have ha':=ha;have hb':=hb
 obtain ⟨x1,hx1⟩:∃ x,x=a / 4294967296:=⟨_,rfl⟩
 obtain ⟨x0,hx0⟩:∃ x,x=a % 4294967296:=⟨_,rfl⟩
 obtain ⟨y1,hy1⟩:∃ x,x=b / 4294967296:=⟨_,rfl⟩
 obtain ⟨y0,hy0⟩:∃ x,x=b % 4294967296:=⟨_,rfl⟩
 rw [← hx1,← hx0,← hy1,← hy0]
 have b1:0≤x1∧x1≤4294967295:=by omega
 have b2:0≤x0∧x0≤4294967295:=by omega
 have b3:0≤y1∧y1≤4294967295:=by omega
 have b4:0≤y0∧y0≤4294967295:=by omega
 have pb:∀ x y:Int,0≤x∧x≤4294967295→0≤y∧y≤4294967295→0≤x*y∧x*y≤18446744065119617025:=by
  intro x y hx hy
  refine ⟨qA7 hx.1 hy.1,?_⟩
  have:=qA8 hx.2 hy.2 hy.1 (by omega:(0:Int)≤4294967295)
  omega
 have p1:=pb x1 y1 b1 b3
 have p2:=pb x1 y0 b1 b4
 have p3:=pb x0 y1 b2 b3
 have p4:=pb x0 y0 b2 b4
 have ea:a=x1*4294967296+x0:=by omega
 have eb:b=y1*4294967296+y0:=by omega
 have eab:a*b=x1*y1*18446744073709551616+x1*y0*4294967296+x0*y1*4294967296+x0*y0:=by
  rw [ea,eb];grind
 obtain ⟨P,hP⟩:∃ x,x=x1*y1:=⟨_,rfl⟩
 obtain ⟨Q,hQ⟩:∃ x,x=x1*y0:=⟨_,rfl⟩
 obtain ⟨R,hR⟩:∃ x,x=x0*y1:=⟨_,rfl⟩
 obtain ⟨S,hS⟩:∃ x,x=x0*y0:=⟨_,rfl⟩
 rw [← hP] at p1;rw [← hQ] at p2;rw [← hR] at p3;rw [← hS] at p4
 rw [← hP,← hQ,← hR,← hS] at eab ⊢
 have w1:IntKind.u64.wrap S=S:=wu64 ⟨by omega,by omega⟩
 have w2:IntKind.u64.wrap Q=Q:=wu64 ⟨by omega,by omega⟩
 have w3:IntKind.u64.wrap R=R:=wu64 ⟨by omega,by omega⟩
 have w4:IntKind.u64.wrap P=P:=wu64 ⟨by omega,by omega⟩
 rw [w1,w2,w3,w4]
 have w5:IntKind.u64.wrap (Q+S / 4294967296)=Q+S / 4294967296:=wu64 ⟨by omega,by omega⟩
 rw [w5,ym7 ⟨by omega,by omega⟩]
 have w6:IntKind.u64.wrap ((Q+S / 4294967296) % 4294967296+R)=(Q+S / 4294967296) % 4294967296+R:=wu64 ⟨by omega,by omega⟩
 rw [w6]
 have w7:IntKind.u64.wrap (P+(Q+S / 4294967296) / 4294967296)=P+(Q+S / 4294967296) / 4294967296:=by
  have:a*b / 18446744073709551616≤18446744073709551615:=by
   have h1:a*b≤18446744073709551615*18446744073709551615:=by
    have:=qA8 ha'.2 hb'.2 hb'.1 (by omega:(0:Int)≤18446744073709551615)
    exact this
   omega
  exact wu64 ⟨by omega,by omega⟩
 rw [w7]
 have hab:a*b≤18446744073709551615*18446744073709551615:=qA8 ha'.2 hb'.2 hb'.1 (by omega:(0:Int)≤18446744073709551615)
 rw [eab] at hab ⊢
 rw [ytQ,ytQ]
 congr 1
 omega
theorem yLo {a b:Int} {K:Int→Prop} (h:K (if a=0 then b else a)):yef [.int .i64 a,.int .i64 b] K:=by
 unfold yef yfI
 refine ⟨3,?_⟩
 have e1:IntKind.i64.wrap 1=1:=by decide
 have e2:IntKind.i64.wrap 2=2:=by decide
 by_cases ha:a=0
 ·by_cases hb:b=0
  ·simp [ybw,yan,yai,yaM,conf,yni,yaa,e1,e2,ha,hb] at h ⊢;exact h
  ·have e3:(b != 0)=true:=by simpa using hb
   simp [ybw,yan,yai,yaM,conf,yni,yaa,e1,e2,ha,e3] at h ⊢;exact h
 ·have e3:(a != 0)=true:=by simpa using ha
  simp [ybw,yan,yai,yaM,conf,yni,yaa,e1,e2,ha,e3] at h ⊢;exact h
def chk2 (a b c d:Int):Int:=if chk a b=0 then chk c d else chk a b
theorem ypd {a b c d:Int} (ha:I64 a) (hb:I64 b) (hc:I64 c) (hd:I64 d) {K:Int→Prop} (h:K (chk2 a b c d)):ycY a b c d K:=by
 unfold ycY yjs
 exact yyN ha hb (yyN hc hd (yLo h))
def cmp3 (a b:Int):Int:=if a<b then -1 else if a>b then 1 else 0
theorem yCz (a b:Int) (K:Int→Prop):ydG a b K=K (cmp3 a b):=by
 unfold ydG ye6
 simp only [ygZ,ygc,bne_self_eq_false,yai,cmp3]
 by_cases h:a<b
 ·simp [h,yan]
 ·by_cases h2:a>b
  ·simp [h,h2,yan,yai]
  ·simp [h,h2,yai]
theorem ytR (a b:Int) (K:Int→Prop):ydu a b K=K (cmp3 a b):=by
 unfold ydu yez
 simp only [ygd,yfK,bne_self_eq_false,yai,cmp3]
 by_cases h:a<b
 ·simp [h,yan]
 ·by_cases h2:a>b
  ·simp [h,h2,yan,yai]
  ·simp [h,h2,yai]
theorem yKm {a b:Int} {K:Int→Prop} (h:K (if a=0 then b else a)):yiO [.int .i64 a,.int .i64 b] K:=by
 unfold yiO ykJ
 refine ⟨3,?_⟩
 have e1:IntKind.i64.wrap 1=1:=by decide
 have e2:IntKind.i64.wrap 2=2:=by decide
 by_cases ha:a=0
 ·by_cases hb:b=0
  ·simp [yc5,yan,yai,yaM,conf,yni,yaa,e1,e2,ha,hb] at h ⊢;exact h
  ·have e3:(b != 0)=true:=by simpa using hb
   simp [yc5,yan,yai,yaM,conf,yni,yaa,e1,e2,ha,e3] at h ⊢;exact h
 ·have e3:(a != 0)=true:=by simpa using ha
  simp [yc5,yan,yai,yaM,conf,yni,yaa,e1,e2,ha,e3] at h ⊢;exact h
theorem ycH {a b c d:Int}:chk2 a b c d=0↔RV a b∧RV c d:=by
 unfold chk2 chk
 by_cases h1:RV a b <;> by_cases h2:RV c d <;> simp [h1,h2]
def cmpR (a b c d:Int):Int:=cmp3 (a*d) (c*b)
theorem yHS {x y:Int} (hx:0≤x) (hy:0≤y):(if cmp3 (x / 18446744073709551616) (y / 18446744073709551616)=0 then cmp3 (x % 18446744073709551616) (y % 18446744073709551616) else cmp3 (x / 18446744073709551616) (y / 18446744073709551616))=cmp3 x y:=by
 unfold cmp3
 split <;> rename_i h <;> revert h <;> repeat' split <;> intro h <;> omega
theorem U64.abs {n:Int} (h:I64 n):U64 ((n.natAbs:Nat):Int):=by unfold I64 at h;unfold U64;omega
theorem yI2 {a b c d:Int} (ha:I64 a) (hb:I64 b) (hc:I64 c) (hd:I64 d) {K:Int→Int→Prop} (h:K (if chk2 a b c d=0 then cmpR a b c d else 0) (chk2 a b c d)):ybL a b c d K:=by
 unfold ybL yms
 refine ypd ha hb hc hd ?_
 by_cases hk:chk2 a b c d=0
 ·rw [if_pos hk] at h
  rw [hk] at h ⊢
  obtain ⟨⟨b1,b2,a1,a2,_⟩,d1,d2,c1,c2,_⟩:=ycH.1 hk
  simp only [bne_self_eq_false,yai]
  by_cases hs:decide (a<0)=decide (c<0)
  ·have e:(decide (a<0) != decide (c<0))=false:=by rw [hs];simp
   rw [e,yai,ykz ha,wu64 ⟨by omega,by omega⟩,yjK (U64.abs ha) ⟨by omega,by omega⟩,ykz hc,wu64 ⟨by omega,by omega⟩,yjK (U64.abs hc) ⟨by omega,by omega⟩,ytR,ytR]
   refine yKm ?_
   have p1:0≤((a.natAbs:Nat):Int)*d:=qA7 (by omega) (by omega)
   have p2:0≤((c.natAbs:Nat):Int)*b:=qA7 (by omega) (by omega)
   rw [yHS p1 p2]
   by_cases hneg:a<0
   ·have hcn:c<0:=by simpa [hneg] using hs.symm
    rw [decide_eq_true hneg,yan]
    have e1:((a.natAbs:Nat):Int)*d=-(a*d):=by
     rw [show ((a.natAbs:Nat):Int)=-a by omega,Int.neg_mul]
    have e2:((c.natAbs:Nat):Int)*b=-(c*b):=by
     rw [show ((c.natAbs:Nat):Int)=-c by omega,Int.neg_mul]
    have e3:IntKind.i64.wrap (0-cmp3 (((a.natAbs:Nat):Int)*d) (((c.natAbs:Nat):Int)*b))=cmpR a b c d:=by
     rw [e1,e2]
     unfold cmpR cmp3
     rw [wi64 (by unfold I64;repeat' split <;> omega)]
     repeat' split <;> omega
    rw [e3];exact h
   ·have hcn:¬c<0:=by simpa [hneg] using hs.symm
    rw [decide_eq_false hneg,yai,show ((a.natAbs:Nat):Int)=a by omega,show ((c.natAbs:Nat):Int)=c by omega]
    exact h
  ·have e:(decide (a<0) != decide (c<0))=true:=by simpa using hs
   rw [e,yan,yCz]
   have e2:cmp3 a c=cmpR a b c d:=by
    unfold cmpR cmp3
    by_cases hneg:a<0
    ·have hcn:¬c<0:=by intro hcn;simp [hneg,hcn] at hs
     have q1:a*d<0:=qB5 hneg (by omega)
     have q2:0≤c*b:=qA7 (by omega) (by omega)
     rw [if_pos (by omega),if_pos (by omega)]
    ·have hcn:c<0:=by
      by_cases hcn:c<0
      ·exact hcn
      ·simp [hneg,hcn] at hs
     have q1:c*b<0:=qB5 hcn (by omega)
     have q2:0≤a*d:=qA7 (by omega) (by omega)
     rw [if_neg (by omega),if_pos (by omega),if_neg (by omega),if_pos (by omega)]
   rw [e2];exact h
 ·rw [if_neg hk] at h
  have e:(chk2 a b c d != 0)=true:=by simpa using hk
  rw [e,yan];exact h
def blen (x:Nat):Nat:=if x=0 then 0 else x.log2+1
theorem yGr (x:Nat):x<2 ^ blen x:=by
 unfold blen
 split
 ·rename_i h;subst h;decide
 ·exact Nat.lt_log2_self
theorem yw3 {x:Nat} (h:x≠0):2 ^ (blen x-1)≤x:=by
 unfold blen
 rw [if_neg h]
 exact Nat.log2_self_le h
theorem yKn {x m:Nat} (h1:2 ^ m≤x) (h2:x<2 ^ (m+1)):blen x=m+1:=by
 have hx:x≠0:=by have:=Nat.two_pow_pos m;omega
 unfold blen
 rw [if_neg hx]
 congr 1
 have a:=Nat.log2_self_le hx
 have b:=Nat.lt_log2_self (n:=x)
 have c1:¬(x.log2<m):=fun h=>by
  have:=Nat.pow_le_pow_right (show 0<2 by omega) (show x.log2+1≤m by omega)
  omega
 have c2:¬(m<x.log2):=fun h=>by
  have:=Nat.pow_le_pow_right (show 0<2 by omega) (show m+1≤x.log2 by omega)
  omega
 omega
theorem yI3 {x k:Nat} (h:2 ^ k≤x):blen x=k+blen (x / 2 ^ k):=by
 have hp:=Nat.two_pow_pos k
 have hq:x / 2 ^ k≠0:=by
  have:=Nat.div_pos h hp
  omega
 have h1:=yw3 hq
 have h2:=yGr (x / 2 ^ k)
 obtain ⟨m,hm⟩:∃ m,blen (x / 2 ^ k)=m+1:=⟨blen (x / 2 ^ k)-1,by
  have:blen (x / 2 ^ k)≠0:=by unfold blen;rw [if_neg hq];omega
  omega⟩
 rw [hm] at h1 h2 ⊢
 rw [Nat.add_sub_cancel] at h1
 have:=yKn (x:=x) (m:=k+m) (by
   rw [Nat.pow_add]
   calc 2 ^ k*2 ^ m≤2 ^ k*(x / 2 ^ k):=Nat.mul_le_mul_left _ h1
    _≤x:=Nat.mul_div_le _ _) (by
   rw [show k+m+1=k+(m+1) by omega,Nat.pow_add]
   rw [Nat.mul_comm]
   exact (Nat.div_lt_iff_lt_mul hp).1 h2)
 omega
theorem yLp:∀ x:Nat,x<256→yaa (List.getD ygO x .nils)=(blen x:Int):=by decide +kernel
theorem wu8 {n:Int} (h0:0≤n) (h1:n<256):IntKind.u8.wrap n=n:=by
 have e1:(2:Int) ^ 8=256:=rfl
 simp only [IntKind.wrap,IntKind.signed,IntKind.bits,qBj,qAp,if_false,e1]
 omega
theorem yKo {n:Int} (h0:0≤n) (h1:n<256):yaa (List.getD ygO (IntKind.u8.wrap n).toNat .nils)=(blen n.toNat:Int):=by
 rw [wu8 h0 h1]
 exact yLp n.toNat (by omega)
theorem yLU {n:Nat} (h:n<256):blen n≤8:=by
 by_cases h0:n=0
 ·subst h0;decide
 ·have:=yw3 h0
  have h2:blen n-1<8:=by
   refine Nat.lt_of_not_le fun hc=>?_
   have:=Nat.pow_le_pow_right (show 0<2 by omega) hc
   omega
  omega
theorem yv1 {n k:Int} (h0:0≤n) (h1:n<256) (hk:0≤k∧k≤56) {m:Int} (hm:m=k+blen n.toNat) {K:Int→Prop} (h:K m) :
  asr (decide ((0:Int)≤(IntKind.u8.wrap n))) (asr (decide ((IntKind.u8.wrap n)<(256:Int))) (K (IntKind.i64.wrap (k+(IntKind.i64.wrap (yaa (List.getD ygO ((IntKind.u8.wrap n).toNat) .nils))))))):=by
 have hb:=yLU (n:=n.toNat) (by omega)
 have e1:IntKind.i64.wrap (blen n.toNat:Int)=blen n.toNat:=wi64 (by unfold I64;omega)
 have e2:IntKind.i64.wrap (k+blen n.toNat:Int)=k+blen n.toNat:=wi64 (by unfold I64;omega)
 rw [yKo h0 h1,wu8 h0 h1,decide_eq_true h0,yaM,decide_eq_true h1,yaM,e1,e2,← hm]
 exact h
theorem yyO (p q:Int) (hq:0≤q):Int.fdiv p q=p / q:=Int.fdiv_eq_ediv_of_nonneg _ hq
theorem yI4 {p:Int} (hp:U64 p) {K:Int→Prop} (h:K (blen p.toNat:Int)):ypB p K:=by
 unfold U64 at hp
 unfold ypB yrV
 simp only [yyO _ 4294967296 (by omega),yyO _ 65536 (by omega),yyO _ 256 (by omega)]
 have key:∀ (k:Nat) (q:Int),2 ^ k≤p.toNat→q=p / (2 ^ k:Nat)→(blen p.toNat:Int)=k+blen q.toNat:=by
  intro k q hk hq
  have e:q.toNat=p.toNat / 2 ^ k:=by
   rw [hq]
   obtain ⟨m,rfl⟩:∃ m:Nat,p=m:=⟨p.toNat,by omega⟩
   rw [← qB7,qAe,qAe]
  rw [e]
  have:=yI3 hk
  omega
 by_cases h1:p≥4294967296
 ·rw [decide_eq_true h1,yan]
  by_cases h2:p / 4294967296≥65536
  ·rw [decide_eq_true h2,yan]
   by_cases h3:p / 4294967296 / 65536≥256
   ·rw [decide_eq_true h3,yan]
    exact yv1 (by omega) (by omega) (by omega) (key 56 _ (by omega) (by omega)) h
   ·rw [decide_eq_false h3,yai]
    exact yv1 (by omega) (by omega) (by omega) (key 48 _ (by omega) (by omega)) h
  ·rw [decide_eq_false h2,yai]
   by_cases h3:p / 4294967296≥256
   ·rw [decide_eq_true h3,yan]
    exact yv1 (by omega) (by omega) (by omega) (key 40 _ (by omega) (by omega)) h
   ·rw [decide_eq_false h3,yai]
    exact yv1 (by omega) (by omega) (by omega) (key 32 _ (by omega) (by omega)) h
 ·rw [decide_eq_false h1,yai]
  by_cases h2:p≥65536
  ·rw [decide_eq_true h2,yan]
   by_cases h3:p / 65536≥256
   ·rw [decide_eq_true h3,yan]
    exact yv1 (by omega) (by omega) (by omega) (key 24 _ (by omega) (by omega)) h
   ·rw [decide_eq_false h3,yai]
    exact yv1 (by omega) (by omega) (by omega) (key 16 _ (by omega) (by omega)) h
  ·rw [decide_eq_false h2,yai]
   by_cases h3:p≥256
   ·rw [decide_eq_true h3,yan]
    exact yv1 (by omega) (by omega) (by omega) (key 8 _ (by omega) (by omega)) h
   ·rw [decide_eq_false h3,yai]
    exact yv1 (by omega) (by omega) (by omega) (by simp) h
theorem ytS {p:Int} (hp:U64 p) {K:Int→Prop} (h:K (64-blen p.toNat:Int)):ybu p K:=by
 unfold ybu yfL
 refine yI4 hp ?_
 have hb:blen p.toNat≤64:=by
  unfold U64 at hp
  by_cases h0:p.toNat=0
  ·rw [h0];decide
  ·have:=yw3 h0
   have h2:blen p.toNat-1<64:=by
    refine Nat.lt_of_not_le fun hc=>?_
    have:=Nat.pow_le_pow_right (show 0<2 by omega) hc
    omega
   omega
 rw [wi64 (by unfold I64;omega)]
 exact h
structure DI (y a b u un q r:Int):Prop where
 hy:y=a*4294967296+b
 h1:2147483648≤a∧a≤4294967295
 h0:0≤b∧b≤4294967295
 hn:0≤un∧un≤4294967295
 hu:q*a+r=u
 hq:0≤q∧q≤4294967297
 hr:0≤r∧r≤4294967295
 hlt:u<y
 hU:u*4294967296+un<(q+1)*y
def DG (y u un q:Int):Prop:=0≤q∧q≤4294967295∧q*y≤u*4294967296+un∧u*4294967296+un<(q+1)*y
theorem DI.step {y a b u un q r:Int} (h:DI y a b u un q r) {A B C:Prop}
  (hA:DG y u un (q-1)→0≤q-1→q-1≤4294967296→A)
  (hB:DI y a b u un (q-1) (r+a)→B)
  (hC:DG y u un q→C) :
  cbr (decide (q≥(4294967296:Int)))
   (cbr (decide ((IntKind.u64.wrap (r+a))≥(4294967296:Int))) A B)
   (cbr (decide ((IntKind.u64.wrap (q*b))>(IntKind.u64.wrap ((IntKind.u64.wrap ((4294967296:Int)*r))+un))))
    (cbr (decide ((IntKind.u64.wrap (r+a))≥(4294967296:Int))) A B) C):=by
 have h':=h
 obtain ⟨hy,h1,h0,hn,hu,hq,hr,hlt,hU⟩:=h
 have e1:IntKind.u64.wrap (r+a)=r+a:=wu64 ⟨by omega,by omega⟩
 have eq1:q*y=q*a*4294967296+q*b:=by rw [hy];grind
 have eq2:(q-1)*y=q*y-y:=by grind
 have eq3:(q-1)*a=q*a-a:=by grind
 have eq4:(q-1+1)*y=q*y:=by grind
 have eq5:(q-1)*b=q*b-b:=by grind
 have big:u*4294967296+un<q*y→cbr (decide ((IntKind.u64.wrap (r+a))≥(4294967296:Int))) A B:=by
  intro hb
  have q1:0≤q-1:=by
   refine Int.not_lt.1 fun hc=>?_
   have hq0:q=0:=by omega
   subst hq0
   simp at hb hu
   omega
  rw [e1]
  by_cases hc:r+a≥4294967296
  ·rw [decide_eq_true hc,yan]
   have hp:(q-1)*b≤4294967296*4294967295:=qA8 (by omega) h0.2 h0.1 (by omega)
   have hle:(q-1)*y≤u*4294967296+un:=by
    have:(q-1)*y=(q-1)*a*4294967296+(q-1)*b:=by rw [hy];grind
    omega
   have hlt32:q-1≤4294967295:=by
    refine Int.not_lt.1 fun hc=>?_
    have:4294967296*y≤(q-1)*y:=qBh (by omega) (by omega)
    omega
   exact hA ⟨q1,hlt32,hle,by rw [eq4];exact hb⟩ q1 (by omega)
  ·rw [decide_eq_false hc,yai]
   exact hB ⟨hy,h1,h0,hn,by rw [eq3];omega,⟨q1,by omega⟩,⟨by omega,by omega⟩,hlt,by rw [eq4];exact hb⟩
 by_cases ha:q≥4294967296
 ·rw [decide_eq_true ha,yan]
  refine big ?_
  have:4294967296*y≤q*y:=qBh (by omega) (by omega)
  omega
 ·rw [decide_eq_false ha,yai]
  have hp:q*b≤4294967295*4294967295:=qA8 (by omega) h0.2 h0.1 (by omega)
  have hp0:0≤q*b:=qA7 hq.1 h0.1
  have w1:IntKind.u64.wrap (q*b)=q*b:=wu64 ⟨hp0,by omega⟩
  have w2:IntKind.u64.wrap ((4294967296:Int)*r)=4294967296*r:=wu64 ⟨by omega,by omega⟩
  have w3:IntKind.u64.wrap ((4294967296:Int)*r+un)=4294967296*r+un:=wu64 ⟨by omega,by omega⟩
  rw [w1,w2,w3]
  by_cases hb:q*b>4294967296*r+un
  ·rw [decide_eq_true hb,yan]
   exact big (by omega)
  ·rw [decide_eq_false hb,yai]
   exact hC ⟨hq.1,by omega,by omega,hU⟩
theorem yLV (W:Int→(Int→Prop)→Prop) {y a c u un:Int} (s v un0:Int) {x0 x1:Int→Int→Int→Int→Int→Int→Int→Int→Int→Bool→Prop}
  (hx:∀ q r b,DG y u un q→x0 y s a c v un un0 q r b) (hx1:∀ q r b,DG y u un q→x1 y s a c v un un0 q r b) :
  ∀ (n:Nat) (q r:Int) (b:Bool),DI y a c u un q r→4294967296≤r+n*2147483648→ycZ W x0 x1 (n+1) y s a c v un un0 q r b:=by
 intro n
 induction n with
 | zero =>
  intro q r b h hn
  have:=h.hr.2
  exact absurd hn (by omega)
 | succ n ih =>
  intro q r b h hn
  unfold ycZ
  refine h.step (fun g a1 a2=>?_) (fun g=>?_) (fun g=>hx1 _ _ _ g)
  ·rw [wu64 (n:=q-1) ⟨by omega,by omega⟩]
   exact hx _ _ _ g
  ·have e1:IntKind.u64.wrap (q-1)=q-1:=wu64 ⟨g.hq.1,by have:=g.hq.2;omega⟩
   have e2:IntKind.u64.wrap (r+a)=r+a:=wu64 ⟨g.hr.1,by have:=g.hr.2;omega⟩
   rw [e1,e2]
   exact ih _ _ _ g (by have:=h.h1.1;omega)
theorem yLW (W:Int→(Int→Prop)→Prop) {y a c u un:Int} (s q1 v:Int) {x0 x1:Int→Int→Int→Int→Int→Int→Int→Int→Int→Bool→Prop}
  (hx:∀ q r b,DG y u un q→x0 y s a c un q1 r v q b) (hx1:∀ q r b,DG y u un q→x1 y s a c un q1 r v q b) :
  ∀ (n:Nat) (q r:Int) (b:Bool),DI y a c u un q r→4294967296≤r+n*2147483648→yc0 W x0 x1 (n+1) y s a c un q1 r v q b:=by
 intro n
 induction n with
 | zero =>
  intro q r b h hn
  have:=h.hr.2
  exact absurd hn (by omega)
 | succ n ih =>
  intro q r b h hn
  unfold yc0
  refine h.step (fun g a1 a2=>?_) (fun g=>?_) (fun g=>hx1 _ _ _ g)
  ·rw [wu64 (n:=q-1) ⟨by omega,by omega⟩]
   exact hx _ _ _ g
  ·have e1:IntKind.u64.wrap (q-1)=q-1:=wu64 ⟨g.hq.1,by have:=g.hq.2;omega⟩
   have e2:IntKind.u64.wrap (r+a)=r+a:=wu64 ⟨g.hr.1,by have:=g.hr.2;omega⟩
   rw [e1,e2]
   exact ih _ _ _ g (by have:=h.h1.1;omega)
theorem yLq (W:Int→(Int→Prop)→Prop) {y a c u un:Int} (s v un0:Int) {x0 x1:Int→Int→Int→Int→Int→Int→Int→Int→Int→Bool→Prop}
  (hx:∀ q r b,DG y u un q→x0 y s a c v un un0 q r b) (hx1:∀ q r b,DG y u un q→x1 y s a c v un un0 q r b) (q r:Int) (h:DI y a c u un q r):yhW W x0 x1 3 y s a c v un un0 q r:=by
 have:=yLV W s v un0 hx hx1 2 q r true h (by have:=h.hr.1;omega)
 unfold ycZ at this
 unfold yhW
 exact this
theorem yLr (W:Int→(Int→Prop)→Prop) {y a c u un:Int} (s q1 v:Int) {x0 x1:Int→Int→Int→Int→Int→Int→Int→Int→Int→Bool→Prop}
  (hx:∀ q r b,DG y u un q→x0 y s a c un q1 r v q b) (hx1:∀ q r b,DG y u un q→x1 y s a c un q1 r v q b) (q r:Int) (h:DI y a c u un q r):yet W x0 x1 3 y s a c un q1 r v q:=by
 have:=yLW W s q1 v hx hx1 2 q r true h (by have:=h.hr.1;omega)
 unfold yc0 at this
 unfold yet
 exact this
theorem DI.init {y a b u un:Int} (hy:y=a*4294967296+b) (h1:2147483648≤a∧a≤4294967295) (h0:0≤b∧b≤4294967295) (hn:0≤un∧un≤4294967295)
  (hu:0≤u) (hlt:u<y):DI y a b u un (u / a) (u-u / a*a):=by
 have a1:=Int.mul_ediv_add_emod u a
 have a2:=Int.emod_nonneg u (show a≠0 by omega)
 have a3:=Int.emod_lt_of_pos u (show 0<a by omega)
 have a4:u / a*a=a*(u / a):=Int.mul_comm _ _
 have a5:0≤u / a:=Int.ediv_nonneg hu (by omega)
 have a6:u / a≤4294967297:=by
  refine Int.not_lt.1 fun hc=>?_
  have:a*4294967298≤a*(u / a):=Int.mul_le_mul_of_nonneg_left (by omega) (by omega)
  omega
 refine ⟨hy,h1,h0,hn,by omega,⟨a5,a6⟩,⟨by omega,by omega⟩,hlt,?_⟩
 have e:(u / a+1)*y=a*(u / a)*4294967296+a*4294967296+(u / a+1)*b:=by
  obtain ⟨t,ht⟩:∃ t,t=u / a:=⟨_,rfl⟩
  rw [← ht,hy];grind
 have:0≤(u / a+1)*b:=qA7 (by omega) h0.1
 omega
theorem yKN {a b:Int} {k:Nat} (ha:0≤a) (hb:0≤b∧b<2 ^ k) (hab:a*2 ^ k≤18446744073709551615∧b≤18446744073709551615) (hs:a*2 ^ k+b≤18446744073709551615) :
  IntKind.u64.wrap (BitVec.ofInt IntKind.u64.bits (a*2 ^ k)|||BitVec.ofInt IntKind.u64.bits b).toNat=a*2 ^ k+b:=by
 obtain ⟨x,rfl⟩:∃ x:Nat,a=x:=⟨a.toNat,by omega⟩
 obtain ⟨z,rfl⟩:∃ z:Nat,b=z:=⟨b.toNat,by omega⟩
 have ec:((x:Int)*2 ^ k)=((2 ^ k*x:Nat):Int):=by push_cast;exact Int.mul_comm _ _
 rw [ec] at hab hs ⊢
 have hz:z<2 ^ k:=by have:=hb.2;exact_mod_cast this
 have e:(BitVec.ofInt IntKind.u64.bits ((2 ^ k*x:Nat):Int)|||BitVec.ofInt IntKind.u64.bits (z:Int)).toNat=2 ^ k*x+z:=by
  show (BitVec.ofInt 64 ((2 ^ k*x:Nat):Int)|||BitVec.ofInt 64 (z:Int)).toNat=_
  rw [BitVec.toNat_or,BitVec.toNat_ofInt,BitVec.toNat_ofInt]
  have e1:(((2 ^ k*x:Nat):Int) % (2 ^ 64:Nat)).toNat=2 ^ k*x:=by omega
  have e2:((z:Int) % (2 ^ 64:Nat)).toNat=z:=by omega
  rw [e1,e2,Nat.two_pow_add_eq_or_of_lt hz]
 rw [e,wu64 ⟨by omega,by omega⟩]
 push_cast;rfl
theorem yGs {u un q y:Int} (h0:0≤u*4294967296+un-q*y) (h1:u*4294967296+un-q*y≤18446744073709551615) :
  IntKind.u64.wrap (IntKind.u64.wrap (IntKind.u64.wrap (u*4294967296)+un)-IntKind.u64.wrap (q*y))=u*4294967296+un-q*y:=by
 simp only [ytQ]
 omega
theorem ype {a b:Int} (h:0≤a):Int.tdiv a b=a / b:=Int.tdiv_eq_ediv_of_nonneg h
theorem yKO {a b:Int} (h:0≤a):Int.tmod a b=a % b:=Int.tmod_eq_emod_of_nonneg h
theorem yEa {h l y:Int} (hh:U64 h) (hl:U64 l) (hy:U64 y) (hlt:h<y) {K:Int→Int→Prop}
  (k:K ((h*18446744073709551616+l) / y) ((h*18446744073709551616+l) % y)):ygr h l y K:=by
 unfold U64 at hh hl hy
 unfold ygr yrW
 have b1:(y ==(0:Int))=false:=beq_eq_false_iff_ne.2 (by omega)
 have b2:decide (y≤h)=false:=decide_eq_false (by omega)
 have b3:(!(decide (y=(0:Int))))=true:=by rw [decide_eq_false (by omega)];rfl
 rw [b1,yai,b2,yai,b3]
 by_cases h0:h=0
 ·subst h0
  have:((0:Int) == 0)=true:=rfl
  rw [this,yan,yaM,yaM,ype hl.1,yKO hl.1]
  have e:(0:Int)*18446744073709551616+l=l:=by omega
  rw [e] at k
  have b4:l / y≤l:=Int.ediv_le_self _ hl.1
  rw [wu64 ⟨Int.ediv_nonneg hl.1 (by omega),by omega⟩]
  exact k
 ·have b4:(h ==(0:Int))=false:=beq_eq_false_iff_ne.2 h0
  rw [b4,yai]
  refine ytS ⟨by omega,by omega⟩ ?_
  have hyn:y.toNat≠0:=by omega
  have c1:=yGr y.toNat
  have c2:=yw3 hyn
  have c3:blen y.toNat≤64:=by
   refine Nat.le_of_not_lt fun hc=>?_
   have:=Nat.pow_le_pow_right (show 0<2 by omega) (show 64≤blen y.toNat-1 by omega)
   omega
  have c4:1≤blen y.toNat:=by
   refine Nat.le_of_not_lt fun hc=>?_
   have:blen y.toNat=0:=by omega
   rw [this] at c1
   omega
  obtain ⟨m,hm⟩:∃ m,m=64-blen y.toNat:=⟨_,rfl⟩
  have es:(64-(blen y.toNat:Int))=(m:Int):=by omega
  rw [es]
  have m63:m≤63:=by omega
  have e1:IntKind.u64.wrap (m:Int)=m:=wu64 ⟨by omega,by omega⟩
  have e2:IntKind.u64.wrap ((64:Int)-m)=((64-m:Nat):Int):=by
   rw [wu64 ⟨by omega,by omega⟩];omega
  have e3:min ((m:Int)).toNat IntKind.u64.bits=m:=by
   show min ((m:Int)).toNat 64=m
   rw [qAe];omega
  have e4:min (((64-m:Nat):Int)).toNat IntKind.u64.bits=64-m:=by
   show min (((64-m:Nat):Int)).toNat 64=64-m
   rw [qAe];omega
  simp only [e1]
  rw [e2,e3,e4]
  have p64:(2:Int) ^ (64-m)*2 ^ m=18446744073709551616:=by
   rw [← Int.pow_add,show 64-m+m=64 by omega];rfl
  have p63:(2:Int) ^ (63-m)*2 ^ m=9223372036854775808:=by
   rw [← Int.pow_add,show 63-m+m=63 by omega];rfl
  have tp:(0:Int)<2 ^ m:=Int.pow_pos (by omega)
  have tp':(0:Int)<2 ^ (64-m):=Int.pow_pos (by omega)
  have y1:y<(2:Int) ^ (64-m):=by
   have:blen y.toNat=64-m:=by omega
   rw [this] at c1
   have c1':((y.toNat:Nat):Int)<((2 ^ (64-m):Nat):Int):=by exact_mod_cast c1
   push_cast at c1'
   omega
  have y2:(2:Int) ^ (63-m)≤y:=by
   have:blen y.toNat-1=63-m:=by omega
   rw [this] at c2
   have c2':((2 ^ (63-m):Nat):Int)≤((y.toNat:Nat):Int):=by exact_mod_cast c2
   push_cast at c2'
   omega
  have Y1:y*2 ^ m<18446744073709551616:=by
   have:=Int.mul_lt_mul_of_pos_right y1 tp
   omega
  have Y2:9223372036854775808≤y*2 ^ m:=by
   have:=qBh y2 (show (0:Int)≤2 ^ m by omega)
   omega
  have H1:(h+1)*2 ^ m≤y*2 ^ m:=qBh (by omega) (by omega)
  have H2:(h+1)*2 ^ m=h*2 ^ m+2 ^ m:=by grind
  have H0:0≤h*2 ^ m:=qA7 hh.1 (by omega)
  have fd:Int.fdiv l (2 ^ (64-m))=l / 2 ^ (64-m):=yyO _ _ (by omega)
  have L1:=Int.mul_ediv_add_emod l (2 ^ (64-m))
  have L2:=Int.emod_nonneg l (show (2:Int) ^ (64-m)≠0 by omega)
  have L3:=Int.emod_lt_of_pos l tp'
  have L4:0≤l / 2 ^ (64-m):=Int.ediv_nonneg hl.1 (by omega)
  have L5:l / 2 ^ (64-m)<2 ^ m:=by
   refine Int.ediv_lt_of_lt_mul tp' ?_
   rw [Int.mul_comm,p64];omega
  have w1:IntKind.u64.wrap (y*2 ^ m)=y*2 ^ m:=wu64 ⟨by omega,by omega⟩
  have w2:IntKind.u64.wrap (h*2 ^ m)=h*2 ^ m:=wu64 ⟨by omega,by omega⟩
  have w3:IntKind.u64.wrap (BitVec.ofInt IntKind.u64.bits (h*2 ^ m)|||BitVec.ofInt IntKind.u64.bits (l / 2 ^ (64-m))).toNat=h*2 ^ m+l / 2 ^ (64-m) :=
   yKN hh.1 ⟨L4,L5⟩ ⟨by omega,by omega⟩ (by omega)
  have w4:IntKind.u64.wrap (l*2 ^ m)=l % 2 ^ (64-m)*2 ^ m:=by
   have e:l*2 ^ m=(l / 2 ^ (64-m))*18446744073709551616+l % 2 ^ (64-m)*2 ^ m:=by
    rw [← p64]
    obtain ⟨a,ha⟩:∃ a,a=l / 2 ^ (64-m):=⟨_,rfl⟩
    obtain ⟨b,hb⟩:∃ b,b=l % 2 ^ (64-m):=⟨_,rfl⟩
    obtain ⟨t,ht⟩:∃ t,t=(2:Int) ^ m:=⟨_,rfl⟩
    obtain ⟨t',ht'⟩:∃ t,t=(2:Int) ^ (64-m):=⟨_,rfl⟩
    rw [← ha,← hb,← ht'] at L1
    rw [← ha,← hb,← ht,← ht']
    rw [← L1];grind
   have e5:l % 2 ^ (64-m)*2 ^ m<18446744073709551616:=by
    rw [← p64];exact Int.mul_lt_mul_of_pos_right L3 tp
   have e6:0≤l % 2 ^ (64-m)*2 ^ m:=qA7 L2 (by omega)
   rw [e,ytQ];omega
  have e5:l % 2 ^ (64-m)*2 ^ m<18446744073709551616:=by
   rw [← p64];exact Int.mul_lt_mul_of_pos_right L3 tp
  have e6:0≤l % 2 ^ (64-m)*2 ^ m:=qA7 L2 (by omega)
  have eN:(h*18446744073709551616+l)*2 ^ m=(h*2 ^ m+l / 2 ^ (64-m))*18446744073709551616+l % 2 ^ (64-m)*2 ^ m:=by
   rw [← p64]
   obtain ⟨a,ha⟩:∃ a,a=l / 2 ^ (64-m):=⟨_,rfl⟩
   obtain ⟨b,hb⟩:∃ b,b=l % 2 ^ (64-m):=⟨_,rfl⟩
   obtain ⟨t,ht⟩:∃ t,t=(2:Int) ^ m:=⟨_,rfl⟩
   obtain ⟨t',ht'⟩:∃ t,t=(2:Int) ^ (64-m):=⟨_,rfl⟩
   rw [← ha,← hb,← ht'] at L1
   rw [← ha,← hb,← ht,← ht']
   rw [← L1];grind
  have U1:h*2 ^ m+l / 2 ^ (64-m)<y*2 ^ m:=by omega
  have U0:0≤h*2 ^ m+l / 2 ^ (64-m):=by omega
  rw [fd,w1,w2,w3,w4]
  have b5:(!(decide ((m:Int)<0)))=true:=by rw [decide_eq_false (by omega)];rfl
  have b6:(!(decide (((64-m:Nat):Int)<0)))=true:=by rw [decide_eq_false (by omega)];rfl
  rw [b5,b6,yaM,yaM,yaM,yaM]
  generalize h*2 ^ m+l / 2 ^ (64-m)=u at *
  generalize hl0:l % 2 ^ (64-m)*2 ^ m=v at *
  generalize hY:y*2 ^ m=Y at *
  rw [yyO Y _ (by omega),yyO v _ (by omega),ym7 ⟨by omega,by omega⟩,ym7 ⟨by omega,by omega⟩,ype U0]
  have b7:(!(decide (Y / 4294967296=(0:Int))))=true:=by rw [decide_eq_false (by omega)];rfl
  rw [b7,yaM]
  obtain ⟨c,hyn1⟩:∃ a,a=Y / 4294967296:=⟨_,rfl⟩
  obtain ⟨d,hyn0⟩:∃ a,a=Y % 4294967296:=⟨_,rfl⟩
  obtain ⟨un1,hun1⟩:∃ a,a=v / 4294967296:=⟨_,rfl⟩
  obtain ⟨un0,hun0⟩:∃ a,a=v % 4294967296:=⟨_,rfl⟩
  rw [← hyn1,← hyn0,← hun1,← hun0]
  have d1:2147483648≤c∧c≤4294967295:=by omega
  have d0:0≤d∧d≤4294967295:=by omega
  have dn1:0≤un1∧un1≤4294967295:=by omega
  have dn0:0≤un0∧un0≤4294967295:=by omega
  have dY:Y=c*4294967296+d:=by omega
  have g1:=DI.init dY d1 d0 dn1 U0 U1
  have x1:IntKind.u64.wrap (u / c)=u / c:=wu64 ⟨g1.hq.1,by have:=g1.hq.2;omega⟩
  have x2:IntKind.u64.wrap (u-IntKind.u64.wrap (u / c*c))=u-u / c*c:=by
   have r1:=g1.hr.1
   have r2:0≤u / c*c:=qA7 g1.hq.1 (by omega)
   have r3:=g1.hr.2
   rw [wu64 (n:=u / c*c) ⟨r2,by omega⟩,wu64 ⟨r1,by omega⟩]
  rw [x1,x2]
  have fin:∀ q1:Int,DG Y u un1 q1→∀ (un21:Int),un21=u*4294967296+un1-q1*Y→∀ q0,DG Y un21 un0 q0 →
    K (IntKind.u64.wrap ((IntKind.u64.wrap (q1*(4294967296:Int)))+q0)) (Int.fdiv (IntKind.u64.wrap ((IntKind.u64.wrap ((IntKind.u64.wrap (un21*(4294967296:Int)))+un0))-(IntKind.u64.wrap (q0*Y)))) (2 ^ (min ((m:Int)).toNat IntKind.u64.bits))):=by
   intro q1 G1 un21 e21 q0 G0
   obtain ⟨a1,a2,a3,a4⟩:=G1
   obtain ⟨c1,c2,c3,c4⟩:=G0
   have s1:(q1+1)*Y=q1*Y+Y:=by grind
   have s0:(q0+1)*Y=q0*Y+Y:=by grind
   have w5:IntKind.u64.wrap (q1*4294967296)=q1*4294967296:=wu64 ⟨by omega,by omega⟩
   have w6:IntKind.u64.wrap (q1*4294967296+q0)=q1*4294967296+q0:=wu64 ⟨by omega,by omega⟩
   rw [yGs (by omega) (by omega),w5,w6,e3,yyO _ _ (by omega)]
   have eT:un21*4294967296+un0-q0*Y=(h*18446744073709551616+l-(q1*4294967296+q0)*y)*2 ^ m:=by
    have f1:(q1*4294967296+q0)*Y=q1*Y*4294967296+q0*Y:=by grind
    have f2:(h*18446744073709551616+l-(q1*4294967296+q0)*y)*2 ^ m=(h*18446744073709551616+l)*2 ^ m-(q1*4294967296+q0)*Y:=by
     rw [← hY,Int.sub_mul,Int.mul_assoc (q1*4294967296+q0)]
    rw [f2,f1,eN]
    omega
   rw [eT,Int.mul_ediv_cancel _ (by omega)]
   have r0:0≤h*18446744073709551616+l-(q1*4294967296+q0)*y:=by
    refine Int.not_lt.1 fun hc=>?_
    have:=qB5 hc tp
    omega
   have r1:h*18446744073709551616+l-(q1*4294967296+q0)*y<y:=by
    refine Int.not_le.1 fun hc=>?_
    have:=qBh hc (show (0:Int)≤2 ^ m by omega)
    omega
   obtain ⟨Q,hQ⟩:∃ Q,Q=q1*4294967296+q0:=⟨_,rfl⟩
   rw [← hQ] at r0 r1 ⊢
   have z1:(h*18446744073709551616+l) / y=Q:=by
    have:h*18446744073709551616+l=(h*18446744073709551616+l-Q*y)+Q*y:=by omega
    rw [this,Int.add_mul_ediv_right _ _ (by omega),Int.ediv_eq_zero_of_lt r0 r1];omega
   have z2:(h*18446744073709551616+l) % y=h*18446744073709551616+l-Q*y:=by
    have:=Int.mul_ediv_add_emod (h*18446744073709551616+l) y
    rw [z1,Int.mul_comm] at this
    omega
   rw [z1,z2] at k
   exact k
  have mid:∀ q:Int,DG Y u un1 q→∀ (X:Int→Int→Int→Int→Int→Int→Int→Int→Int→Bool→Prop),(∀ q0 r0 b0,DG Y (u*4294967296+un1-q*Y) un0 q0→X Y m c d un0 q r0 (u*4294967296+un1-q*Y) q0 b0) →
    asr (!(decide (c=(0:Int)))) (∃ n:Nat,yet ybu X X n Y m c d un0 q ((IntKind.u64.wrap ((IntKind.u64.wrap ((IntKind.u64.wrap ((IntKind.u64.wrap (u*(4294967296:Int)))+un1))-(IntKind.u64.wrap (q*Y))))-(IntKind.u64.wrap ((IntKind.u64.wrap (Int.tdiv (IntKind.u64.wrap ((IntKind.u64.wrap ((IntKind.u64.wrap (u*(4294967296:Int)))+un1))-(IntKind.u64.wrap (q*Y)))) c))*c))))) (IntKind.u64.wrap ((IntKind.u64.wrap ((IntKind.u64.wrap (u*(4294967296:Int)))+un1))-(IntKind.u64.wrap (q*Y)))) (IntKind.u64.wrap (Int.tdiv (IntKind.u64.wrap ((IntKind.u64.wrap ((IntKind.u64.wrap (u*(4294967296:Int)))+un1))-(IntKind.u64.wrap (q*Y)))) c))):=by
   intro q G X hX
   obtain ⟨a1,a2,a3,a4⟩:=G
   have s1:(q+1)*Y=q*Y+Y:=by grind
   have b8:(!(decide (c=(0:Int))))=true:=by rw [decide_eq_false (by omega)];rfl
   rw [b8,yaM,yGs (by omega) (by omega),ype (by omega)]
   have g0:=DI.init dY d1 d0 dn0 (u:=u*4294967296+un1-q*Y) (by omega) (by omega)
   generalize u*4294967296+un1-q*Y=u2 at *
   have x1:IntKind.u64.wrap (u2 / c)=u2 / c:=wu64 ⟨g0.hq.1,by have:=g0.hq.2;omega⟩
   have x2:IntKind.u64.wrap (u2-IntKind.u64.wrap (u2 / c*c))=u2-u2 / c*c:=by
    have r1:=g0.hr.1
    have r2:0≤u2 / c*c:=qA7 g0.hq.1 (by omega)
    have r3:=g0.hr.2
    have r4:=g0.hlt
    rw [wu64 (n:=u2 / c*c) ⟨r2,by omega⟩,wu64 ⟨r1,by omega⟩]
   rw [x1,x2]
   exact ⟨3,yLr _ _ _ _ (fun q0 r0 b0 g=>hX q0 r0 b0 g) (fun q0 r0 b0 g=>hX q0 r0 b0 g) _ _ g0⟩
  have leaf:∀ {P:Prop},P→asr (!(decide ((m:Int)<0))) P:=fun p=>by rw [b5,yaM];exact p
  refine ⟨3,yLq _ _ _ _ (fun q r b G=>?_) (fun q r b G=>?_) _ _ g1⟩
  ·exact mid q G _ (fun q0 r0 b0 G0=>leaf (fin q G _ rfl q0 G0))
  ·exact mid q G _ (fun q0 r0 b0 G0=>leaf (fin q G _ rfl q0 G0))
theorem yI5 {h l y:Int} (hh:U64 h) (hl:U64 l) (hy:U64 y) (h0:0<y) {K:Int→Prop}
  (k:K ((h*18446744073709551616+l) % y)):yhD h l y K:=by
 unfold yhD yrY
 have b3:(!(decide (y=(0:Int))))=true:=by rw [decide_eq_false (by omega)];rfl
 have a1:=Int.emod_nonneg h (show y≠0 by omega)
 have a2:=Int.emod_lt_of_pos h h0
 have hh':=hh
 unfold U64 at hh hy
 rw [b3,yaM,yKO hh.1]
 refine yEa ⟨a1,by omega⟩ hl ⟨by omega,by omega⟩ a2 ?_
 have e:(h % y*18446744073709551616+l) % y=(h*18446744073709551616+l) % y:=by
  rw [Int.add_emod,Int.mul_emod,Int.emod_emod,← Int.mul_emod,← Int.add_emod]
 rw [e]
 exact k
def outS (s:Bool) (a b:Int) (K:Int→Int→Int→Prop):Prop :=
 if a≤1000000000000000000∧b≤1000000000000000000 then K (if s then -a else a) b 0 else K 0 0 16
theorem yvj {s:Bool} {a b:Int} (ha:0≤a) (hb:0≤b) (K:Int→Int→Int→Prop):ycv s a b K=outS s a b K:=by
 unfold ycv yin outS
 by_cases h:a≤1000000000000000000∧b≤1000000000000000000
 ·have e:decide ((if b>a then b else a)>(1000000000000000000:Int))=false:=by
   refine decide_eq_false ?_
   split <;> omega
  have w1:IntKind.i64.wrap a=a:=wi64 ⟨by omega,by omega⟩
  have w2:IntKind.i64.wrap b=b:=wi64 ⟨by omega,by omega⟩
  have w3:IntKind.i64.wrap (0-a)=-a:=by rw [wi64 ⟨by omega,by omega⟩];omega
  rw [e,yai,if_pos h,w1,w2,w3]
  cases s
  ·rfl
  ·rfl
 ·have e:decide ((if b>a then b else a)>(1000000000000000000:Int))=true:=by
   refine decide_eq_true ?_
   split <;> omega
  rw [e,yan,if_neg h]
def numM (a c:Int) (b d:Int):Nat:=(a.natAbs / Nat.gcd a.natAbs d.natAbs)*(c.natAbs / Nat.gcd c.natAbs b.natAbs)
def denM (a c:Int) (b d:Int):Nat:=(b.natAbs / Nat.gcd c.natAbs b.natAbs)*(d.natAbs / Nat.gcd a.natAbs d.natAbs)
theorem yFD {a b c d:Int} (ha:I64 a) (hb:I64 b) (hc:I64 c) (hd:I64 d) {K:Int→Int→Int→Prop}
  (k:if chk2 a b c d=0 then outS (decide (a<0) != decide (c<0)) (numM a c b d) (denM a c b d) K else K 0 0 (chk2 a b c d)):ya7 a b c d K:=by
 unfold ya7 ymr
 refine ypd ha hb hc hd ?_
 by_cases h:chk2 a b c d=0
 ·rw [if_pos h] at k
  have:(chk2 a b c d !=(0:Int))=false:=by rw [h];rfl
  rw [this,yai,ykz ha,ykz hc]
  obtain ⟨⟨b1,b2,a1,a2,_⟩,d1,d2,c1,c2,_⟩:=ycH.1 h
  have wb:IntKind.u64.wrap b=((b.natAbs:Nat):Int):=by rw [wu64 ⟨by omega,by omega⟩];omega
  have wd:IntKind.u64.wrap d=((d.natAbs:Nat):Int):=by rw [wu64 ⟨by omega,by omega⟩];omega
  rw [wb,wd]
  refine yyM _ _ _ (yyM _ _ _ ?_)
  unfold numM denM at k
  have g1:0<Nat.gcd a.natAbs d.natAbs:=qCc _ (by omega)
  have g2:0<Nat.gcd c.natAbs b.natAbs:=qCc _ (by omega)
  obtain ⟨g3,h3⟩:∃ g,g=Nat.gcd a.natAbs d.natAbs:=⟨_,rfl⟩
  obtain ⟨g4,h4⟩:∃ g,g=Nat.gcd c.natAbs b.natAbs:=⟨_,rfl⟩
  rw [← h3,← h4] at k ⊢
  rw [← h3] at g1;rw [← h4] at g2
  have n3:(!(decide ((g3:Int)=(0:Int))))=true:=by rw [decide_eq_false (by omega)];rfl
  have n4:(!(decide ((g4:Int)=(0:Int))))=true:=by rw [decide_eq_false (by omega)];rfl
  rw [n3,n4,yaM,yaM,ype (by omega),ype (by omega),ype (by omega),ype (by omega),← qB7,← qB7,← qB7,← qB7]
  have q1:a.natAbs / g3≤a.natAbs:=Nat.div_le_self _ _
  have q2:c.natAbs / g4≤c.natAbs:=Nat.div_le_self _ _
  have q3:b.natAbs / g4≤b.natAbs:=Nat.div_le_self _ _
  have q4:d.natAbs / g3≤d.natAbs:=Nat.div_le_self _ _
  generalize a.natAbs / g3=A at *
  generalize c.natAbs / g4=C at *
  generalize b.natAbs / g4=B at *
  generalize d.natAbs / g3=D at *
  rw [wu64 (n:=(A:Int)) ⟨by omega,by omega⟩,wu64 (n:=(C:Int)) ⟨by omega,by omega⟩,wu64 (n:=(B:Int)) ⟨by omega,by omega⟩,wu64 (n:=(D:Int)) ⟨by omega,by omega⟩,
   yjK ⟨by omega,by omega⟩ ⟨by omega,by omega⟩,yaM,yaM,yjK ⟨by omega,by omega⟩ ⟨by omega,by omega⟩]
  have m1:A*C≤1000000000000000000*1000000000000000000:=Nat.mul_le_mul (by omega) (by omega)
  have m2:B*D≤1000000000000000000*1000000000000000000:=Nat.mul_le_mul (by omega) (by omega)
  rw [← Int.natCast_mul,← Int.natCast_mul]
  generalize A*C=M at *
  generalize B*D=N at *
  have wm:IntKind.u64.wrap ((M:Int) / 18446744073709551616+(N:Int) / 18446744073709551616)=(M:Int) / 18446744073709551616+(N:Int) / 18446744073709551616:=wu64 ⟨by omega,by omega⟩
  rw [wm]
  by_cases hb:(M:Int) / 18446744073709551616+(N:Int) / 18446744073709551616>0
  ·rw [decide_eq_true hb,yan]
   unfold outS at k
   rw [if_neg (by omega)] at k
   exact k
  ·rw [decide_eq_false hb,yai]
   have eM:(M:Int) % 18446744073709551616=M:=by omega
   have eN:(N:Int) % 18446744073709551616=N:=by omega
   rw [eM,eN]
   by_cases h0:(M:Int)>0
   ·rw [decide_eq_true h0,yan,yvj (by omega) (by omega)]
    exact k
   ·rw [decide_eq_false h0,yai,yvj (by omega) (by omega)]
    have hz:M=0:=by omega
    subst hz
    unfold outS at k ⊢
    by_cases hN:(N:Int)≤1000000000000000000
    ·rw [if_pos ⟨by omega,hN⟩] at k ⊢
     have e:(if (decide (a<0) != decide (c<0))=true then -((0:Nat):Int) else ((0:Nat):Int))=0:=by split <;> rfl
     rw [e] at k
     exact k
    ·rw [if_neg (by omega)] at k ⊢
     exact k
 ·rw [if_neg h] at k
  have:(chk2 a b c d !=(0:Int))=true:=by rw [bne_iff_ne];exact h
  rw [this,yan]
  exact k
theorem RV.swap {c d:Int} (h:RV c d) (h0:0<c):RV d c:=by
 obtain ⟨d1,d2,c1,c2,g⟩:=h
 exact ⟨by omega,c2,by omega,d2,by rw [Nat.gcd_comm];exact g⟩
theorem RV.swapn {c d:Int} (h:RV c d) (h0:c<0):RV (-d) (-c):=by
 obtain ⟨d1,d2,c1,c2,g⟩:=h
 exact ⟨by omega,by omega,by omega,by omega,by rw [Int.natAbs_neg,Int.natAbs_neg,Nat.gcd_comm];exact g⟩
theorem yLs {a b c d:Int} (ha:I64 a) (hb:I64 b) (hc:I64 c) (hd:I64 d) {K:Int→Int→Int→Prop}
  (k:if chk2 a b c d=0 then (if c=0 then K 0 0 18 else outS (decide (a<0) != decide (c<0)) (numM a d b c) (denM a d b c) K) else K 0 0 (chk2 a b c d)):ycw a b c d K:=by
 unfold ycw ymw
 refine ypd ha hb hc hd ?_
 by_cases h:chk2 a b c d=0
 ·rw [if_pos h] at k
  have:(chk2 a b c d !=(0:Int))=false:=by rw [h];rfl
  rw [this,yai]
  obtain ⟨hab,hcd⟩:=ycH.1 h
  obtain ⟨d1,d2,c1,c2,_⟩:=id hcd
  by_cases h0:c=0
  ·rw [if_pos h0] at k
   have:(c ==(0:Int))=true:=beq_iff_eq.2 h0
   rw [this,yan]
   exact k
  ·rw [if_neg h0] at k
   have:(c ==(0:Int))=false:=beq_eq_false_iff_ne.2 h0
   rw [this,yai]
   by_cases hn:c<0
   ·rw [decide_eq_true hn] at k
    rw [decide_eq_true hn,yan,wi64 (n:=0-d) ⟨by omega,by omega⟩,wi64 (n:=0-c) ⟨by omega,by omega⟩,Int.zero_sub,Int.zero_sub]
    have e:chk2 a b (-d) (-c)=0:=ycH.2 ⟨hab,hcd.swapn hn⟩
    refine yFD ha hb ⟨by omega,by omega⟩ ⟨by omega,by omega⟩ ?_
    rw [if_pos e,decide_eq_true (show -d<0 by omega)]
    unfold numM denM at k ⊢
    rw [Int.natAbs_neg,Int.natAbs_neg]
    exact k
   ·rw [decide_eq_false hn] at k
    rw [decide_eq_false hn,yai]
    have e:chk2 a b d c=0:=ycH.2 ⟨hab,hcd.swap (by omega)⟩
    refine yFD ha hb hd hc ?_
    rw [if_pos e,decide_eq_false (show ¬d<0 by omega)]
    exact k
 ·rw [if_neg h] at k
  have:(chk2 a b c d !=(0:Int))=true:=by rw [bne_iff_ne];exact h
  rw [this,yan]
  exact k
theorem yKp {s:Bool} {hi lo p1 p3:Int} {g:Nat} (hh:U64 hi) (hl:U64 lo) (hg:0<g) (g1:(g:Int)≤1000000000000000000)
   (h1:0≤p1∧p1≤1000000000000000000) (h3:0≤p3∧p3≤1000000000000000000) {K:Int→Int→Int→Prop}
   (k:outS s (((hi*18446744073709551616+lo).toNat / Nat.gcd (hi*18446744073709551616+lo).toNat g:Nat):Int)
    (((p1.toNat / g)*(p3.toNat / Nat.gcd (hi*18446744073709551616+lo).toNat g):Nat):Int) K) :
   (yhD hi lo (g:Int) (fun (b:Int) =>
 (ycu b (g:Int) (fun (a:Int) =>
 (cbr (decide (hi≥a))
 (K (0:Int) (0:Int) (16:Int))
 (ygr hi lo a (fun (c:Int) (j:Int) =>
 (asr (!(decide ((g:Int)=(0:Int))))
 (asr (!(decide (a=(0:Int))))
 (yfp (IntKind.u64.wrap (Int.tdiv (IntKind.u64.wrap p1) (g:Int))) (IntKind.u64.wrap (Int.tdiv (IntKind.u64.wrap p3) a)) (fun (d:Int) (e:Int) =>
 (cbr (decide (d>(0:Int)))
 (K (0:Int) (0:Int) (16:Int))
 (ycv s c e (fun (f:Int) (h:Int) (i:Int) =>
 (K f h i))))))))))))))):=by
  unfold U64 at hh hl
  obtain ⟨X,hX⟩:∃ X:Nat,X=(hi*18446744073709551616+lo).toNat:=⟨_,rfl⟩
  have eX:hi*18446744073709551616+lo=(X:Int):=by omega
  rw [← hX] at k
  refine yI5 hh hl ⟨by omega,by omega⟩ (by omega) ?_
  rw [eX,← Int.natCast_emod]
  refine yyM _ _ _ ?_
  have eg:Nat.gcd (X % g) g=Nat.gcd X g:=by rw [Nat.gcd_comm,Nat.gcd_comm X,Nat.gcd_rec g X,Nat.gcd_comm]
  rw [eg]
  have gp:0<Nat.gcd X g:=qCc _ hg
  have gl:Nat.gcd X g≤g:=Nat.le_of_dvd hg (Nat.gcd_dvd_right _ _)
  generalize Nat.gcd X g=G at *
  by_cases hb:hi≥(G:Int)
  ·rw [decide_eq_true hb,yan]
   unfold outS at k
   have:18446744073709551616≤X / G:=by
    rw [Nat.le_div_iff_mul_le gp]
    omega
   rw [if_neg (by omega)] at k
   exact k
  ·rw [decide_eq_false hb,yai]
   refine yEa hh hl ⟨by omega,by omega⟩ (by omega) ?_
   rw [eX]
   have n3:(!(decide ((g:Int)=(0:Int))))=true:=by rw [decide_eq_false (by omega)];rfl
   have n4:(!(decide ((G:Int)=(0:Int))))=true:=by rw [decide_eq_false (by omega)];rfl
   have e1:IntKind.u64.wrap p1=(p1.toNat:Int):=by rw [wu64 ⟨by omega,by omega⟩];omega
   have e3:IntKind.u64.wrap p3=(p3.toNat:Int):=by rw [wu64 ⟨by omega,by omega⟩];omega
   rw [n3,n4,yaM,yaM,e1,e3,ype (by omega),ype (by omega),← qB7,← qB7,← qB7]
   have q1:p1.toNat / g≤p1.toNat:=Nat.div_le_self _ _
   have q3:p3.toNat / G≤p3.toNat:=Nat.div_le_self _ _
   generalize p1.toNat / g=A at *
   generalize p3.toNat / G=B at *
   generalize X / G=N at *
   rw [wu64 (n:=(A:Int)) ⟨by omega,by omega⟩,wu64 (n:=(B:Int)) ⟨by omega,by omega⟩,yjK ⟨by omega,by omega⟩ ⟨by omega,by omega⟩,← Int.natCast_mul]
   generalize A*B=D at *
   by_cases hd:((D:Int) / 18446744073709551616)>0
   ·rw [decide_eq_true hd,yan]
    unfold outS at k
    rw [if_neg (by omega)] at k
    exact k
   ·rw [decide_eq_false hd,yai]
    have eD:(D:Int) % 18446744073709551616=D:=by omega
    rw [eD,yvj (by omega) (by omega)]
    exact k
theorem yEb {p q c:Int} {K:Int→Int→Prop} (hc:c.toNat≤1) (k:K (((p.toNat+q.toNat+c.toNat) % 18446744073709551616:Nat):Int) (((p.toNat+q.toNat+c.toNat) / 18446744073709551616:Nat):Int)):yiV p q c K:=by
 unfold yiV
 rw [decide_eq_true hc,yaM]
 exact k
theorem yEc {p q c:Int} {K:Int→Int→Prop} (hc:c.toNat≤1) (k:K (((p.toNat+18446744073709551616-q.toNat-c.toNat) % 18446744073709551616:Nat):Int) ((if q.toNat+c.toNat≤p.toNat then 0 else 1:Nat):Int)):yiW p q c K:=by
 unfold yiW
 rw [decide_eq_true hc,yaM]
 have e:(bif Nat.ble (q.toNat+c.toNat) p.toNat then 0 else 1:Nat)=(if q.toNat+c.toNat≤p.toNat then 0 else 1:Nat):=by
  by_cases h:q.toNat+c.toNat≤p.toNat
  ·rw [if_pos h,show Nat.ble (q.toNat+c.toNat) p.toNat=true from Nat.ble_eq_true_of_le h];rfl
  ·rw [if_neg h]
   cases hb:Nat.ble (q.toNat+c.toNat) p.toNat
   ·rfl
   ·exact absurd (qCb hb) h
 rw [e]
 exact k
theorem yI6 {X Y:Int} (hx:0≤X) (hy:0≤Y) (hs:X+Y<340282366920938463463374607431768211456) {F:Int→Int→Int→Int→Prop}
  (h:∀ c1 c2,F ((X+Y) % 18446744073709551616) c1 ((X+Y) / 18446744073709551616) c2) :
  yiV (X % 18446744073709551616) (Y % 18446744073709551616) 0 (fun lo c1=>yiV (X / 18446744073709551616) (Y / 18446744073709551616) c1 (fun hi c2=>F lo c1 hi c2)):=by
 obtain ⟨x,rfl⟩:∃ x:Nat,X=x:=⟨X.toNat,by omega⟩
 obtain ⟨y,rfl⟩:∃ y:Nat,Y=y:=⟨Y.toNat,by omega⟩
 refine yEb (by decide) (yEb (by omega) ?_)
 have e1:(((((x:Int) % 18446744073709551616).toNat+((y:Int) % 18446744073709551616).toNat+(0:Int).toNat) % 18446744073709551616:Nat):Int)=((x:Int)+y) % 18446744073709551616:=by omega
 have e2:(((((x:Int) / 18446744073709551616).toNat+((y:Int) / 18446744073709551616).toNat+(((((x:Int) % 18446744073709551616).toNat+((y:Int) % 18446744073709551616).toNat+(0:Int).toNat) / 18446744073709551616:Nat):Int).toNat) % 18446744073709551616:Nat):Int)=((x:Int)+y) / 18446744073709551616:=by omega
 rw [e1,e2]
 exact h _ _
theorem ytT {X Y:Int} (hy:0≤Y) (hxy:Y≤X) (hs:X<340282366920938463463374607431768211456) {F:Int→Int→Int→Int→Prop}
  (h:∀ c1 c2,F ((X-Y) % 18446744073709551616) c1 ((X-Y) / 18446744073709551616) c2) :
  yiW (X % 18446744073709551616) (Y % 18446744073709551616) 0 (fun lo c1=>yiW (X / 18446744073709551616) (Y / 18446744073709551616) c1 (fun hi c2=>F lo c1 hi c2)):=by
 obtain ⟨x,rfl⟩:∃ x:Nat,X=x:=⟨X.toNat,by omega⟩
 obtain ⟨y,rfl⟩:∃ y:Nat,Y=y:=⟨Y.toNat,by omega⟩
 refine yEc (by decide) (yEc (by split <;> omega) ?_)
 have e1:(((((x:Int) % 18446744073709551616).toNat+18446744073709551616-((y:Int) % 18446744073709551616).toNat-(0:Int).toNat) % 18446744073709551616:Nat):Int)=((x:Int)-y) % 18446744073709551616:=by omega
 rw [e1]
 by_cases hb:((y:Int) % 18446744073709551616).toNat+(0:Int).toNat≤((x:Int) % 18446744073709551616).toNat
 ·rw [if_pos hb]
  have e2:(((((x:Int) / 18446744073709551616).toNat+18446744073709551616-((y:Int) / 18446744073709551616).toNat-((0:Nat):Int).toNat) % 18446744073709551616:Nat):Int)=((x:Int)-y) / 18446744073709551616:=by omega
  rw [e2]
  exact h _ _
 ·rw [if_neg hb]
  have e2:(((((x:Int) / 18446744073709551616).toNat+18446744073709551616-((y:Int) / 18446744073709551616).toNat-((1:Nat):Int).toNat) % 18446744073709551616:Nat):Int)=((x:Int)-y) / 18446744073709551616:=by omega
  rw [e2]
  exact h _ _
def outA (s:Bool) (Z p1 p3:Int) (g:Nat) (K:Int→Int→Int→Prop):Prop :=
 if Z=0 then K 0 1 0 else outS s ((Z.toNat / Nat.gcd Z.toNat g:Nat):Int) (((p1.toNat / g)*(p3.toNat / Nat.gcd Z.toNat g):Nat):Int) K
theorem yyP {s:Bool} {Z p1 p3:Int} {g:Nat} (hz:0≤Z) (hz2:Z<340282366920938463463374607431768211456) (hg:0<g) (g1:(g:Int)≤1000000000000000000)
   (h1:0≤p1∧p1≤1000000000000000000) (h3:0≤p3∧p3≤1000000000000000000) {K:Int→Int→Int→Prop}
   (k:outA s Z p1 p3 g K) :
   cbr (Z / 18446744073709551616 ==(0:Int)) (cbr (Z % 18446744073709551616 ==(0:Int)) (K 0 1 0) (yhD (Z / 18446744073709551616) (Z % 18446744073709551616) (g:Int) (fun (b:Int) =>
 (ycu b (g:Int) (fun (a:Int) =>
 (cbr (decide ((Z / 18446744073709551616)≥a))
 (K (0:Int) (0:Int) (16:Int))
 (ygr (Z / 18446744073709551616) (Z % 18446744073709551616) a (fun (c:Int) (j:Int) =>
 (asr (!(decide ((g:Int)=(0:Int))))
 (asr (!(decide (a=(0:Int))))
 (yfp (IntKind.u64.wrap (Int.tdiv (IntKind.u64.wrap p1) (g:Int))) (IntKind.u64.wrap (Int.tdiv (IntKind.u64.wrap p3) a)) (fun (d:Int) (e:Int) =>
 (cbr (decide (d>(0:Int)))
 (K (0:Int) (0:Int) (16:Int))
 (ycv s c e (fun (f:Int) (h:Int) (i:Int) =>
 (K f h i)))))))))))))))) (yhD (Z / 18446744073709551616) (Z % 18446744073709551616) (g:Int) (fun (b:Int) =>
 (ycu b (g:Int) (fun (a:Int) =>
 (cbr (decide ((Z / 18446744073709551616)≥a))
 (K (0:Int) (0:Int) (16:Int))
 (ygr (Z / 18446744073709551616) (Z % 18446744073709551616) a (fun (c:Int) (j:Int) =>
 (asr (!(decide ((g:Int)=(0:Int))))
 (asr (!(decide (a=(0:Int))))
 (yfp (IntKind.u64.wrap (Int.tdiv (IntKind.u64.wrap p1) (g:Int))) (IntKind.u64.wrap (Int.tdiv (IntKind.u64.wrap p3) a)) (fun (d:Int) (e:Int) =>
 (cbr (decide (d>(0:Int)))
 (K (0:Int) (0:Int) (16:Int))
 (ycv s c e (fun (f:Int) (h:Int) (i:Int) =>
 (K f h i))))))))))))))):=by
  unfold outA at k
  have eZ:Z / 18446744073709551616*18446744073709551616+Z % 18446744073709551616=Z:=by omega
  by_cases h0:Z=0
  ·rw [if_pos h0] at k
   subst h0
   have e1:((0:Int) / 18446744073709551616 ==(0:Int))=true:=by decide
   have e2:((0:Int) % 18446744073709551616 ==(0:Int))=true:=by decide
   rw [e1,yan,e2,yan]
   exact k
  ·rw [if_neg h0] at k
   have t:=yKp (s:=s) (hi:=Z / 18446744073709551616) (lo:=Z % 18446744073709551616) (p1:=p1) (p3:=p3) (g:=g) (K:=K) ⟨by omega,by omega⟩ ⟨by omega,by omega⟩ hg g1 h1 h3 (by rw [eZ];exact k)
   cases h4:(Z / 18446744073709551616 ==(0:Int))
   ·rw [yai];exact t
   ·rw [yan]
    cases h2:(Z % 18446744073709551616 ==(0:Int))
    ·rw [yai];exact t
    ·have:=beq_iff_eq.1 h2
     have:=beq_iff_eq.1 h4
     exact absurd (show Z=0 by omega) h0
theorem ysk {s s':Bool} {Z Z' p1 p3:Int} {g:Nat} {K:Int→Int→Int→Prop} (k:outA s' Z' p1 p3 g K) (hz:Z=Z') (hs:Z≠0→s=s'):outA s Z p1 p3 g K:=by
 subst hz
 unfold outA at k ⊢
 by_cases h:Z=0
 ·rw [if_pos h] at k ⊢;exact k
 ·rw [if_neg h] at k ⊢;rw [hs h];exact k
theorem yI7 {a b c d:Int} (ha:I64 a) (hb:I64 b) (hc:I64 c) (hd:I64 d) {K:Int→Int→Int→Prop}
  (k:if chk2 a b c d=0 then outA (decide (a*(d / (Nat.gcd b.natAbs d.natAbs:Nat))+c*(b / (Nat.gcd b.natAbs d.natAbs:Nat))<0))
    ((a*(d / (Nat.gcd b.natAbs d.natAbs:Nat))+c*(b / (Nat.gcd b.natAbs d.natAbs:Nat))).natAbs:Int) b d (Nat.gcd b.natAbs d.natAbs) K
   else K 0 0 (chk2 a b c d)):ybo a b c d K:=by
 unfold ybo ymu
 refine ypd ha hb hc hd ?_
 by_cases h:chk2 a b c d=0
 ·rw [if_pos h] at k
  have:(chk2 a b c d !=(0:Int))=false:=by rw [h];rfl
  rw [this,yai]
  obtain ⟨⟨b1,b2,a1,a2,_⟩,d1,d2,c1,c2,_⟩:=ycH.1 h
  have wb:IntKind.u64.wrap b=((b.natAbs:Nat):Int):=by rw [wu64 ⟨by omega,by omega⟩];omega
  have wd:IntKind.u64.wrap d=((d.natAbs:Nat):Int):=by rw [wu64 ⟨by omega,by omega⟩];omega
  have g1:0<Nat.gcd b.natAbs d.natAbs:=qCc _ (by omega)
  have g2:Nat.gcd b.natAbs d.natAbs≤d.natAbs:=Nat.le_of_dvd (by omega) (Nat.gcd_dvd_right _ _)
  have go:ycu (IntKind.u64.wrap b) (IntKind.u64.wrap d)=ycu ((b.natAbs:Nat):Int) ((d.natAbs:Nat):Int):=by rw [wb,wd]
  rw [go]
  refine yyM _ _ _ ?_
  generalize Nat.gcd b.natAbs d.natAbs=g at *
  have n3:(!(decide ((g:Int)=(0:Int))))=true:=by rw [decide_eq_false (by omega)];rfl
  have q1:0≤b / (g:Int):=Int.ediv_nonneg (by omega) (by omega)
  have q2:0≤d / (g:Int):=Int.ediv_nonneg (by omega) (by omega)
  have q3:b / (g:Int)≤b:=Int.ediv_le_self _ (by omega)
  have q4:d / (g:Int)≤d:=Int.ediv_le_self _ (by omega)
  have ed:IntKind.u64.wrap (Int.tdiv (IntKind.u64.wrap d) (g:Int))=d / (g:Int):=by
   rw [wu64 (n:=d) ⟨by omega,by omega⟩,ype (by omega),wu64 ⟨by omega,by omega⟩]
  have eb:IntKind.u64.wrap (Int.tdiv (IntKind.u64.wrap b) (g:Int))=b / (g:Int):=by
   rw [wu64 (n:=b) ⟨by omega,by omega⟩,ype (by omega),wu64 ⟨by omega,by omega⟩]
  have yk8:∀ {c:Bool} {P:Prop},c=true→P→asr c P:=fun h p=>by rw [h,yaM];exact p
  rw [ykz ha]
  refine yk8 n3 ?_
  rw [yjK (U64.abs ha) (by rw [ed];exact ⟨by omega,by omega⟩),ykz hc]
  refine yk8 n3 ?_
  rw [yjK (U64.abs hc) (by rw [eb];exact ⟨by omega,by omega⟩)]
  obtain ⟨X,hX⟩:∃ X,X=((a.natAbs:Nat):Int)*IntKind.u64.wrap (Int.tdiv (IntKind.u64.wrap d) (g:Int)):=⟨_,rfl⟩
  obtain ⟨Y,hY⟩:∃ Y,Y=((c.natAbs:Nat):Int)*IntKind.u64.wrap (Int.tdiv (IntKind.u64.wrap b) (g:Int)):=⟨_,rfl⟩
  rw [← hX,← hY]
  rw [ed] at hX;rw [eb] at hY
  have X0:0≤X:=by rw [hX];exact qA7 (by omega) q2
  have Y0:0≤Y:=by rw [hY];exact qA7 (by omega) q1
  have X1:X≤1000000000000000000*1000000000000000000:=by rw [hX];exact qA8 (by omega) (by omega) q2 (by omega)
  have Y1:Y≤1000000000000000000*1000000000000000000:=by rw [hY];exact qA8 (by omega) (by omega) q1 (by omega)
  have ax:a*(d / (g:Int))=if a<0 then -X else X:=by
   split
   ·rw [hX,show ((a.natAbs:Nat):Int)=-a by omega,Int.neg_mul,Int.neg_neg]
   ·rw [hX,show ((a.natAbs:Nat):Int)=a by omega]
  have cy:c*(b / (g:Int))=if c<0 then -Y else Y:=by
   split
   ·rw [hY,show ((c.natAbs:Nat):Int)=-c by omega,Int.neg_mul,Int.neg_neg]
   ·rw [hY,show ((c.natAbs:Nat):Int)=c by omega]
  rw [ax,cy] at k
  clear hX hY ax cy ed eb n3
  by_cases hs:decide (a<0)=decide (c<0)
  ·have e:(decide (a<0) == decide (c<0))=true:=beq_iff_eq.2 hs
   rw [e,yan]
   refine yI6 X0 Y0 (by omega) (fun c1 c2=>?_)
   refine yyP (by omega) (by omega) g1 (by omega) ⟨by omega,b2⟩ ⟨by omega,d2⟩ (ysk k ?_ ?_)
   ·by_cases h1:a<0
    ·have h2:c<0:=by simpa [h1] using hs.symm
     rw [if_pos h1,if_pos h2];omega
    ·have h2:¬c<0:=by simpa [h1] using hs.symm
     rw [if_neg h1,if_neg h2];omega
   ·intro h0
    by_cases h1:a<0
    ·have h2:c<0:=by simpa [h1] using hs.symm
     rw [if_pos h1,if_pos h2,decide_eq_true h1,decide_eq_true (by omega)]
    ·have h2:¬c<0:=by simpa [h1] using hs.symm
     rw [if_neg h1,if_neg h2,decide_eq_false h1,decide_eq_false (by omega)]
  ·have e:(decide (a<0) == decide (c<0))=false:=beq_eq_false_iff_ne.2 hs
   rw [e,yai]
   have h12:(a<0∧¬c<0)∨(¬a<0∧c<0):=by
    by_cases h1:a<0 <;> by_cases h2:c<0 <;> simp [h1,h2] at hs ⊢
   by_cases hlt:X<Y
   ·have kk:outA (!decide (a<0)) (Y-X) b d g K:=by
     refine ysk k ?_ ?_
     ·rcases h12 with ⟨h1,h2⟩ | ⟨h1,h2⟩
      ·rw [if_pos h1,if_neg h2];omega
      ·rw [if_neg h1,if_pos h2];omega
     ·intro h0
      rcases h12 with ⟨h1,h2⟩ | ⟨h1,h2⟩
      ·rw [if_pos h1,if_neg h2,decide_eq_true h1,decide_eq_false (by omega)];rfl
      ·rw [if_neg h1,if_pos h2,decide_eq_false h1,decide_eq_true (by omega)];rfl
    by_cases h1:X / 18446744073709551616<Y / 18446744073709551616
    ·rw [decide_eq_true h1,yan]
     refine ytT X0 (by omega) (by omega) (fun c1 c2=>?_)
     exact yyP (by omega) (by omega) g1 (by omega) ⟨by omega,b2⟩ ⟨by omega,d2⟩ kk
    ·have e1:(X / 18446744073709551616 == Y / 18446744073709551616)=true:=beq_iff_eq.2 (by omega)
     rw [decide_eq_false h1,yai,e1,yan,decide_eq_true (show X % 18446744073709551616<Y % 18446744073709551616 by have:=beq_iff_eq.1 e1;omega),yan]
     refine ytT X0 (by omega) (by omega) (fun c1 c2=>?_)
     exact yyP (by omega) (by omega) g1 (by omega) ⟨by omega,b2⟩ ⟨by omega,d2⟩ kk
   ·have kk:outA (decide (a<0)) (X-Y) b d g K:=by
     refine ysk k ?_ ?_
     ·rcases h12 with ⟨h1,h2⟩ | ⟨h1,h2⟩
      ·rw [if_pos h1,if_neg h2];omega
      ·rw [if_neg h1,if_pos h2];omega
     ·intro h0
      rcases h12 with ⟨h1,h2⟩ | ⟨h1,h2⟩
      ·rw [if_pos h1,if_neg h2,decide_eq_true h1,decide_eq_true (by omega)]
      ·rw [if_neg h1,if_pos h2,decide_eq_false h1,decide_eq_false (by omega)]
    have h1:¬X / 18446744073709551616<Y / 18446744073709551616:=by omega
    rw [decide_eq_false h1,yai]
    cases e1:(X / 18446744073709551616 == Y / 18446744073709551616)
    ·rw [yai]
     refine ytT Y0 (by omega) (by omega) (fun c1 c2=>?_)
     exact yyP (by omega) (by omega) g1 (by omega) ⟨by omega,b2⟩ ⟨by omega,d2⟩ kk
    ·rw [yan,decide_eq_false (show ¬X % 18446744073709551616<Y % 18446744073709551616 by have:=beq_iff_eq.1 e1;omega),yai]
     refine ytT Y0 (by omega) (by omega) (fun c1 c2=>?_)
     exact yyP (by omega) (by omega) g1 (by omega) ⟨by omega,b2⟩ ⟨by omega,d2⟩ kk
 ·rw [if_neg h] at k
  have:(chk2 a b c d !=(0:Int))=true:=by rw [bne_iff_ne];exact h
  rw [this,yan]
  exact k
theorem RV.neg {c d:Int} (h:RV c d):RV (-c) d:=by
 obtain ⟨d1,d2,c1,c2,g⟩:=h
 exact ⟨d1,d2,by omega,by omega,by rw [Int.natAbs_neg];exact g⟩
theorem yLt {a b c d:Int} (ha:I64 a) (hb:I64 b) (hc:I64 c) (hd:I64 d) {K:Int→Int→Int→Prop}
  (k:if chk2 a b c d=0 then outA (decide (a*(d / (Nat.gcd b.natAbs d.natAbs:Nat))+-c*(b / (Nat.gcd b.natAbs d.natAbs:Nat))<0))
    ((a*(d / (Nat.gcd b.natAbs d.natAbs:Nat))+-c*(b / (Nat.gcd b.natAbs d.natAbs:Nat))).natAbs:Int) b d (Nat.gcd b.natAbs d.natAbs) K
   else K 0 0 (chk2 a b c d)):yaC a b c d K:=by
 unfold yaC ymv
 refine ypd ha hb hc hd ?_
 by_cases h:chk2 a b c d=0
 ·rw [if_pos h] at k
  have:(chk2 a b c d !=(0:Int))=false:=by rw [h];rfl
  rw [this,yai]
  obtain ⟨hab,hcd⟩:=ycH.1 h
  obtain ⟨d1,d2,c1,c2,_⟩:=id hcd
  rw [wi64 (n:=0-c) ⟨by omega,by omega⟩,Int.zero_sub]
  refine yI7 ha hb ⟨by omega,by omega⟩ hd ?_
  rw [if_pos (ycH.2 ⟨hab,hcd.neg⟩)]
  exact k
 ·rw [if_neg h] at k
  have:(chk2 a b c d !=(0:Int))=true:=by rw [bne_iff_ne];exact h
  rw [this,yan]
  exact k
def ints (l:List Int):List PV:=l.map (PV.int .i64)
theorem ybh (l:List Int):(ints l).length=l.length:=qAx ..
theorem yCA {l:List Int} {i:Nat} (h:i<l.length):List.getD (ints l) i .nils=.int .i64 (l.getD i 0):=by
 unfold ints
 rw [qAd,qAd,qBf,qAb h]
 rfl
theorem ycI {l:List Int} {i:Nat} (h:i<l.length):yaa (List.getD (ints l) i .nils)=l.getD i 0:=by
 rw [yCA h];rfl
theorem yhO {l:List Int} {i:Nat} (h:i<l.length):conf zI (List.getD (ints l) i .nils)=true:=by
 rw [yCA h];rfl
theorem yk8 {c:Bool} {P:Prop} (h:c=true) (p:P):asr c P:=by rw [h,yaM];exact p
theorem yqU {c:Prop} [Decidable c] {P:Prop} (h:c) (p:P):asr (decide c) P:=yk8 (decide_eq_true h) p
theorem yGt {c:Prop} [Decidable c] {P Q:Prop} (h:c) (p:P):cbr (decide c) P Q:=by rw [decide_eq_true h,yan];exact p
theorem yAD {c:Prop} [Decidable c] {P Q:Prop} (h:¬c) (q:Q):cbr (decide c) P Q:=by rw [decide_eq_false h,yai];exact q
def mnf (m x:Int):Int:=if x<m then x else m
theorem yI8 {l:List Int} (hl:l.length<9223372036854775807) (x0:List PV→Int→Int→Bool→Prop) :
  ∀ (rest:List Int) (i:Nat) (m:Int) (n:Nat),l.drop i=rest→i≤l.length→rest.length<n→x0 (ints l) (rest.foldl mnf m) (l.length:Int) false →
   ybY x0 n (ints l) m (i:Int):=by
 intro rest
 induction rest with
 | nil =>
  intro i m n hd hi hn k
  have:i=l.length:=by
   have:=congrArg List.length hd
   rw [qAt] at this
   have h2:([]:List Int).length=0:=rfl
   omega
  match n,hn with
  | n+1,_ =>
   unfold ybY
   rw [ybh,this]
   exact yAD (by omega) k
 | cons x t ih =>
  intro i m n hd hi hn k
  have hlt:i<l.length:=by
   have:=congrArg List.length hd
   rw [qAt,qAk] at this
   omega
  have hx:l.getD i 0=x:=by
   have:=List.getElem_drop (xs:=l) (i:=i) (j:=0) (h:=by rw [hd];exact Nat.zero_lt_succ _)
   rw [qAd,qAb hlt]
   simp only [hd,List.getElem_cons_zero,Nat.add_zero] at this
   exact this.symm
  have ht:l.drop (i+1)=t:=by rw [← List.tail_drop,hd];rfl
  match n,hn with
  | n+1,hn =>
   unfold ybY
   rw [ybh]
   refine yGt (by omega) ?_
   refine yqU (by omega) (yqU (by omega) (yk8 (yhO (by omega)) ?_))
   rw [qAe,ycI hlt,hx,wi64 (n:=(i:Int)+1) ⟨by omega,by omega⟩]
   exact ih (i+1) _ n ht (by omega) (by rw [qAk] at hn;omega) k
theorem yLu {l:List Int} (hl:l.length<9223372036854775807) {x:Int} {t:List Int} (e:l=x::t) {K:Int→Prop} (k:K (t.foldl mnf x)):ydi (ints l) K:=by
 have h0:0<l.length:=by rw [e];exact Nat.zero_lt_succ _
 unfold ydi yhE
 rw [ybh]
 refine yAD (by omega) (yqU (by omega) (yk8 (yhO h0) ⟨l.length+1,?_⟩))
 have e0:l.getD 0 0=x:=by rw [e];rfl
 rw [ycI h0,e0]
 refine yI8 hl _ t 1 x _ (by rw [e];rfl) (by omega) (by rw [e,qAk];omega) ?_
 exact k
def mxf (m x:Int):Int:=if x>m then x else m
theorem yI9 {l:List Int} (hl:l.length<9223372036854775807) (x0:List PV→Int→Int→Bool→Prop) :
  ∀ (rest:List Int) (i:Nat) (m:Int) (n:Nat),l.drop i=rest→i≤l.length→rest.length<n→x0 (ints l) (rest.foldl mxf m) (l.length:Int) false →
   ybZ x0 n (ints l) m (i:Int):=by
 intro rest
 induction rest with
 | nil =>
  intro i m n hd hi hn k
  have:i=l.length:=by
   have:=congrArg List.length hd
   rw [qAt] at this
   have h2:([]:List Int).length=0:=rfl
   omega
  match n,hn with
  | n+1,_ =>
   unfold ybZ
   rw [ybh,this]
   exact yAD (by omega) k
 | cons x t ih =>
  intro i m n hd hi hn k
  have hlt:i<l.length:=by
   have:=congrArg List.length hd
   rw [qAt,qAk] at this
   omega
  have hx:l.getD i 0=x:=by
   have:=List.getElem_drop (xs:=l) (i:=i) (j:=0) (h:=by rw [hd];exact Nat.zero_lt_succ _)
   rw [qAd,qAb hlt]
   simp only [hd,List.getElem_cons_zero,Nat.add_zero] at this
   exact this.symm
  have ht:l.drop (i+1)=t:=by rw [← List.tail_drop,hd];rfl
  match n,hn with
  | n+1,hn =>
   unfold ybZ
   rw [ybh]
   refine yGt (by omega) ?_
   refine yqU (by omega) (yqU (by omega) (yk8 (yhO (by omega)) ?_))
   rw [qAe,ycI hlt,hx,wi64 (n:=(i:Int)+1) ⟨by omega,by omega⟩]
   exact ih (i+1) _ n ht (by omega) (by rw [qAk] at hn;omega) k
theorem yJa {l:List Int} (hl:l.length<9223372036854775807) {x:Int} {t:List Int} (e:l=x::t) {K:Int→Prop} (k:K (t.foldl mxf x)):ydj (ints l) K:=by
 have h0:0<l.length:=by rw [e];exact Nat.zero_lt_succ _
 unfold ydj yhG
 rw [ybh]
 refine yAD (by omega) (yqU (by omega) (yk8 (yhO h0) ⟨l.length+1,?_⟩))
 have e0:l.getD 0 0=x:=by rw [e];rfl
 rw [ycI h0,e0]
 refine yI9 hl _ t 1 x _ (by rw [e];rfl) (by omega) (by rw [e,qAk];omega) ?_
 exact k
def incr (l:List Int) (i:Nat):Prop:=∀ j,i≤j→j+1<l.length→l.getD j 0<l.getD (j+1) 0
theorem yFE {l:List Int} {p2:List PV} {p0:Int} (hl:l.length<9223372036854775807) (W1 W2:List PV→(Int→Prop)→Prop) (x0:Int→Prop) (x1:Int→List PV→List PV→Int→Int→Bool→Prop) :
  ∀ (r i n:Nat),i+r+1=l.length→r<n→(incr l i→x1 p0 (ints l) p2 ((l.length:Int)-1) ((l.length:Int)-1) false)→(¬incr l i→x0 8) →
   yc6 W1 W2 x0 x1 n p0 (ints l) p2 ((l.length:Int)-1) (i:Int):=by
 intro r
 induction r with
 | zero =>
  intro i n hi hn k _
  match n,hn with
  | n+1,_ =>
   unfold yc6
   have e:(i:Int)=(l.length:Int)-1:=by omega
   refine yAD (by omega) ?_
   rw [e]
   exact k (fun j h1 h2=>by omega)
 | succ r ih =>
  intro i n hi hn k k0
  match n,hn with
  | n+1,hn =>
   unfold yc6
   rw [wi64 (n:=(i:Int)+1) ⟨by omega,by omega⟩,ybh]
   have e1:((i:Int)+1)=((i+1:Nat):Int):=by omega
   rw [e1,qAe,qAe]
   refine yGt (by omega) (yqU (by omega) (yqU (by omega) (yk8 (yhO (by omega)) (yqU (by omega) (yqU (by omega) (yk8 (yhO (by omega)) ?_))))))
   rw [ycI (by omega),ycI (by omega)]
   by_cases h:l.getD i 0≥l.getD (i+1) 0
   ·exact yGt h (k0 fun hc=>absurd (hc i (qAl _) (by omega)) (by omega))
   ·refine yAD h (ih (i+1) n (by omega) (by omega) (fun hc=>k fun j h1 h2=>?_) (fun hc=>k0 fun hd=>hc fun j h1 h2=>hd j (by omega) h2))
    by_cases hj:j=i
    ·subst hj;omega
    ·exact hc j (by omega) h2
def small (q:Rat):Prop:=-1000000000000000000≤q.num∧q.num≤1000000000000000000∧(q.den:Int)≤1000000000000000000
instance (q:Rat):Decidable (small q):=by unfold small;infer_instance
theorem small.rv {q:Rat} (h:small q):RV q.num q.den:=by
 obtain ⟨h1,h2,h3⟩:=h
 have:=q.den_pos
 exact ⟨by omega,h3,h1,h2,q.reduced⟩
theorem yFF {n d:Int} (h:RV n d):∃ q:Rat,small q∧q.num=n∧(q.den:Int)=d:=by
 obtain ⟨h1,h2,h3,h4,h5⟩:=h
 refine ⟨⟨n,d.toNat,by omega,?_⟩,⟨h3,h4,by show ((d.toNat:Nat):Int)≤_;omega⟩,rfl,by show ((d.toNat:Nat):Int)=_;omega⟩
 have:d.natAbs=d.toNat:=by omega
 rw [this] at h5
 exact h5
theorem small.i1 {q:Rat} (h:small q):I64 q.num:=⟨by have:=h.1;omega,by have:=h.2.1;omega⟩
theorem small.i2 {q:Rat} (h:small q):I64 (q.den:Int):=⟨by omega,by have:=h.2.2;omega⟩
theorem yjL {q r:Rat} (h:small q) (k:small r):chk2 q.num q.den r.num r.den=0:=ycH.2 ⟨h.rv,k.rv⟩
def fitK (q:Rat) (K:Int→Int→Int→Prop):Prop:=if small q then K q.num q.den 0 else K 0 0 16
theorem yEd {q:Rat} {s:Bool} {a b:Int} (ha:a=(q.num.natAbs:Int)) (hb:b=(q.den:Int)) (hs:q.num≠0→s=decide (q.num<0)) (K:Int→Int→Int→Prop):outS s a b K=fitK q K:=by
 unfold outS fitK
 subst ha hb
 by_cases h:small q
 ·have h':=h
  obtain ⟨h1,h2,h3⟩:=h
  rw [if_pos (show _∧_ from ⟨by omega,h3⟩),if_pos h']
  have e:(if s=true then -((q.num.natAbs:Nat):Int) else ((q.num.natAbs:Nat):Int))=q.num:=by
   by_cases h0:q.num=0
   ·rw [h0];cases s <;> rfl
   ·rw [hs h0]
    by_cases h1:q.num<0
    ·rw [decide_eq_true h1,if_pos rfl];omega
    ·rw [decide_eq_false h1,if_neg (by simp)];omega
  rw [e]
 ·rw [if_neg h,if_neg]
  intro h2
  exact h ⟨by omega,by omega,h2.2⟩
theorem yEe (x:Int) (g:Nat):(Int.tdiv x g).natAbs=x.natAbs / g:=by rw [Int.natAbs_tdiv,Int.natAbs_natCast];rfl
theorem yAE {x:Int} {g:Nat} (h:(g:Int)∣x) (hx:x≠0):decide (Int.tdiv x g<0)=decide (x<0):=by
 obtain ⟨k,rfl⟩:=h
 have hg:(g:Int)≠0:=fun e=>hx (by rw [e,Int.zero_mul])
 rw [Int.mul_tdiv_cancel_left _ hg]
 have h1:(g:Int)>0:=by have:=Int.natCast_nonneg g;omega
 have:(g:Int)*k<0↔k<0:=by
  constructor
  ·intro h;refine Int.not_le.1 fun hk=>?_
   have:=qA7 (show 0≤(g:Int) by omega) hk
   omega
  ·intro h;exact Int.mul_neg_of_pos_of_neg h1 h
 simp only [this]
theorem yHT (q r:Rat):(q*r).num=Int.tdiv q.num (Nat.gcd q.num.natAbs r.den)*Int.tdiv r.num (Nat.gcd r.num.natAbs q.den) ∧
  (q*r).den=(q.den / Nat.gcd r.num.natAbs q.den)*(r.den / Nat.gcd q.num.natAbs r.den):=by
 have e:q*r=Rat.mul q r:=rfl
 rw [e]
 delta Rat.mul
 constructor
 ·simp only [Int.divExact_eq_tdiv]
 ·simp only [Nat.divExact_eq_div]
theorem ylT (x:Int) (d:Nat):((Nat.gcd x.natAbs d:Nat):Int)∣x:=by
 rw [← Int.dvd_natAbs,Int.ofNat_dvd];exact Nat.gcd_dvd_left _ _
theorem yGu {x:Int} {g:Nat} (h:(g:Int)∣x) (hx:x≠0):Int.tdiv x g≠0:=by
 obtain ⟨k,rfl⟩:=h
 have hg:(g:Int)≠0:=fun e=>hx (by rw [e,Int.zero_mul])
 rw [Int.mul_tdiv_cancel_left _ hg]
 intro e;rw [e,Int.mul_zero] at hx;exact hx rfl
theorem yJb {x y:Int} (hx:x≠0) (hy:y≠0):decide (x*y<0)=(decide (x<0) != decide (y<0)):=by
 by_cases h1:x<0 <;> by_cases h2:y<0
 ·have:=Int.mul_pos_of_neg_of_neg h1 h2
  simp [h1,h2];omega
 ·have:=qB5 h1 (show 0<y by omega)
  simp [h1,h2];omega
 ·have:=Int.mul_neg_of_pos_of_neg (show 0<x by omega) h2
  simp [h1,h2];omega
 ·have:=Int.mul_pos (show 0<x by omega) (show 0<y by omega)
  simp [h1,h2];omega
theorem yGv (q r:Rat) (K:Int→Int→Int→Prop):outS (decide (q.num<0) != decide (r.num<0)) (numM q.num r.num q.den r.den) (denM q.num r.num q.den r.den) K=fitK (q*r) K:=by
 obtain ⟨e1,e2⟩:=yHT q r
 refine yEd ?_ ?_ ?_ K
 ·rw [e1,Int.natAbs_mul,yEe,yEe]
  simp only [numM,Int.natAbs_natCast]
 ·rw [e2]
  simp only [denM,Int.natAbs_natCast]
 ·intro h
  rw [e1] at h ⊢
  have h1:q.num≠0:=fun e=>h (by rw [e,Int.zero_tdiv,Int.zero_mul])
  have h2:r.num≠0:=fun e=>h (by rw [e,Int.zero_tdiv,Int.mul_zero])
  rw [yJb (yGu (ylT _ _) h1) (yGu (ylT _ _) h2),yAE (ylT _ _) h1,yAE (ylT _ _) h2]
theorem yw4 {w:(Int→Int→Int→Prop)→Prop} {q:Rat} (det:∀ r0 r1 r2,(∀ K:Int→Int→Int→Prop,K r0 r1 r2→w K)→∀ K,w K=K r0 r1 r2) (h:∀ K,fitK q K→w K) (K:Int→Int→Int→Prop):w K=fitK q K:=by
 unfold fitK at h ⊢
 by_cases hs:small q
 ·simp only [if_pos hs] at h ⊢
  exact det _ _ _ h K
 ·simp only [if_neg hs] at h ⊢
  exact det _ _ _ h K
theorem ytU {q r:Rat} (hq:small q) (hr:small r) (K:Int→Int→Int→Prop):ya7 q.num q.den r.num r.den K=fitK (q*r) K :=
 yw4 (fun r0 r1 r2 h K=>yzs _ _ _ _ r0 r1 r2 h K) (fun K k=>yFD hq.i1 hq.i2 hr.i1 hr.i2 (by rw [if_pos (yjL hq hr),yGv];exact k)) K
theorem yHU {r:Rat} (h:r≠0):(r⁻¹).num=(if r.num<0 then -(r.den:Int) else r.den)∧(r⁻¹).den=r.num.natAbs:=by
 have h0:r.num≠0:=fun e=>h (Rat.num_eq_zero.1 e)
 constructor
 ·rw [Rat.num_inv]
  by_cases h1:r.num<0
  ·rw [if_pos h1,Int.sign_eq_neg_one_of_neg h1];omega
  ·rw [if_neg h1,Int.sign_eq_one_of_pos (by omega)];omega
 ·rw [Rat.den_inv,if_neg h0]
theorem yKq {q r:Rat} (hq:small q) (hr:small r) (h0:r≠0) (K:Int→Int→Int→Prop):ycw q.num q.den r.num r.den K=fitK (q / r) K:=by
 have hn:r.num≠0:=fun e=>h0 (Rat.num_eq_zero.1 e)
 refine yw4 (fun r0 r1 r2 h K=>yzw _ _ _ _ r0 r1 r2 h K) (fun K k=>yLs hq.i1 hq.i2 hr.i1 hr.i2 ?_) K
 rw [if_pos (yjL hq hr),if_neg hn]
 rw [Rat.div_def,← yGv] at k
 obtain ⟨e1,e2⟩:=yHU h0
 rw [e1,e2] at k
 have s:decide ((if r.num<0 then -(r.den:Int) else (r.den:Int))<0)=decide (r.num<0):=by
  have:=r.den_pos
  split
  ·rename_i h;simp only [h];simp;omega
  ·rename_i h;simp only [h];simp
 rw [s] at k
 have hd:(if r.num<0 then -(r.den:Int) else (r.den:Int)).natAbs=r.den:=by split <;> omega
 unfold numM denM at k ⊢
 simp only [hd,Int.natAbs_natCast] at k ⊢
 exact k
theorem yHV (q r:Rat):(q+r).num=(q.num*(r.den / Nat.gcd q.den r.den:Nat)+r.num*(q.den / Nat.gcd q.den r.den:Nat)) / (Nat.gcd (q.num*(r.den / Nat.gcd q.den r.den:Nat)+r.num*(q.den / Nat.gcd q.den r.den:Nat)).natAbs (Nat.gcd q.den r.den):Nat) ∧
  (q+r).den=(q.den / Nat.gcd q.den r.den)*r.den / Nat.gcd (q.num*(r.den / Nat.gcd q.den r.den:Nat)+r.num*(q.den / Nat.gcd q.den r.den:Nat)).natAbs (Nat.gcd q.den r.den):=by
 have e:q+r=Rat.add q r:=rfl
 rw [e]
 delta Rat.add
 by_cases hg:q.den.gcd r.den=1
 ·simp only [hg,dif_pos,Nat.div_one,Nat.gcd_one_right,Int.natCast_one,Int.ediv_one,and_self]
 ·simp only [hg,dif_neg,not_false_eq_true,Rat.maybeNormalize_eq]
  constructor
  ·first | rfl | simp only [Int.divExact_eq_tdiv]
  ·first | rfl | simp only []
theorem yJc {q r:Rat} {Z:Int} {g:Nat} (e1:(q+r).num=Z / (Nat.gcd Z.natAbs g:Nat)) (e2:(q+r).den=(q.den / g)*r.den / Nat.gcd Z.natAbs g) (hgp:0<g) (hgd:g∣r.den) (K:Int→Int→Int→Prop) :
  outA (decide (Z<0)) (Z.natAbs:Int) q.den r.den g K=fitK (q+r) K:=by
 unfold outA
 by_cases h0:Z=0
 ·subst h0
  have:(q+r)=0:=by
   apply Rat.num_eq_zero.1
   rw [e1];simp
  rw [this,if_pos (by rfl)]
  unfold fitK
  rw [if_pos (by decide)];rfl
 ·have hne:¬((Z.natAbs:Nat):Int)=0:=by omega
  rw [if_neg hne]
  have hdv:((Nat.gcd Z.natAbs g:Nat):Int)∣Z:=ylT _ _
  have hhp:0<Nat.gcd Z.natAbs g:=qCc _ hgp
  have hhg:Nat.gcd Z.natAbs g∣r.den:=Nat.dvd_trans (Nat.gcd_dvd_right _ _) hgd
  refine yEd ?_ ?_ ?_ K
  ·rw [e1,Int.natAbs_ediv_of_dvd hdv];simp
  ·rw [e2];simp only [qAe];rw [Nat.mul_div_assoc _ hhg]
  ·intro h
   rw [e1]
   obtain ⟨k,hk⟩:=hdv
   revert hhp hk
   generalize Nat.gcd Z.natAbs g=h
   intro hhp hk
   have e:Z / (h:Int)=k:=by rw [hk,Int.mul_ediv_cancel_left _ (by omega)]
   rw [e]
   have:Z<0↔k<0:=by
    rw [hk]
    constructor
    ·intro hk;refine Int.not_le.1 fun hk2=>?_
     have:=qA7 (show 0≤(h:Int) by omega) hk2
     omega
    ·intro hk;exact Int.mul_neg_of_pos_of_neg (by omega) hk
   simp only [this]
theorem yGw (q r:Rat) (K:Int→Int→Int→Prop) :
  outA (decide (q.num*((r.den:Int) / (Nat.gcd (q.den:Int).natAbs (r.den:Int).natAbs:Nat))+r.num*((q.den:Int) / (Nat.gcd (q.den:Int).natAbs (r.den:Int).natAbs:Nat))<0))
   ((q.num*((r.den:Int) / (Nat.gcd (q.den:Int).natAbs (r.den:Int).natAbs:Nat))+r.num*((q.den:Int) / (Nat.gcd (q.den:Int).natAbs (r.den:Int).natAbs:Nat))).natAbs:Int) q.den r.den (Nat.gcd (q.den:Int).natAbs (r.den:Int).natAbs) K=fitK (q+r) K:=by
 obtain ⟨e1,e2⟩:=yHV q r
 rw [qB7,qB7] at e1 e2
 exact yJc e1 e2 (Nat.gcd_pos_of_pos_left _ q.den_pos) (Nat.gcd_dvd_right _ _) K
theorem yCB {q r:Rat} (hq:small q) (hr:small r) (K:Int→Int→Int→Prop):ybo q.num q.den r.num r.den K=fitK (q+r) K :=
 yw4 (fun r0 r1 r2 h K=>yzu _ _ _ _ r0 r1 r2 h K) (fun K k=>yI7 hq.i1 hq.i2 hr.i1 hr.i2 (by rw [if_pos (yjL hq hr),yGw];exact k)) K
theorem ym8 {q r:Rat} (hq:small q) (hr:small r) (K:Int→Int→Int→Prop):yaC q.num q.den r.num r.den K=fitK (q-r) K :=
 yw4 (fun r0 r1 r2 h K=>yzv _ _ _ _ r0 r1 r2 h K) (fun K k=>yLt hq.i1 hq.i2 hr.i1 hr.i2 (by
  rw [if_pos (yjL hq hr)]
  rw [Rat.sub_eq_add_neg,← yGw] at k
  exact k)) K
def cmpQ (q r:Rat):Int:=if q<r then -1 else if r<q then 1 else 0
theorem yGx (q r:Rat):cmpR q.num q.den r.num r.den=cmpQ q r:=by
 unfold cmpR cmp3 cmpQ
 simp only [Rat.lt_iff]
theorem yCC {q r:Rat} (hq:small q) (hr:small r) (K:Int→Int→Prop):ybL q.num q.den r.num r.den K=K (cmpQ q r) 0 :=
 yzt _ _ _ _ _ _ (fun K k=>yI2 hq.i1 hq.i2 hr.i1 hr.i2 (by rw [yjL hq hr,if_pos rfl,yGx];exact k)) K
theorem yAF {n d:Int} (hn:I64 n) (hd:I64 d) (K:Int→Prop):ybk n d K=K (chk n d) :=
 ywj _ _ _ (fun K k=>yyN hn hd k) K
theorem yCD {p:Int} (h:I64 p) (K:Int→Prop):ylB p K=K (p.natAbs:Int):=by
 unfold I64 at h
 unfold ylB yr4
 by_cases hp:p<0
 ·have e0:IntKind.i64.wrap (p+1)=p+1:=wi64 ⟨by omega,by omega⟩
  have e1:IntKind.i64.wrap ((0:Int)-(p+1))=-(p+1):=by rw [wi64 ⟨by omega,by omega⟩];omega
  have e2:IntKind.u64.wrap (-(p+1))=-(p+1):=wu64 ⟨by omega,by omega⟩
  have e3:IntKind.u64.wrap (-(p+1)+1)=(p.natAbs:Int):=by rw [wu64 ⟨by omega,by omega⟩];omega
  rw [decide_eq_true hp,yan,e0,e1,e2,e3]
 ·rw [decide_eq_false hp,yai,wu64 ⟨by omega,by omega⟩]
  congr 1
  omega
theorem yAG (x:Int→Int→Bool→Prop):∀ (n a b:Nat),b<n→yfY x n (a:Int) (b:Int)=x ((Nat.gcd a b:Nat):Int) 0 false
 | 0,a,b,h=>by omega
 | n+1,a,b,h=>by
  unfold yfY
  by_cases hb:b=0
  ·subst hb
   simp [cbr]
  ·have h1:((b:Int) != 0)=true:=by simp;omega
   have h2:¬((b:Int)=0):=by omega
   rw [h1,yan,decide_eq_false h2,qBk,yaM]
   have e:Int.tmod (a:Int) (b:Int)=((a % b:Nat):Int):=by rw [Int.tmod_eq_emod_of_nonneg (by omega)];omega
   rw [e,yAG x n b (a % b) (by have:=Nat.mod_lt a (show b>0 by omega);omega)]
   rw [Nat.gcd_comm a b,Nat.gcd_rec b a,Nat.gcd_comm]
theorem yKr (a b:Nat) (K:Int→Prop):yiY (a:Int) (b:Int) K=K ((Nat.gcd a b:Nat):Int):=by
 refine yD0 _ _ _ (fun K h=>?_) K
 unfold yiY yr5
 exact ⟨b+1,by rw [yAG _ (b+1) a b (by omega)];exact h⟩
theorem yJd {a b:Int} (h:a=b):(a != b)=false:=by simp [h]
theorem yJe {a b:Int} (h:a≠b):(a != b)=true:=by simp [h]
theorem yKP {a b:Int} (h:a≠b):(a == b)=false:=by simp [h]
theorem yKQ {a b:Int} (h:a=b):(a == b)=true:=by simp [h]
theorem yvk {n d:Int} (hn:I64 n) (hd:I64 d) (K:Int→Prop):yks n d K=K (chk n d):=by
 unfold yks ymJ
 by_cases h1:d<1
 ·rw [decide_eq_true h1,yan,chk,if_neg (fun h=>by have:=h.1;omega)]
 ·rw [decide_eq_false h1,yai]
  by_cases h2:d>1000000000000000000
  ·rw [decide_eq_true h2,yan,chk,if_neg (fun h=>by have:=h.2.1;omega)]
  ·rw [decide_eq_false h2,yai]
   by_cases h3:n < -1000000000000000000
   ·rw [decide_eq_true h3,yan,chk,if_neg (fun h=>by have:=h.2.2.1;omega)]
   ·rw [decide_eq_false h3,yai]
    by_cases h4:n>1000000000000000000
    ·rw [decide_eq_true h4,yan,chk,if_neg (fun h=>by have:=h.2.2.2.1;omega)]
    ·have ed:IntKind.u64.wrap d=((d.natAbs:Nat):Int):=by rw [wu64 ⟨by omega,by omega⟩];omega
     rw [decide_eq_false h4,yai,yCD hn,ed,yKr]
     by_cases h5:Nat.gcd n.natAbs d.natAbs=1
     ·rw [h5,yJd (by rfl),yai,chk,if_pos ⟨by omega,by omega,by omega,by omega,h5⟩]
     ·rw [yJe (by omega),yan,chk,if_neg (fun h=>h5 h.2.2.2.2)]
theorem yJf {a b c d:Int} (ha:I64 a) (hb:I64 b) (hc:I64 c) (hd:I64 d) (K:Int→Prop):ymK a b c d K=K (chk2 a b c d):=by
 unfold ymK yoG
 rw [yvk ha hb,yvk ha hb,yvk hc hd,chk2]
 by_cases h:chk a b=0
 ·rw [yJd h,yai,if_pos h]
 ·rw [yJe h,yan,if_neg h]
theorem or32 {m s:Int} (hm:0≤m) (hs:0≤s∧s<4294967296):IntKind.u64.wrap (BitVec.ofInt IntKind.u64.bits (IntKind.u64.wrap (m*4294967296))|||BitVec.ofInt IntKind.u64.bits s).toNat=m % 4294967296*4294967296+s:=by
 have e:IntKind.u64.wrap (m*4294967296)=m % 4294967296*2 ^ 32:=by rw [ytQ];omega
 rw [e,yKN (k:=32) (by omega) ⟨hs.1,by omega⟩ ⟨by omega,by omega⟩ (by omega)]
 omega
theorem yJg {a b:Int} (ha:U64 a) (hb:U64 b) (K:Int→Int→Prop):yia a b K=K (a*b / 18446744073709551616) (a*b % 18446744073709551616):=by
 unfold yia ymL
 simp only [yI1]
 rw [ym7 ha,ym7 hb]
 unfold U64 at ha hb
 have ha':=ha;have hb':=hb
 obtain ⟨x1,hx1⟩:∃ x,x=a / 4294967296:=⟨_,rfl⟩
 obtain ⟨x0,hx0⟩:∃ x,x=a % 4294967296:=⟨_,rfl⟩
 obtain ⟨y1,hy1⟩:∃ x,x=b / 4294967296:=⟨_,rfl⟩
 obtain ⟨y0,hy0⟩:∃ x,x=b % 4294967296:=⟨_,rfl⟩
 rw [← hx1,← hx0,← hy1,← hy0]
 have b1:0≤x1∧x1≤4294967295:=by omega
 have b2:0≤x0∧x0≤4294967295:=by omega
 have b3:0≤y1∧y1≤4294967295:=by omega
 have b4:0≤y0∧y0≤4294967295:=by omega
 have pb:∀ x y:Int,0≤x∧x≤4294967295→0≤y∧y≤4294967295→0≤x*y∧x*y≤18446744065119617025:=by
  intro x y hx hy
  refine ⟨qA7 hx.1 hy.1,?_⟩
  have:=qA8 hx.2 hy.2 hy.1 (by omega:(0:Int)≤4294967295)
  omega
 have p1:=pb x1 y1 b1 b3
 have p2:=pb x1 y0 b1 b4
 have p3:=pb x0 y1 b2 b3
 have p4:=pb x0 y0 b2 b4
 have ea:a=x1*4294967296+x0:=by omega
 have eb:b=y1*4294967296+y0:=by omega
 have eab:a*b=x1*y1*18446744073709551616+x1*y0*4294967296+x0*y1*4294967296+x0*y0:=by
  rw [ea,eb];grind
 obtain ⟨P,hP⟩:∃ x,x=x1*y1:=⟨_,rfl⟩
 obtain ⟨Q,hQ⟩:∃ x,x=x1*y0:=⟨_,rfl⟩
 obtain ⟨R,hR⟩:∃ x,x=x0*y1:=⟨_,rfl⟩
 obtain ⟨S,hS⟩:∃ x,x=x0*y0:=⟨_,rfl⟩
 rw [← hP] at p1;rw [← hQ] at p2;rw [← hR] at p3;rw [← hS] at p4
 rw [← hP,← hQ,← hR,← hS] at eab ⊢
 have w1:IntKind.u64.wrap S=S:=wu64 ⟨by omega,by omega⟩
 have w2:IntKind.u64.wrap Q=Q:=wu64 ⟨by omega,by omega⟩
 have w3:IntKind.u64.wrap R=R:=wu64 ⟨by omega,by omega⟩
 have w4:IntKind.u64.wrap P=P:=wu64 ⟨by omega,by omega⟩
 rw [w1,w2,w3,w4,ym7 (p:=Q) ⟨by omega,by omega⟩,ym7 (p:=S) ⟨by omega,by omega⟩]
 have w5:IntKind.u64.wrap (Q % 4294967296+R)=Q % 4294967296+R:=wu64 ⟨by omega,by omega⟩
 rw [w5]
 have w6:IntKind.u64.wrap (Q % 4294967296+R+S / 4294967296)=Q % 4294967296+R+S / 4294967296:=wu64 ⟨by omega,by omega⟩
 rw [w6,or32 (by omega) ⟨by omega,by omega⟩]
 have hab:a*b≤18446744073709551615*18446744073709551615:=qA8 ha'.2 hb'.2 hb'.1 (by omega:(0:Int)≤18446744073709551615)
 rw [eab] at hab ⊢
 have w7:IntKind.u64.wrap (P+Q / 4294967296)=P+Q / 4294967296:=wu64 ⟨by omega,by omega⟩
 rw [w7,wu64 ⟨by omega,by omega⟩]
 congr 1 <;> omega
theorem yEf {X Y:Int} (hx:0≤X) (hy:0≤Y) (K:Bool→Prop) :
  ymM (X / 18446744073709551616) (X % 18446744073709551616) (Y / 18446744073709551616) (Y % 18446744073709551616) K=K (decide (X<Y)):=by
 unfold ymM yoH
 by_cases h:X / 18446744073709551616<Y / 18446744073709551616
 ·rw [decide_eq_true h,yan,decide_eq_true (by omega)]
 ·rw [decide_eq_false h,yai]
  by_cases h2:X / 18446744073709551616=Y / 18446744073709551616
  ·rw [yKQ h2,yan]
   congr 1
   rw [decide_eq_decide];omega
  ·rw [yKP h2,yai,decide_eq_false (by omega)]
theorem wuN {n:Nat} (h:(n:Int)≤18446744073709551615):IntKind.u64.wrap (n:Int)=n:=wu64 ⟨by omega,h⟩
theorem yAH {a b:Nat} (ha:a≤18446744073709551615) (hb:b≤18446744073709551615) (K:Int→Int→Prop) :
  yia (a:Int) (b:Int) K=K (((a*b:Nat):Int) / 18446744073709551616) (((a*b:Nat):Int) % 18446744073709551616):=by
 rw [yJg ⟨by omega,by omega⟩ ⟨by omega,by omega⟩,Int.natCast_mul]
theorem ytV {q r:Rat} (hq:small q) (hr:small r) (K:Bool→Prop):yaN q.num q.den r.num r.den K=K (decide (q<r)):=by
 unfold yaN yoI
 have hq':=hq;have hr':=hr
 obtain ⟨a1,a2,a3⟩:=hq
 obtain ⟨b1,b2,b3⟩:=hr
 have dq:=q.den_pos
 have dr:=r.den_pos
 have e:decide (q<r)=decide (q.num*r.den<r.num*q.den):=by rw [decide_eq_decide];exact Rat.lt_iff q r
 rw [e]
 by_cases hs:(decide (q.num<0) != decide (r.num<0))=true
 ·rw [hs,yan]
  by_cases h1:q.num<0
  ·have h2:¬r.num<0:=by simpa [h1] using hs
   have p1:q.num*r.den<0:=qB5 h1 (by omega)
   have p2:0≤r.num*q.den:=qA7 (by omega) (by omega)
   rw [decide_eq_true h1,decide_eq_true (by omega)]
  ·have h2:r.num<0:=by simpa [h1] using hs
   have p1:r.num*q.den<0:=qB5 h2 (by omega)
   have p2:0≤q.num*r.den:=qA7 (by omega) (by omega)
   rw [decide_eq_false h1,decide_eq_false (by omega)]
 ·have hs':(decide (q.num<0) != decide (r.num<0))=false:=by simpa using hs
  rw [hs',yai,yCD hq'.i1,wuN (by omega),yAH (by omega) (by omega),yCD hr'.i1,wuN (by omega),yAH (by omega) (by omega),yEf (Int.natCast_nonneg _) (Int.natCast_nonneg _),yEf (Int.natCast_nonneg _) (Int.natCast_nonneg _),Int.natCast_mul,Int.natCast_mul]
  by_cases h1:q.num<0
  ·have h2:r.num<0:=by simpa [h1] using hs'
   rw [decide_eq_true h1,yan,show ((q.num.natAbs:Nat):Int)=-q.num by omega,show ((r.num.natAbs:Nat):Int)=-r.num by omega,Int.neg_mul,Int.neg_mul]
   congr 1
   rw [decide_eq_decide];omega
  ·have h2:¬r.num<0:=by simpa [h1] using hs'
   rw [decide_eq_false h1,yai,show ((q.num.natAbs:Nat):Int)=q.num by omega,show ((r.num.natAbs:Nat):Int)=r.num by omega]
theorem cbT {c:Prop} [Decidable c] {P Q:Prop} (h:c):cbr (decide c) P Q=P:=by rw [decide_eq_true h,yan]
theorem cbF {c:Prop} [Decidable c] {P Q:Prop} (h:¬c):cbr (decide c) P Q=Q:=by rw [decide_eq_false h,yai]
theorem cnT {a b:Int} {P Q:Prop} (h:a≠b):cbr (a != b) P Q=P:=by rw [yJe h,yan]
theorem cnF {a b:Int} {P Q:Prop} (h:a=b):cbr (a != b) P Q=Q:=by rw [yJd h,yai]
theorem ceT {a b:Int} {P Q:Prop} (h:a=b):cbr (a == b) P Q=P:=by rw [yKQ h,yan]
theorem ceF {a b:Int} {P Q:Prop} (h:a≠b):cbr (a == b) P Q=Q:=by rw [yKP h,yai]
theorem asT {c:Prop} [Decidable c] {P:Prop} (h:c):asr (decide c) P=P:=by rw [decide_eq_true h,yaM]
theorem asC {l:List Int} {i:Nat} {P:Prop} (h:i<l.length):asr (conf zI (List.getD (ints l) i .nils)) P=P:=by rw [yhO h,yaM]
theorem wib {n:Int} (h1:-9223372036854775808≤n) (h2:n≤9223372036854775807):IntKind.i64.wrap n=n:=wi64 ⟨h1,h2⟩
theorem ydC (i:Nat):(i:Int)+1=((i+1:Nat):Int):=by omega
theorem yvl {x:Int} (h:-1000000000000000000≤x∧x≤1000000000000000000):small (x:Rat):=by
 unfold small
 rw [Rat.num_intCast,Rat.den_intCast]
 omega
def allD (dens:List Int):Prop:=∀ d∈dens,0≤d∧d≤12
def yyQ (dens:List Int):Prop:=∃ d∈dens,0<d
instance (l:List Int):Decidable (allD l):=by unfold allD;infer_instance
instance (l:List Int):Decidable (yyQ l):=by unfold yyQ;infer_instance
def VC (len:Int) (cuts dens:List Int):Prop :=
 1≤len∧len≤1000∧2≤cuts.length∧cuts.length≤40∧dens.length+1=cuts.length∧cuts.getD 0 0=0∧cuts.getD (cuts.length-1) 0=len∧incr cuts 0∧allD dens∧yyQ dens
theorem yJh (l:List Int):incr l 0↔∀ j,j<l.length→j+1<l.length→l.getD j 0<l.getD (j+1) 0:=⟨fun h j _ h2=>h j (by omega) h2,fun h j _ h2=>h j (by omega) h2⟩
instance (l:List Int):Decidable (incr l 0):=decidable_of_iff _ (yJh l).symm
instance (len:Int) (cuts dens:List Int):Decidable (VC len cuts dens):=by unfold VC;infer_instance
def ckC (len:Int) (cuts dens:List Int):Int:=if len>1000∨cuts.length>40 then 4 else if VC len cuts dens then 0 else 8
theorem yGy (l:List Int) (x:Int):(l.foldl mnf x<0)↔¬(∀ d∈x::l,0≤d):=by
 induction l generalizing x with
 | nil=>simp
 | cons y t ih =>
  rw [List.foldl_cons,ih]
  unfold mnf
  simp only [List.forall_mem_cons]
  split
  ·constructor
   ·intro h h2;exact h ⟨h2.2.1,h2.2.2⟩
   ·intro h h2;exact h ⟨by omega,h2.1,h2.2⟩
  ·constructor
   ·intro h h2;exact h ⟨h2.1,h2.2.2⟩
   ·intro h h2;exact h ⟨h2.1,by omega,h2.2⟩
theorem ytW (l:List Int) (x k:Int):(l.foldl mxf x>k)↔¬(∀ d∈x::l,d≤k):=by
 induction l generalizing x with
 | nil=>simp
 | cons y t ih =>
  rw [List.foldl_cons,ih]
  unfold mxf
  simp only [List.forall_mem_cons]
  split
  ·constructor
   ·intro h h2;exact h ⟨h2.2.1,h2.2.2⟩
   ·intro h h2;exact h ⟨by omega,h2.1,h2.2⟩
  ·constructor
   ·intro h h2;exact h ⟨h2.1,h2.2.2⟩
   ·intro h h2;exact h ⟨h2.1,by omega,h2.2⟩
theorem ylU {len:Int} {cuts dens:List Int} (h1:cuts.length<4611686018427387904) (h2:dens.length<4611686018427387904) (K:Int→Prop) :
  yaT len (ints cuts) (ints dens) K=K (ckC len cuts dens):=by
 refine yyp _ _ _ _ (fun K k=>?_) K
 unfold yaT ykL
 simp only [ybh]
 have bad:¬(len>1000∨cuts.length>40)→¬VC len cuts dens→K 8:=fun h h2=>by
  rw [ckC,if_neg h,if_neg h2] at k;exact k
 by_cases a1:len>1000
 ·rw [cbT a1];rw [ckC,if_pos (.inl a1)] at k;exact k
 rw [cbF a1]
 by_cases a2:cuts.length>40
 ·rw [cbT (by omega)];rw [ckC,if_pos (.inr a2)] at k;exact k
 have a12:¬(len>1000∨cuts.length>40):=by omega
 rw [cbF (by omega)]
 by_cases a3:len<1
 ·rw [cbT a3];exact bad a12 (fun h=>by have:=h.1;omega)
 rw [cbF a3]
 by_cases a4:cuts.length<2
 ·rw [cbT (by omega)];exact bad a12 (fun h=>by have:=h.2.2.1;omega)
 rw [cbF (by omega),wib (n:=(cuts.length:Int)-1) (by omega) (by omega)]
 by_cases a5:dens.length+1=cuts.length
 case neg=>rw [cnT (by omega)];exact bad a12 (fun h=>a5 h.2.2.2.2.1)
 rw [cnF (by omega),asT (by omega),asC (by omega),ycI (by omega)]
 by_cases a6:cuts.getD 0 0=0
 case neg=>rw [cnT a6];exact bad a12 (fun h=>a6 h.2.2.2.2.2.1)
 rw [cnF a6,asT (by omega),asT (by omega),asC (by omega),ycI (by omega)]
 have en:((cuts.length:Int)-1).toNat=cuts.length-1:=by omega
 rw [en]
 by_cases a7:cuts.getD (cuts.length-1) 0=len
 case neg=>rw [cnT a7];exact bad a12 (fun h=>a7 h.2.2.2.2.2.2.1)
 rw [cnF a7]
 refine ⟨cuts.length+1,?_⟩
 refine yFE (by omega) _ _ _ _ (cuts.length-1) 0 _ (by omega) (by omega) (fun hi=>?_) (fun hi=>bad a12 (fun h=>hi h.2.2.2.2.2.2.2.1))
 obtain ⟨x,t,e⟩:∃ x t,dens=x::t:=by
  cases dens with
  | nil=>exfalso;have:([]:List Int).length=0:=rfl;omega
  | cons x t=>exact ⟨x,t,rfl⟩
 refine yLu (by omega) e ?_
 by_cases b1:t.foldl mnf x<0
 ·rw [cbT b1]
  rw [yGy] at b1
  exact bad a12 (fun h=>b1 fun d hd=>(h.2.2.2.2.2.2.2.2.1 d (by rw [e];exact hd)).1)
 rw [cbF b1]
 refine yJa (by omega) e ?_
 by_cases b2:t.foldl mxf x>12
 ·rw [cbT b2]
  rw [ytW] at b2
  exact bad a12 (fun h=>b2 fun d hd=>(h.2.2.2.2.2.2.2.2.1 d (by rw [e];exact hd)).2)
 rw [cbF b2]
 refine yJa (by omega) e ?_
 have c1:∀ d∈dens,0≤d:=by rw [yGy,Classical.not_not,← e] at b1;exact b1
 have c2:∀ d∈dens,d≤12:=by rw [ytW,Classical.not_not,← e] at b2;exact b2
 by_cases b3:t.foldl mxf x=0
 ·rw [ceT b3]
  refine bad a12 (fun h=>?_)
  obtain ⟨d,hd,h0⟩:=h.2.2.2.2.2.2.2.2.2
  have:¬(t.foldl mxf x>0):=by omega
  rw [ytW,Classical.not_not,← e] at this
  have:=this d hd
  omega
 ·rw [ceF b3]
  have b4:t.foldl mxf x>0:=by
   refine Int.not_le.1 fun hle=>b3 ?_
   have:t.foldl mxf x>-1:=by
    rw [ytW]
    intro h
    have h1:=h x (qAh ..)
    have h2:=c1 x (by rw [e];exact qAh ..)
    omega
   omega
  rw [ytW,← e] at b4
  have b5:yyQ dens:=by
   refine Classical.byContradiction fun hn=>b4 fun d hd=>?_
   exact Int.not_lt.1 fun hlt=>hn ⟨d,hd,hlt⟩
  rw [ckC,if_neg a12,if_pos ⟨by omega,by omega,by omega,by omega,a5,a6,a7,hi,fun d hd=>⟨c1 d hd,c2 d hd⟩,b5⟩] at k
  exact k
theorem yhi (n:Int) (K:Int→Int→Prop):ybD n K=K (n:Rat).num (n:Rat).den:=rfl
theorem yfg {q r:Rat} (hq:small q) (hr:small r) (K:Bool→Prop):ybM q.num q.den r.num r.den K=K (decide (q<r)):=by
 unfold ybM ymz
 rw [yCC hq hr]
 congr 1
 rw [decide_eq_decide,cmpQ]
 by_cases h:q<r
 ·simp [h]
 ·by_cases h2:r<q <;> simp [h,h2]
def PT (len:Int) (n d:Int):Prop:=RV n d∧0≤n∧n≤len*d
instance (len n d:Int):Decidable (PT len n d):=by unfold PT;infer_instance
theorem yLv {len n d:Int} (h:PT len n d):∃ q:Rat,small q∧q.num=n∧(q.den:Int)=d∧0≤q∧q≤(len:Rat):=by
 obtain ⟨h1,h2,h3⟩:=h
 obtain ⟨q,e1,e2,e3⟩:=yFF h1
 refine ⟨q,e1,e2,e3,?_,?_⟩
 ·rw [← Rat.num_nonneg,e2];exact h2
 ·rw [Rat.le_iff,e2,e3,Rat.num_intCast,Rat.den_intCast];simpa using h3
theorem yFG (x:Int) (q:Rat):((x:Rat)<q)↔x*(q.den:Int)<q.num:=by
 rw [Rat.lt_iff,Rat.num_intCast,Rat.den_intCast];simp
theorem yyR {len:Int} (hl:-1000000000000000000≤len∧len≤1000000000000000000) {n d:Int} (hn:I64 n) (hd:I64 d) (a b:List PV) (K:Bool→Prop) :
  ybF len a b n d K=K (decide (PT len n d)):=by
 unfold ybF ykO
 rw [yAF hn hd]
 by_cases h:RV n d
 ·obtain ⟨q,e1,e2,e3⟩:=yFF h
  rw [chk,if_pos h,ceT rfl]
  by_cases h0:n≥0
  ·rw [cbT h0,yhi,← e2,← e3,yfg (yvl hl) e1]
   congr 1
   have:((len:Rat)<q)↔len*(q.den:Int)<q.num:=yFG _ _
   by_cases h3:(len:Rat)<q
   ·have h4:=this.1 h3
    rw [decide_eq_true h3,decide_eq_false];rfl
    intro hp;have:=hp.2.2;omega
   ·have h4:¬_:=fun x=>h3 (this.2 x)
    rw [decide_eq_false h3,decide_eq_true];rfl
    exact ⟨e1.rv,by omega,by omega⟩
  ·rw [cbF h0,decide_eq_false]
   intro hp;have:=hp.2.1;omega
 ·rw [chk,if_neg h,ceF (by decide),decide_eq_false]
  intro hp;exact h hp.1
section
variable {len:Int} {cuts dens:List Int}
theorem VC.step (h:VC len cuts dens) {i:Nat} (hi:i+1<cuts.length):cuts.getD i 0<cuts.getD (i+1) 0:=h.2.2.2.2.2.2.2.1 i (qBd _) hi
theorem VC.mono (h:VC len cuts dens) {i:Nat}:∀ {j:Nat},i≤j→j<cuts.length→cuts.getD i 0≤cuts.getD j 0
 | 0,hij,_=>by
  have:i=0:=by omega
  subst this;exact Int.le_refl _
 | j+1,hij,hj=>by
  by_cases e:i=j+1
  ·subst e;exact Int.le_refl _
  ·have h1:=h.mono (i:=i) (j:=j) (by omega) (by omega)
   have h2:=h.step (i:=j) hj
   omega
theorem VC.lo (h:VC len cuts dens) {i:Nat} (hi:i<cuts.length):0≤cuts.getD i 0:=by
 have:=h.mono (qBd i) hi
 rw [h.2.2.2.2.2.1] at this;exact this
theorem VC.hi (h:VC len cuts dens) {i:Nat} (hi:i<cuts.length):cuts.getD i 0≤len:=by
 have:=h.mono (i:=i) (j:=cuts.length-1) (by omega) (by omega)
 rw [h.2.2.2.2.2.2.1] at this;exact this
theorem VC.den (h:VC len cuts dens) {i:Nat} (hi:i<dens.length):0≤dens.getD i 0∧dens.getD i 0≤12:=by
 rw [qAd,qAb hi]
 exact h.2.2.2.2.2.2.2.2.1 _ (qB6 hi)
theorem VC.l1 (h:VC len cuts dens):dens.length+1=cuts.length:=h.2.2.2.2.1
theorem VC.l2 (h:VC len cuts dens):cuts.length≤40:=h.2.2.2.1
theorem VC.len0 (h:VC len cuts dens):1≤len∧len≤1000:=⟨h.1,h.2.1⟩
theorem VC.sc (h:VC len cuts dens) {i:Nat} (hi:i<cuts.length):small ((cuts.getD i 0:Int):Rat):=yvl (by have:=h.lo hi;have:=h.hi hi;have:=h.len0;omega)
theorem VC.sd (h:VC len cuts dens) {i:Nat} (hi:i<dens.length):small ((dens.getD i 0:Int):Rat):=yvl (by have:=h.den hi;omega)
theorem ytX (h:ckC len cuts dens=0):VC len cuts dens:=by
 unfold ckC at h
 split at h
 ·omega
 ·split at h
  ·assumption
  ·omega
theorem VC.ck (h:VC len cuts dens):ckC len cuts dens=0:=by
 rw [ckC,if_neg (by have:=h.l2;have:=h.len0;omega),if_pos h]
def totS (cuts dens:List Int):Nat→Nat→Int→Int
 | 0,_,s=>s
 | r+1,i,s=>totS cuts dens r (i+1) (s+dens.getD i 0*(cuts.getD (i+1) 0-cuts.getD i 0))
def totC (cuts dens:List Int):Int:=totS cuts dens dens.length 0 0
theorem yGz {d x:Int} (h:0≤d∧d≤12) (hx:0≤x):0≤d*x∧d*x≤12*x:=⟨qA7 h.1 hx,qBh h.2 hx⟩
theorem yyS (h:VC len cuts dens):∀ (r i:Nat) (s:Int),i+r=dens.length→0≤s→s≤12*cuts.getD i 0→0≤totS cuts dens r i s∧totS cuts dens r i s≤12*len
 | 0,i,s,hi,h0,h1=>by
  have:=h.l1
  have:=h.hi (i:=i) (by omega)
  unfold totS
  omega
 | r+1,i,s,hi,h0,h1=>by
  unfold totS
  have l1:=h.l1
  have h2:=h.step (i:=i) (by omega)
  have h3:=yGz (h.den (i:=i) (by omega)) (x:=cuts.getD (i+1) 0-cuts.getD i 0) (by omega)
  exact yyS h r (i+1) _ (by omega) (by omega) (by omega)
theorem yyT (h:VC len cuts dens):0≤totC cuts dens∧totC cuts dens≤12000:=by
 have l1:=h.l1
 have h0:=h.lo (i:=0) (by omega)
 have:=yyS h dens.length 0 0 (by omega) (by omega) (by omega)
 have h2:=h.len0
 unfold totC;omega
theorem yyU (h:VC len cuts dens) (W:Int→List PV→List PV→(Int→Prop)→Prop) (x0:Int→List PV→List PV→Int→List PV→Int→Int→Bool→Prop) :
  ∀ (r i n:Nat) (s:Int),i+r=dens.length→r<n→0≤s→s≤12*cuts.getD i 0 →
   yc7 W x0 n len (ints cuts) (ints dens) s (ints dens) dens.length i=x0 len (ints cuts) (ints dens) (totS cuts dens r i s) (ints dens) dens.length dens.length false
 | 0,i,n+1,s,hi,hn,h0,h1=>by
  unfold yc7 totS
  rw [cbF (by omega)]
  have:(i:Int)=dens.length:=by omega
  rw [this]
 | r+1,i,n+1,s,hi,hn,h0,h1=>by
  unfold yc7
  have l1:=h.l1;have l2:=h.l2
  have h2:=h.step (i:=i) (by omega)
  have h3:=yGz (h.den (i:=i) (by omega)) (x:=cuts.getD (i+1) 0-cuts.getD i 0) (by omega)
  have a1:=h.lo (i:=i) (by omega)
  have a2:=h.hi (i:=i+1) (by omega)
  have a3:=h.len0
  have e1:=wib (n:=(i:Int)+1) (by omega) (by omega)
  have e2:=wib (n:=cuts.getD (i+1) 0-cuts.getD i 0) (by omega) (by omega)
  have e3:=wib (n:=dens.getD i 0*(cuts.getD (i+1) 0-cuts.getD i 0)) (by omega) (by omega)
  have e4:=wib (n:=s+dens.getD i 0*(cuts.getD (i+1) 0-cuts.getD i 0)) (by omega) (by omega)
  rw [cbT (by omega),ybh,ybh,e1,ydC,qAe,qAe,asT (by omega),asT (by omega),asC (by omega),asT (by omega),asT (by omega),asC (by omega),asT (by omega),asT (by omega),asC (by omega),ycI (by omega),ycI (by omega),ycI (by omega),e2,e3,e4]
  exact yyU h W x0 r (i+1) n _ (by omega) (by omega) (by omega) (by omega)
theorem yHW (h1:cuts.length<4611686018427387904) (h2:dens.length<4611686018427387904) (K:Int→Int→Prop) :
  yeg len (ints cuts) (ints dens) K=if ckC len cuts dens=0 then K (totC cuts dens) 0 else K 0 (ckC len cuts dens):=by
 by_cases h:ckC len cuts dens=0
 ·rw [if_pos h]
  refine yyq _ _ _ _ _ (fun K k=>?_) K
  unfold yeg yhX
  have hv:=ytX h
  rw [ylU h1 h2,h,cnF rfl]
  refine ⟨dens.length+1,?_⟩
  have l1:=hv.l1
  have a1:=hv.lo (i:=0) (by omega)
  rw [ybh]
  have:=yyU hv yaT (fun b c d a e f g j=>(K a (0:Int))) dens.length 0 (dens.length+1) 0 (by omega) (by omega) (by omega) (by omega)
  rw [show ((0:Nat):Int)=0 from rfl] at this
  rw [this]
  exact k
 ·rw [if_neg h]
  unfold yeg yhX
  rw [ylU h1 h2,cnT h]
def exK (e:Except Int Rat) (K:Int→Int→Int→Prop):Prop:=match e with | .ok q=>K q.num q.den 0 | .error c=>K 0 0 c
def fit {α:Type} (q:Rat) (k:Rat→Except Int α):Except Int α:=if small q then k q else .error 16
def valS (cuts dens:List Int) (b:Rat):Nat→Nat→Rat→Rat→Except Int Rat
 | 0,_,_,sum=>.ok sum
 | r+1,i,p,sum =>
  let en:Rat:=if b<(cuts.getD (i+1) 0:Int) then b else (cuts.getD (i+1) 0:Int)
  if dens.getD i 0=0∨¬p<en then valS cuts dens b r (i+1) (if p<en then en else p) sum
  else fit (en-p) fun l=>fit (l*(dens.getD i 0:Int)) fun w=>fit (sum+w) fun s=>valS cuts dens b r (i+1) en s
def valC (cuts dens:List Int) (a b:Rat):Except Int Rat:=valS cuts dens b dens.length 0 a 0
theorem ydI {q:Rat} {K:Int→Int→Int→Prop}:fitK q K=if small q then K q.num q.den 0 else K 0 0 16:=rfl
theorem yyV (h:VC len cuts dens) {b:Rat} (hb:small b) (an ad:Int) (W1:Int→List PV→List PV→(Int→Prop)→Prop) (W2:Int→List PV→List PV→Int→Int→(Bool→Prop)→Prop) (K:Int→Int→Int→Prop) :
  ∀ (r i n:Nat) (p sum:Rat),i+r=dens.length→r<n→small p→small sum →
   yaZ W1 W2 ybM ybD yaC ya7 ybo (fun a d e=>(K a d e)) (fun j k l m o q s f g t u v w x y=>(K f g (0:Int)))
    n len (ints cuts) (ints dens) b.num b.den an ad sum.num sum.den p.num p.den (ints dens) dens.length i=exK (valS cuts dens b r i p sum) K
 | 0,i,n+1,p,sum,hi,hn,hp,hs=>by
  unfold yaZ valS
  rw [cbF (by omega)];rfl
 | r+1,i,n+1,p,sum,hi,hn,hp,hs=>by
  unfold yaZ
  have l1:=h.l1;have l2:=h.l2
  have sc:=h.sc (i:=i+1) (by omega)
  have sd:=h.sd (i:=i) (by omega)
  have e1:=wib (n:=(i:Int)+1) (by omega) (by omega)
  rw [cbT (by omega),ybh,ybh,e1,ydC,qAe,qAe,asT (by omega),asT (by omega),asC (by omega),asT (by omega),asT (by omega),asC (by omega),ycI (by omega),ycI (by omega),yhi,yfg hb sc]
  have ih:=fun p sum hp hs=>yyV h hb an ad W1 W2 K r (i+1) n p sum (by omega) (by omega) hp hs
  unfold valS
  by_cases hbc:b<((cuts.getD (i+1) 0:Int):Rat)
  ·rw [cbT hbc]
   simp only [if_pos hbc]
   by_cases hd:dens.getD i 0=0
   ·rw [ceT hd,if_pos (.inl hd),yfg hp hb]
    by_cases hpb:p<b
    ·rw [cbT hpb,if_pos hpb];exact ih b sum hb hs
    ·rw [cbF hpb,if_neg hpb];exact ih p sum hp hs
   ·rw [ceF hd,yfg hp hb]
    by_cases hpb:p<b
    ·have hc:¬(dens.getD i 0=0∨¬p<b):=by simp [hpb];exact hd
     rw [if_neg hc,decide_eq_true hpb,qBq,yai,ym8 hb hp,ydI]
     by_cases s1:small (b-p)
     ·rw [if_pos s1,cnF rfl,yhi,ytU s1 sd,ydI,fit,if_pos s1]
      by_cases s2:small ((b-p)*(dens.getD i 0:Int))
      ·rw [if_pos s2,cnF rfl,yCB hs s2,ydI,fit,if_pos s2]
       by_cases s3:small (sum+(b-p)*(dens.getD i 0:Int))
       ·rw [if_pos s3,cnF rfl,fit,if_pos s3];exact ih b _ hb s3
       ·rw [if_neg s3,cnT (by decide),fit,if_neg s3];rfl
      ·rw [if_neg s2,cnT (by decide),fit,if_neg s2];rfl
     ·rw [if_neg s1,cnT (by decide),fit,if_neg s1];rfl
    ·rw [if_pos (.inr hpb),decide_eq_false hpb,qBk,yan,yfg hp hb,cbF hpb,if_neg hpb];exact ih p sum hp hs
  ·rw [cbF hbc]
   simp only [if_neg hbc]
   obtain ⟨c,hc⟩:∃ c:Rat,c=((cuts.getD (i+1) 0:Int):Rat):=⟨_,rfl⟩
   rw [← hc] at sc ⊢
   by_cases hd:dens.getD i 0=0
   ·rw [ceT hd,if_pos (.inl hd),yfg hp sc]
    by_cases hpb:p<c
    ·rw [cbT hpb,if_pos hpb];exact ih c sum sc hs
    ·rw [cbF hpb,if_neg hpb];exact ih p sum hp hs
   ·rw [ceF hd,yfg hp sc]
    by_cases hpb:p<c
    ·have hcc:¬(dens.getD i 0=0∨¬p<c):=by simp [hpb];exact hd
     rw [if_neg hcc,decide_eq_true hpb,qBq,yai,ym8 sc hp,ydI]
     by_cases s1:small (c-p)
     ·rw [if_pos s1,cnF rfl,yhi,ytU s1 sd,ydI,fit,if_pos s1]
      by_cases s2:small ((c-p)*(dens.getD i 0:Int))
      ·rw [if_pos s2,cnF rfl,yCB hs s2,ydI,fit,if_pos s2]
       by_cases s3:small (sum+(c-p)*(dens.getD i 0:Int))
       ·rw [if_pos s3,cnF rfl,fit,if_pos s3];exact ih c _ sc s3
       ·rw [if_neg s3,cnT (by decide),fit,if_neg s3];rfl
      ·rw [if_neg s2,cnT (by decide),fit,if_neg s2];rfl
     ·rw [if_neg s1,cnT (by decide),fit,if_neg s1];rfl
    ·rw [if_pos (.inr hpb),decide_eq_false hpb,qBk,yan,yfg hp sc,cbF hpb,if_neg hpb];exact ih p sum hp hs
end
def rt (n d:Int):Rat:=mkRat n d.toNat
theorem yf9 (q:Rat):rt q.num q.den=q:=by unfold rt;rw [qAe,Rat.mkRat_self]
theorem yjM {n d:Int} (h:RV n d):small (rt n d)∧(rt n d).num=n∧((rt n d).den:Int)=d:=by
 obtain ⟨q,h1,h2,h3⟩:=yFF h
 subst h2 h3
 rw [yf9];exact ⟨h1,rfl,rfl⟩
theorem PT.pt {len n d:Int} (h:PT len n d):small (rt n d)∧(rt n d).num=n∧((rt n d).den:Int)=d∧0≤rt n d∧rt n d≤(len:Rat):=by
 obtain ⟨q,h1,h2,h3,h4,h5⟩:=yLv h
 subst h2 h3
 rw [yf9];exact ⟨h1,rfl,rfl,h4,h5⟩
theorem yJi {len:Int} {q:Rat} (h:small q) (h0:0≤q) (h1:q≤(len:Rat)):PT len q.num q.den:=by
 refine ⟨h.rv,Rat.num_nonneg.2 h0,?_⟩
 rw [Rat.le_iff,Rat.num_intCast,Rat.den_intCast] at h1
 simpa using h1
section
variable {len:Int} {cuts dens:List Int}
def valR (len:Int) (cuts dens:List Int) (an ad bn bd:Int):Except Int Rat :=
 if ckC len cuts dens=0 then (if PT len an ad∧PT len bn bd∧¬rt bn bd<rt an ad then valC cuts dens (rt an ad) (rt bn bd) else .error 2) else .error (ckC len cuts dens)
theorem yJj {w:(Int→Int→Int→Prop)→Prop} {e:Except Int Rat} (det:∀ r0 r1 r2,(∀ K:Int→Int→Int→Prop,K r0 r1 r2→w K)→∀ K,w K=K r0 r1 r2) (h:∀ K,exK e K→w K) (K:Int→Int→Int→Prop):w K=exK e K:=by
 cases e with
 | ok q=>exact det _ _ _ h K
 | error c=>exact det _ _ _ h K
theorem yHX (h1:cuts.length<4611686018427387904) (h2:dens.length<4611686018427387904) {an ad bn bd:Int} (ha:I64 an) (ha':I64 ad) (hb:I64 bn) (hb':I64 bd) (K:Int→Int→Int→Prop) :
  yfs len (ints cuts) (ints dens) an ad bn bd K=exK (valR len cuts dens an ad bn bd) K:=by
 refine yJj (fun r0 r1 r2 h K=>yyr _ _ _ _ _ _ _ r0 r1 r2 h K) (fun K k=>?_) K
 unfold yfs ykQ
 rw [ylU h1 h2]
 unfold valR at k
 by_cases h:ckC len cuts dens=0
 case neg=>rw [cnT h];rw [if_neg h] at k;exact k
 have hv:=ytX h
 have hl:=hv.len0
 rw [if_pos h] at k
 rw [cnF h,yyR (by omega) ha ha']
 by_cases p1:PT len an ad
 case neg=>rw [decide_eq_false p1,qBk,yan];rw [if_neg (fun x=>p1 x.1)] at k;exact k
 rw [decide_eq_true p1,qBq,yai,yyR (by omega) hb hb']
 by_cases p2:PT len bn bd
 case neg=>rw [decide_eq_false p2,qBk,yan];rw [if_neg (fun x=>p2 x.2.1)] at k;exact k
 rw [decide_eq_true p2,qBq,yai]
 obtain ⟨s1,e1,e2,_,_⟩:=p1.pt
 obtain ⟨s2,f1,f2,_,_⟩:=p2.pt
 have hless:=yfg s2 s1
 rw [e1,e2,f1,f2] at hless
 rw [hless]
 by_cases p3:rt bn bd<rt an ad
 ·rw [cbT p3];rw [if_neg (fun x=>x.2.2 p3)] at k;exact k
 rw [cbF p3]
 rw [if_pos ⟨p1,p2,p3⟩] at k
 rw [yhi,ybh]
 refine ⟨dens.length+1,?_⟩
 have:=yyV hv s2 0 0 yaT ybF K dens.length 0 (dens.length+1) (rt an ad) 0 (by omega) (by omega) s1 (by decide)
 rw [e1,e2,f1,f2] at this
 exact this.mpr k
def mrkS (cuts dens:List Int):Nat→Nat→Rat→Rat→Except Int Rat
 | 0,_,_,_=>.error 6
 | r+1,i,p,v =>
  if ¬p<(cuts.getD (i+1) 0:Int) then mrkS cuts dens r (i+1) p v
  else if dens.getD i 0=0 then mrkS cuts dens r (i+1) (cuts.getD (i+1) 0:Int) v
  else fit ((cuts.getD (i+1) 0:Int)-p) fun l=>fit (l*(dens.getD i 0:Int)) fun w =>
   if w<v then fit (v-w) fun v'=>mrkS cuts dens r (i+1) (cuts.getD (i+1) 0:Int) v'
   else fit (v / (dens.getD i 0:Int)) fun s=>fit (p+s) .ok
def mrkC (cuts dens:List Int) (a v:Rat):Except Int Rat:=if v=0 then .ok a else mrkS cuts dens dens.length 0 a v
def mrkR (len:Int) (cuts dens:List Int) (an ad vn vd:Int):Except Int Rat :=
 if ckC len cuts dens=0 then (if PT len an ad∧RV vn vd∧0≤vn then mrkC cuts dens (rt an ad) (rt vn vd) else .error 2) else .error (ckC len cuts dens)
theorem yAI (h:VC len cuts dens) (W1:Int→List PV→List PV→(Int→Prop)→Prop) (W2:Int→List PV→List PV→Int→Int→(Bool→Prop)→Prop) (W3:Int→Int→(Int→Prop)→Prop) (K:Int→Int→Int→Prop) :
  ∀ (r i n:Nat) (p v:Rat) (o1 o2:Int),i+r=dens.length→r<n→small p→small v →
   ybf W1 W2 W3 ybD ybM yaC ya7 ycw ybo
    (fun l m b d f a=>(cbr (a !=(0:Int)) (cbr (a !=(0:Int)) (K (0:Int) (0:Int) a) (K b d (0:Int))) (cbr (f !=(0:Int)) (K (0:Int) (0:Int) f) (K b d (0:Int)))))
    (fun o q j k g s t u w y z A B C=>(cbr (g !=(0:Int)) (K (0:Int) (0:Int) g) (K j k (0:Int))))
    n v.num v.den o1 o2 6 len (ints cuts) (ints dens) p.num p.den (ints dens) dens.length i=exK (mrkS cuts dens r i p v) K
 | 0,i,n+1,p,v,o1,o2,hi,hn,hp,hs=>by
  unfold ybf mrkS
  rw [cbF (by omega)];rfl
 | r+1,i,n+1,p,v,o1,o2,hi,hn,hp,hs=>by
  unfold ybf
  have l1:=h.l1;have l2:=h.l2
  have sc:=h.sc (i:=i+1) (by omega)
  have sd:=h.sd (i:=i) (by omega)
  have hd0:=h.den (i:=i) (by omega)
  have e1:=wib (n:=(i:Int)+1) (by omega) (by omega)
  rw [cbT (by omega),ybh,ybh,e1,ydC,qAe,qAe,asT (by omega),asT (by omega),asC (by omega),asT (by omega),asT (by omega),asC (by omega),ycI (by omega),ycI (by omega),yhi,yfg hp sc]
  have ih:=fun p v o1 o2 hp hs=>yAI h W1 W2 W3 K r (i+1) n p v o1 o2 (by omega) (by omega) hp hs
  unfold mrkS
  obtain ⟨c,hc⟩:∃ c:Rat,c=((cuts.getD (i+1) 0:Int):Rat):=⟨_,rfl⟩
  rw [← hc] at sc ⊢
  by_cases hpc:p<c
  case neg=>rw [decide_eq_false hpc,qBk,yan,if_pos hpc];exact ih p v o1 o2 hp hs
  rw [decide_eq_true hpc,qBq,yai,if_neg (fun x=>x hpc),yhi]
  by_cases hd:dens.getD i 0=0
  ·rw [cbF (by omega),ceT hd,if_pos hd];exact ih c v o1 o2 sc hs
  rw [cbT (by omega),if_neg hd,ym8 sc hp,ydI]
  by_cases s1:small (c-p)
  case neg=>rw [if_neg s1,cnT (by decide),cnT (by decide),cnT (by decide),fit,if_neg s1];rfl
  rw [if_pos s1,cnF rfl,yhi,ytU s1 sd,ydI,fit,if_pos s1]
  by_cases s2:small ((c-p)*(dens.getD i 0:Int))
  case neg=>rw [if_neg s2,cnT (by decide),cnT (by decide),cnT (by decide),fit,if_neg s2];rfl
  rw [if_pos s2,cnF rfl,ceF hd,yfg s2 hs,fit,if_pos s2]
  by_cases hw:(c-p)*(dens.getD i 0:Int)<v
  ·rw [cbT hw,if_pos hw,ym8 hs s2,ydI,fit]
   by_cases s3:small (v-(c-p)*(dens.getD i 0:Int))
   ·rw [if_pos s3,if_pos s3,cnF rfl,cnF rfl];exact ih c _ o1 o2 sc s3
   ·rw [if_neg s3,if_neg s3,cnT (by decide),cnT (by decide),cnF rfl,cnT (by decide)];rfl
  ·have hdn:((dens.getD i 0:Int):Rat)≠0:=fun e=>hd (Rat.intCast_eq_zero_iff.1 e)
   rw [cbF hw,if_neg hw,yhi,yKq hs sd hdn,ydI,fit]
   by_cases s3:small (v / (dens.getD i 0:Int))
   ·rw [if_pos s3,if_pos s3,ceT rfl,yCB hp s3,ydI,fit]
    by_cases s4:small (p+v / (dens.getD i 0:Int))
    ·rw [if_pos s4,if_pos s4,cnF rfl,cnF rfl];rfl
    ·rw [if_neg s4,if_neg s4,cnF rfl,cnT (by decide)];rfl
   ·rw [if_neg s3,if_neg s3,ceF (by decide),cnF rfl,cnT (by decide)];rfl
theorem yJk (h1:cuts.length<4611686018427387904) (h2:dens.length<4611686018427387904) {an ad vn vd:Int} (ha:I64 an) (ha':I64 ad) (hv:I64 vn) (hv':I64 vd) (K:Int→Int→Int→Prop) :
  ygt len (ints cuts) (ints dens) an ad vn vd K=exK (mrkR len cuts dens an ad vn vd) K:=by
 refine yJj (fun r0 r1 r2 h K=>yzI _ _ _ _ _ _ _ r0 r1 r2 h K) (fun K k=>?_) K
 unfold ygt ymA
 rw [ylU h1 h2]
 unfold mrkR at k
 by_cases h:ckC len cuts dens=0
 case neg=>rw [cnT h];rw [if_neg h] at k;exact k
 have hc:=ytX h
 have hl:=hc.len0
 rw [if_pos h] at k
 rw [cnF h,yyR (by omega) ha ha']
 by_cases p1:PT len an ad
 case neg=>rw [decide_eq_false p1,qBk,yan];rw [if_neg (fun x=>p1 x.1)] at k;exact k
 rw [decide_eq_true p1,qBq,yai,yAF hv hv',chk]
 by_cases p2:RV vn vd
 case neg=>rw [if_neg p2,cnT (by decide)];rw [if_neg (fun x=>p2 x.2.1)] at k;exact k
 rw [if_pos p2,cnF rfl]
 by_cases p3:vn<0
 ·rw [cbT p3];rw [if_neg (fun x=>by omega)] at k;exact k
 rw [cbF p3]
 rw [if_pos ⟨p1,p2,by omega⟩] at k
 obtain ⟨s1,e1,e2,_,_⟩:=p1.pt
 obtain ⟨s2,f1,f2⟩:=yjM p2
 unfold mrkC at k
 by_cases p4:vn=0
 ·rw [ceT p4]
  rw [if_pos (Rat.num_eq_zero.1 (f1.trans p4))] at k
  have k:K (rt an ad).num (rt an ad).den 0:=k
  rw [e1,e2] at k
  exact k
 rw [ceF p4]
 rw [if_neg (fun x=>p4 (by rw [← f1,x];rfl))] at k
 rw [ybh]
 refine ⟨dens.length+1,?_⟩
 have:=yAI hc yaT ybF ybk K dens.length 0 (dens.length+1) (rt an ad) (rt vn vd) 0 0 (by omega) (by omega) s1 s2
 rw [e1,e2,f1,f2] at this
 exact this.mpr k
def okD (cuts dens:List Int) (i:Nat):Prop:=∀ j,i≤j→j<dens.length→cuts.getD j 0<cuts.getD (j+1) 0∧0≤dens.getD j 0∧dens.getD j 0≤12
theorem ypf (l1:dens.length+1=cuts.length) (l2:dens.length<4611686018427387904) (x0:Int→Prop) (x1:Int→List PV→List PV→Bool→Int→Bool→Prop) (P:Prop)
  (hbad:¬okD cuts dens 0→x0 8=P) (hgood:∀ b:Bool,okD cuts dens 0→b=decide (∃ j,j<dens.length∧0<dens.getD j 0)→x1 len (ints cuts) (ints dens) b dens.length false=P) :
  ∀ (r i n:Nat) (b:Bool),i+r=dens.length→r<n→(∀ j,j<i→cuts.getD j 0<cuts.getD (j+1) 0∧0≤dens.getD j 0∧dens.getD j 0≤12)→b=decide (∃ j,j<i∧0<dens.getD j 0) →
   ycO x0 x1 n len (ints cuts) (ints dens) b i=P
 | 0,i,n+1,b,hi,hn,hj,hb=>by
  unfold ycO
  rw [ybh,cbF (by omega),show (i:Int)=dens.length by omega]
  refine hgood b (fun j _ h=>hj j (by omega)) ?_
  rw [hb,decide_eq_decide]
  rw [show i=dens.length by omega]
 | r+1,i,n+1,b,hi,hn,hj,hb=>by
  unfold ycO
  have e1:=wib (n:=(i:Int)+1) (by omega) (by omega)
  rw [ybh,ybh,cbT (by omega),e1,ydC,qAe,qAe,asT (by omega),asT (by omega),asC (by omega),asT (by omega),asT (by omega),asC (by omega),ycI (by omega),ycI (by omega)]
  have bad:¬(cuts.getD i 0<cuts.getD (i+1) 0∧0≤dens.getD i 0∧dens.getD i 0≤12)→x0 8=P:=fun h=>hbad fun hk=>h (hk i (by omega) (by omega))
  by_cases a1:cuts.getD (i+1) 0≤cuts.getD i 0
  ·rw [cbT a1];exact bad (by omega)
  rw [cbF a1,asT (by omega),asT (by omega),asC (by omega),ycI (by omega)]
  by_cases a2:dens.getD i 0<0
  ·rw [cbT a2];exact bad (by omega)
  rw [cbF a2,asT (by omega),asT (by omega),asC (by omega)]
  by_cases a3:dens.getD i 0>12
  ·rw [cbT a3];exact bad (by omega)
  rw [cbF a3]
  have hj2:∀ j,j<i+1→cuts.getD j 0<cuts.getD (j+1) 0∧0≤dens.getD j 0∧dens.getD j 0≤12:=by
   intro j hlt
   by_cases e:j=i
   ·subst e;omega
   ·exact hj j (by omega)
  have ex:∀ c:Bool,(c=true↔(b=true∨0<dens.getD i 0))→c=decide (∃ j,j<i+1∧0<dens.getD j 0):=by
   intro c hc
   rw [Bool.eq_iff_iff,hc,hb,decide_eq_true_iff,decide_eq_true_iff]
   constructor
   ·rintro (⟨j,h1,h2⟩ | h)
    ·exact ⟨j,by omega,h2⟩
    ·exact ⟨i,by omega,h⟩
   ·rintro ⟨j,h1,h2⟩
    by_cases e:j=i
    ·subst e;exact .inr h2
    ·exact .inl ⟨j,by omega,h2⟩
  cases b with
  | true =>
   rw [yan]
   exact ypf l1 l2 x0 x1 P hbad hgood r (i+1) n true (by omega) (by omega) hj2 (ex _ (by simp))
  | false =>
   rw [yai,asT (by omega),asT (by omega),asC (by omega)]
   exact ypf l1 l2 x0 x1 P hbad hgood r (i+1) n _ (by omega) (by omega) hj2 (ex _ (by simp))
theorem yAJ (h1:cuts.length<4611686018427387904) (h2:dens.length<4611686018427387904) (K:Int→Prop) :
  ycc len (ints cuts) (ints dens) K=K (ckC len cuts dens):=by
 refine yzR _ _ _ _ (fun K k=>?_) K
 unfold ycc ymO
 simp only [ybh]
 have bad:¬(len>1000∨cuts.length>40)→¬VC len cuts dens→K 8:=fun h h2=>by
  rw [ckC,if_neg h,if_neg h2] at k;exact k
 by_cases a1:len>1000
 ·rw [cbT a1];rw [ckC,if_pos (.inl a1)] at k;exact k
 rw [cbF a1]
 by_cases a2:cuts.length>40
 ·rw [cbT (by omega)];rw [ckC,if_pos (.inr a2)] at k;exact k
 have a12:¬(len>1000∨cuts.length>40):=by omega
 rw [cbF (by omega)]
 by_cases a3:len<1
 ·rw [cbT a3];exact bad a12 (fun h=>by have:=h.1;omega)
 rw [cbF a3]
 by_cases a4:cuts.length<2
 ·rw [cbT (by omega)];exact bad a12 (fun h=>by have:=h.2.2.1;omega)
 rw [cbF (by omega),wib (n:=(cuts.length:Int)-1) (by omega) (by omega)]
 by_cases a5:dens.length+1=cuts.length
 case neg=>rw [cnT (by omega)];exact bad a12 (fun h=>a5 h.2.2.2.2.1)
 rw [cnF (by omega),asT (by omega),asC (by omega),ycI (by omega)]
 by_cases a6:cuts.getD 0 0=0
 case neg=>rw [cnT a6];exact bad a12 (fun h=>a6 h.2.2.2.2.2.1)
 rw [cnF a6,asT (by omega),asT (by omega),asC (by omega),ycI (by omega)]
 have en:((cuts.length:Int)-1).toNat=cuts.length-1:=by omega
 rw [en]
 by_cases a7:cuts.getD (cuts.length-1) 0=len
 case neg=>rw [cnT a7];exact bad a12 (fun h=>a7 h.2.2.2.2.2.2.1)
 rw [cnF a7]
 have mem:∀ d,d∈dens↔∃ j,j<dens.length∧dens.getD j 0=d:=by
  intro d
  rw [List.mem_iff_getElem]
  constructor
  ·rintro ⟨j,hj,e⟩;exact ⟨j,hj,by rw [qAd,qAb hj];exact e⟩
  ·rintro ⟨j,hj,e⟩;exact ⟨j,hj,by rw [qAd,qAb hj] at e;exact e⟩
 refine ⟨dens.length+1,?_⟩
 refine (ypf a5 h2 _ _ (K (ckC len cuts dens)) (fun hk=>?_) (fun b hk hb=>?_) dens.length 0 (dens.length+1) false (by omega) (by omega) (fun j h=>by omega) (by simp)).mpr k
 ·have hv:¬VC len cuts dens:=fun h=>hk fun j _ hj=>⟨h.step (by omega),h.den hj⟩
  rw [ckC,if_neg a12,if_neg hv]
 ·have hsome:yyQ dens↔∃ j,j<dens.length∧0<dens.getD j 0:=by
   constructor
   ·rintro ⟨d,hd,h0⟩
    obtain ⟨j,hj,e⟩:=(mem d).1 hd
    exact ⟨j,hj,by rw [e];exact h0⟩
   ·rintro ⟨j,hj,h0⟩;exact ⟨_,(mem _).2 ⟨j,hj,rfl⟩,h0⟩
  have hv:VC len cuts dens↔yyQ dens:=by
   refine ⟨fun h=>h.2.2.2.2.2.2.2.2.2,fun h=>⟨by omega,by omega,by omega,by omega,a5,a6,a7,fun j _ hj=>(hk j (by omega) (by omega)).1,fun d hd=>?_,h⟩⟩
   obtain ⟨j,hj,e⟩:=(mem d).1 hd
   rw [← e];exact (hk j (by omega) hj).2
  rw [ckC,if_neg a12]
  by_cases hs:yyQ dens
  ·rw [if_pos (hv.2 hs),hb,decide_eq_true (hsome.1 hs)];rfl
  ·rw [if_neg (fun x=>hs (hv.1 x)),hb,decide_eq_false (fun x=>hs (hsome.2 x))];rfl
theorem yk9 {α:Type} {q:Rat} {k:Rat→Except Int α} (h:small q):fit q k=k q:=if_pos h
theorem yJl {q:Rat} {K:Int→Int→Int→Prop}:exK (.ok q) K=K q.num q.den 0:=rfl
theorem yJm {c:Int} {K:Int→Int→Int→Prop}:exK (.error c) K=K 0 0 c:=rfl
end
structure Ck where
 len:Int
 cuts:List Int
 dens:List Int
instance:Inhabited Ck:=⟨⟨0,[],[]⟩⟩
def encC (c:Ck):PV:=.agg [.int .i64 c.len,.data (ints c.cuts),.data (ints c.dens)]
def cks (l:List Ck):List PV:=l.map encC
def Ck.fin (c:Ck):Prop:=c.cuts.length<4611686018427387904∧c.dens.length<4611686018427387904
def Ck.err (c:Ck):Int:=ckC c.len c.cuts c.dens
def Ck.ok (c:Ck):Prop:=VC c.len c.cuts c.dens
instance (c:Ck):Decidable c.ok:=by unfold Ck.ok;infer_instance
theorem ycg (l:List Ck):(cks l).length=l.length:=qAx ..
theorem yhP {l:List Ck} {i:Nat} (h:i<l.length):List.getD (cks l) i .nils=encC (l.getD i default):=by
 unfold cks
 rw [qAd,qAd,qBf,qAb h]
 rfl
theorem ybc {α:Type} {l:List α} {i:Nat} (d:α) (h:i<l.length):l.drop i=l.getD i d::l.drop (i+1):=by
 rw [List.drop_eq_getElem_cons h,qAd,qAb h];rfl
theorem asCk {c:Ck} {P:Prop}:asr (conf zK (encC c)) P=P:=rfl
theorem ck0 (c:Ck):yaa (yab (encC c) 0)=c.len:=rfl
theorem ck1 (c:Ck):ycL (yab (encC c) 1)=ints c.cuts:=rfl
theorem ck2 (c:Ck):ycL (yab (encC c) 2)=ints c.dens:=rfl
def yfQ:List Ck→Int
 | []=>0
 | c::t=>if c.err=0 then yfQ t else c.err
def yjN (n:Int):List Ck→Bool
 | []=>true
 | c::t=>decide (c.len=n)&&yjN n t
def yif (l:List Ck) (m:Nat):Int :=
 if l.length>6 then 4 else if m>2000 then 4 else if l.length=0 then 8 else if yfQ l=0 then (if yjN (l.getD 0 default).len l then 0 else 8) else yfQ l
section
variable {l:List Ck}
def finC (l:List Ck):Prop:=∀ i,i<l.length→(l.getD i default).fin
theorem yGA (hf:finC l) (hl:l.length<4611686018427387904) (x0:Int→Prop) (x1:List PV→List PV→List PV→Int→Int→Bool→Prop) (lg:List PV) :
  ∀ (r i n:Nat),i+r=l.length→r<n→ydl yaT x0 x1 n (cks l) lg (cks l) l.length i =
   if yfQ (l.drop i)=0 then x1 (cks l) lg (cks l) l.length l.length false else x0 (yfQ (l.drop i))
 | 0,i,n+1,hi,hn=>by
  unfold ydl
  rw [cbF (by omega),qA5 (by omega),show (i:Int)=l.length by omega];rfl
 | r+1,i,n+1,hi,hn=>by
  unfold ydl
  have e1:=wib (n:=(i:Int)+1) (by omega) (by omega)
  obtain ⟨f1,f2⟩:=hf i (by omega)
  rw [cbT (by omega),ycg,qAe,yhP (by omega),asT (by omega),asT (by omega),asCk,ck0,ck1,ck2,ylU (by omega) (by omega),ybc default (by omega),yfQ,e1,ydC]
  show cbr ((l.getD i default).err != 0) _ _=_
  by_cases h:(l.getD i default).err=0
  ·rw [cnF h,if_pos h];exact yGA hf hl x0 x1 lg r (i+1) n (by omega) (by omega)
  ·rw [cnT h,if_neg h,if_neg h];rfl
theorem yGB (hl:l.length<4611686018427387904) (x0:Int→Prop) (x1:List PV→List PV→List PV→Int→Int→Bool→Prop) (lg:List PV) (W) :
  ∀ (r i n:Nat),i+r=l.length→r<n→ycN W x0 x1 n (cks l) lg (cks l) l.length i =
   if yjN (l.getD 0 default).len (l.drop i) then x1 (cks l) lg (cks l) l.length l.length false else x0 8
 | 0,i,n+1,hi,hn=>by
  unfold ycN
  rw [cbF (by omega),qA5 (by omega),show (i:Int)=l.length by omega];rfl
 | r+1,i,n+1,hi,hn=>by
  unfold ycN
  have e1:=wib (n:=(i:Int)+1) (by omega) (by omega)
  rw [cbT (by omega),ycg,qAe,yhP (by omega),yhP (by omega),asT (by omega),asT (by omega),asCk,asT (by omega),asCk,ck0,ck0,ybc default (by omega),yjN,e1,ydC]
  by_cases h:(l.getD i default).len=(l.getD 0 default).len
  ·rw [cnF h,decide_eq_true h,qAy];exact yGB hl x0 x1 lg W r (i+1) n (by omega) (by omega)
  ·rw [cnT h,decide_eq_false h,qBj,if_neg (by simp)]
theorem ypD (hf:finC l) (hl:l.length<4611686018427387904) (lg:List PV) (K:Int→Prop):yc1 (cks l) lg K=K (yif l lg.length):=by
 refine yzO _ _ _ (fun K k=>?_) K
 unfold yc1 ymE
 unfold yif at k
 rw [ycg]
 by_cases a1:l.length>6
 ·rw [cbT (by omega)];rw [if_pos a1] at k;exact k
 rw [cbF (by omega)];rw [if_neg a1] at k
 by_cases a2:lg.length>2000
 ·rw [cbT (by omega)];rw [if_pos a2] at k;exact k
 rw [cbF (by omega)];rw [if_neg a2] at k
 by_cases a3:l.length=0
 ·rw [ceT (by omega)];rw [if_pos a3] at k;exact k
 rw [ceF (by omega)];rw [if_neg a3] at k
 refine ⟨l.length+1,?_⟩
 have h0:=yGA hf hl (fun c=>K c) (fun a d o p q r=>(∃ e:Nat,ycN yaT (fun b=>(K b)) (fun f g i j m n=>(K (0:Int))) e a d a (((List.length a):Nat):Int) (0:Int))) lg l.length 0 (l.length+1) (by omega) (by omega)
 rw [show ((0:Nat):Int)=0 from rfl,qBe] at h0
 rw [h0]
 by_cases a4:yfQ l=0
 ·rw [if_pos a4] at k ⊢
  refine ⟨l.length+1,?_⟩
  have h1:=yGB hl (fun b=>(K b)) (fun f g i j m n=>(K (0:Int))) lg yaT l.length 0 (l.length+1) (by omega) (by omega)
  rw [show ((0:Nat):Int)=0 from rfl,qBe] at h1
  rw [ycg,h1]
  split at k <;> rename_i h <;> simp only [h] <;> exact k
 ·rw [if_neg a4] at k ⊢;exact k
theorem yGC (hf:finC l) (hl:l.length<4611686018427387904) (x0:Int→Prop) (x1:List PV→List PV→Int→Bool→Prop) (lg:List PV) :
  ∀ (r i n:Nat),i+r=l.length→r<n→ydm ycc x0 x1 n (cks l) lg i =
   if yfQ (l.drop i)=0 then x1 (cks l) lg l.length false else x0 (yfQ (l.drop i))
 | 0,i,n+1,hi,hn=>by
  unfold ydm
  rw [ycg,cbF (by omega),qA5 (by omega),show (i:Int)=l.length by omega];rfl
 | r+1,i,n+1,hi,hn=>by
  unfold ydm
  have e1:=wib (n:=(i:Int)+1) (by omega) (by omega)
  obtain ⟨f1,f2⟩:=hf i (by omega)
  rw [ycg,cbT (by omega),qAe,yhP (by omega),asT (by omega),asT (by omega),asCk,ck0,ck1,ck2,yAJ (by omega) (by omega),ybc default (by omega),yfQ,e1,ydC]
  show cbr ((l.getD i default).err != 0) _ _=_
  by_cases h:(l.getD i default).err=0
  ·rw [cnF h,if_pos h];exact yGC hf hl x0 x1 lg r (i+1) n (by omega) (by omega)
  ·rw [cnT h,if_neg h,if_neg h,asT (by omega),asT (by omega),asCk,yAJ (by omega) (by omega)];rfl
theorem yGD (hl:l.length<4611686018427387904) (x0:Int→Prop) (x1:List PV→List PV→Int→Bool→Prop) (lg:List PV) (W) :
  ∀ (r i n:Nat),i+r=l.length→r<n→ycP W x0 x1 n (cks l) lg i =
   if yjN (l.getD 0 default).len (l.drop i) then x1 (cks l) lg l.length false else x0 8
 | 0,i,n+1,hi,hn=>by
  unfold ycP
  rw [ycg,cbF (by omega),qA5 (by omega),show (i:Int)=l.length by omega];rfl
 | r+1,i,n+1,hi,hn=>by
  unfold ycP
  have e1:=wib (n:=(i:Int)+1) (by omega) (by omega)
  rw [ycg,cbT (by omega),qAe,yhP (by omega),yhP (by omega),asT (by omega),asT (by omega),asCk,asT (by omega),asCk,ck0,ck0,ybc default (by omega),yjN,e1,ydC]
  by_cases h:(l.getD i default).len=(l.getD 0 default).len
  ·rw [cnF h,decide_eq_true h,qAy];exact yGD hl x0 x1 lg W r (i+1) n (by omega) (by omega)
  ·rw [cnT h,decide_eq_false h,qBj,if_neg (by simp)]
theorem yHY (hf:finC l) (hl:l.length<4611686018427387904) (lg:List PV) (K:Int→Prop):ye9 (cks l) lg K=K (yif l lg.length):=by
 refine yzS _ _ _ (fun K k=>?_) K
 unfold ye9 ymQ
 unfold yif at k
 rw [ycg]
 by_cases a1:l.length>6
 ·rw [cbT (by omega)];rw [if_pos a1] at k;exact k
 rw [cbF (by omega)];rw [if_neg a1] at k
 by_cases a2:lg.length>2000
 ·rw [cbT (by omega)];rw [if_pos a2] at k;exact k
 rw [cbF (by omega)];rw [if_neg a2] at k
 by_cases a3:l.length=0
 ·rw [ceT (by omega)];rw [if_pos a3] at k;exact k
 rw [ceF (by omega)];rw [if_neg a3] at k
 refine ⟨l.length+1,?_⟩
 have h0:=yGC hf hl (fun b=>K b) (fun c d m n=>(∃ e:Nat,ycP ycc (fun a=>(K a)) (fun f g i j=>(K (0:Int))) e c d (0:Int))) lg l.length 0 (l.length+1) (by omega) (by omega)
 rw [show ((0:Nat):Int)=0 from rfl,qBe] at h0
 rw [h0]
 by_cases a4:yfQ l=0
 ·rw [if_pos a4] at k ⊢
  refine ⟨l.length+1,?_⟩
  have h1:=yGD hl (fun a=>(K a)) (fun f g i j=>(K (0:Int))) lg ycc l.length 0 (l.length+1) (by omega) (by omega)
  rw [show ((0:Nat):Int)=0 from rfl,qBe] at h1
  rw [h1]
  split at k <;> rename_i h <;> simp only [h] <;> exact k
 ·rw [if_neg a4] at k ⊢;exact k
def Ck.low (c:Ck):Prop:=c.cuts.length≤1000∧c.dens.length≤1000
def lowC (l:List Ck):Prop:=∀ i,i<l.length→(l.getD i default).low
theorem yEg (l:List Int):ydw 1 (ints l)=true:=by cases l <;> rfl
theorem ytY {l:List Int} (h:l.length≤1000) (K:List PV→Prop):ydt (ints l) K=K (ints l):=by
 show asr (yd7 1 8 (ints l)) (K (ints l))=_
 have:yd7 1 8 (ints l)=true:=by
  unfold yd7
  rw [yEg,ybh,qAy,decide_eq_true_iff]
  unfold room;omega
 rw [this,yaM]
theorem asTT {c:Bool} {P:Prop} (h:c=true):asr c P=P:=by rw [h,yaM]
theorem yGE (hf:lowC l) (hl:l.length≤1000) (x0:List PV→List PV→Int→Int→Bool→Prop) (x1:List PV→Int→Int→Bool→Prop) :
  ∀ (r i n:Nat) (acc:List PV),i+r=l.length→r<n→acc.length≤i→yc9 ydt x0 x1 n acc (cks l) l.length i=x0 (acc++cks (l.drop i)) (cks l) l.length l.length false
 | 0,i,n+1,acc,hi,hn,ha=>by
  unfold yc9
  rw [cbF (by omega),qA5 (by omega),show (i:Int)=l.length by omega]
  show _=x0 (acc++[]) _ _ _ _
  rw [List.append_nil]
 | r+1,i,n+1,acc,hi,hn,ha=>by
  unfold yc9
  have e1:=wib (n:=(i:Int)+1) (by omega) (by omega)
  obtain ⟨f1,f2⟩:=hf i (by omega)
  rw [cbT (by omega),ycg,qAe,yhP (by omega),asT (by omega),asT (by omega),asCk,ck0,ck1,ck2,ytY f1,ytY f2,asT rfl,asT (by omega),asTT (by rw [decide_eq_false (by omega)];rfl),asT rfl,asT (by unfold room;omega),asTT (by simp),e1,ydC]
  rw [yGE hf hl x0 x1 r (i+1) n _ (by omega) (by omega) (by simp;omega),ybc (i:=i) default (by omega),qAu];rfl
theorem yAK (hf:lowC l) (hl:l.length≤1000) (K:List PV→Prop):yeh (cks l) K=K (cks l):=by
 refine yyw _ _ (fun K k=>?_) K
 unfold yeh ykU
 cases hc:l with
 | nil =>
  refine ⟨0+1,?_⟩
  rw [hc] at k
  rw [yft,ycg,cbF (by simp)]
  exact k
 | cons c t =>
  rw [← hc]
  have h0:0<l.length:=by rw [hc];exact Nat.zero_lt_succ _
  refine ⟨(l.length+1)+1,?_⟩
  rw [yft]
  obtain ⟨f1,f2⟩:=hf 0 (by omega)
  have e1:=wib (n:=(0:Int)+1) (by omega) (by omega)
  rw [ycg,cbT (by omega),show (0:Int).toNat=0 from rfl,yhP (by omega),asT (by omega),asT (by omega),asCk,ck0,ck1,ck2,ytY f1,ytY f2,asTT (by simp),e1,show (0:Int)+1=((0+1:Nat):Int) from rfl]
  rw [yGE hf hl _ _ (l.length-1) (0+1) (l.length+1) _ (by omega) (by omega) (by simp)]
  have e:[PV.agg [PV.int IntKind.i64 (l.getD 0 default).len,PV.data (ints (l.getD 0 default).cuts),PV.data (ints (l.getD 0 default).dens)]]++cks (l.drop (0+1))=cks l:=by
   conv=>rhs;rw [← qBe (l:=l),ybc default h0]
   rfl
  rw [e,asT rfl,asT (by omega),qAr]
  exact k
theorem yv2:∀ (l:List Ck),yfQ l=0→∀ i,i<l.length→(l.getD i default).ok
 | c::t,h,0,_=>by
  unfold yfQ at h
  split at h
  ·rename_i h1;exact ytX h1
  ·rename_i h1;exact absurd h h1
 | c::t,h,i+1,hi=>by
  unfold yfQ at h
  split at h
  ·exact yv2 t h i (by simpa using hi)
  ·rename_i h1;exact absurd h h1
theorem yyW {n:Int}:∀ (l:List Ck),yjN n l=true→∀ i,i<l.length→(l.getD i default).len=n
 | c::t,h,0,_=>by
  unfold yjN at h
  simp only [qAa,decide_eq_true_eq] at h
  exact h.1
 | c::t,h,i+1,hi=>by
  unfold yjN at h
  simp only [qAa,decide_eq_true_eq] at h
  exact yyW t h.2 i (by simpa using hi)
structure DK (l:List Ck):Prop where
 n6:l.length≤6
 n0:1≤l.length
 ok:∀ i,i<l.length→(l.getD i default).ok
 len:∀ i,i<l.length→(l.getD i default).len=(l.getD 0 default).len
theorem ym9 {m:Nat} (h:yif l m=0):DK l∧m≤2000:=by
 unfold yif at h
 split at h
 ·omega
 split at h
 ·omega
 split at h
 ·omega
 split at h
 ·rename_i h0 h1 h2 h3
  split at h
  ·rename_i h4
   exact ⟨⟨by omega,by omega,yv2 l h3,yyW l h4⟩,by omega⟩
  ·omega
 ·rename_i h3;exact absurd h h3
theorem DK.err {l:List Ck} (h:DK l) {m:Nat} (hm:m≤2000):yif l m=0:=by
 have f:∀ l:List Ck,(∀ i,i<l.length→(l.getD i default).ok)→yfQ l=0:=by
  intro l
  induction l with
  | nil=>intro _;rfl
  | cons c t ih =>
   intro h
   unfold yfQ
   rw [if_pos (show c.err=0 from (h 0 (Nat.zero_lt_succ _)).ck)]
   exact ih fun i hi=>h (i+1) (by simpa using hi)
 have g:∀ (n:Int) (l:List Ck),(∀ i,i<l.length→(l.getD i default).len=n)→yjN n l=true:=by
  intro n l
  induction l with
  | nil=>intro _;rfl
  | cons c t ih =>
   intro h
   unfold yjN
   rw [qAa,decide_eq_true_eq]
   exact ⟨h 0 (Nat.zero_lt_succ _),ih fun i hi=>h (i+1) (by simpa using hi)⟩
 have:=h.n6;have:=h.n0
 unfold yif
 rw [if_neg (by omega),if_neg (by omega),if_neg (by omega),if_pos (f l h.ok),if_pos (g _ l h.len)]
theorem DK.low {l:List Ck} (h:DK l):lowC l:=fun i hi=>by
 have h1:=(h.ok i hi).l1;have h2:=(h.ok i hi).l2
 exact ⟨by omega,by omega⟩
theorem DK.fin {l:List Ck} (h:DK l):finC l:=fun i hi=>by
 have h1:=(h.ok i hi).l1;have h2:=(h.ok i hi).l2
 exact ⟨by omega,by omega⟩
def qrow (agent kind an ad bn bd cn cd:Int):PV:=.agg [.int .i64 agent,.int .u8 kind,.int .i64 an,.int .i64 ad,.int .i64 bn,.int .i64 bd,.int .i64 cn,.int .i64 cd]
def qryR (l:List Ck) (m:Nat) (agent:Int) (ans:Ck→Except Int Rat):Except Int Rat :=
 if yif l m=0 then (if 0≤agent∧agent<l.length then (match ans (l.getD agent.toNat default) with
  | .ok p=>if m≥2000 then .error 4 else .ok p
  | .error e=>.error e) else .error 2) else .error (yif l m)
def qryK (l:List Ck) (lg:List PV) (row:Rat→PV) (e:Except Int Rat) (K:List PV→List PV→Int→Int→Int→Prop):Prop :=
 match e with
 | .ok p=>K (cks l) (lg++[row p]) p.num p.den 0
 | .error c=>K [] [] 0 0 c
theorem yKR {w:(List PV→List PV→Int→Int→Int→Prop)→Prop} {l:List Ck} {lg:List PV} {row:Rat→PV} {e:Except Int Rat} (det:∀ r0 r1 r2 r3 r4,(∀ K:List PV→List PV→Int→Int→Int→Prop,K r0 r1 r2 r3 r4→w K)→∀ K,w K=K r0 r1 r2 r3 r4)
  (h:∀ K,qryK l lg row e K→w K) (K):w K=qryK l lg row e K:=by
 cases e with
 | ok q=>exact det _ _ _ _ _ h K
 | error c=>exact det _ _ _ _ _ h K
theorem mk1 {z q:PV} {lg:List PV} {m:Nat} (hm:m=lg.length) :
  List.take ((0+m)+1) ((List.take (0+(0+m)) (lg++(List.drop (0+m) (List.replicate (m+1) z))))++(([q]:List PV)++(List.drop ((0+(0+m))+1) (lg++(List.drop (0+m) (List.replicate (m+1) z))))))=lg++[q]:=by
 subst hm
 simp
 rw [qBo (by simp)]
theorem yFH (lg:List PV) (agent:Int) (K:Bool→Prop):yc8 (cks l) lg agent K=K (decide (0≤agent∧agent<l.length)):=by
 unfold yc8 yg4
 rw [ycg]
 by_cases h:agent≥0
 ·rw [cbT h]
  congr 1
  rw [decide_eq_decide];omega
 ·rw [cbF h,decide_eq_false (by omega)]
def Ck.mark (an ad vn vd:Int) (c:Ck):Except Int Rat:=mrkR c.len c.cuts c.dens an ad vn vd
def Ck.value (an ad bn bd:Int) (c:Ck):Except Int Rat:=valR c.len c.cuts c.dens an ad bn bd
theorem yJn (hf:finC l) (hl:l.length<4611686018427387904) {lg:List PV} (hlg:ydw 8 lg=true) {agent an ad vn vd:Int} (ha:I64 an) (ha':I64 ad) (hv:I64 vn) (hv':I64 vd) (K) :
  ye7 (cks l) lg agent an ad vn vd K=qryK l lg (fun p=>qrow agent 2 an ad vn vd p.num p.den) (qryR l lg.length agent (Ck.mark an ad vn vd)) K:=by
 refine yKR (fun r0 r1 r2 r3 r4 h K=>yB1 _ _ _ _ _ _ _ r0 r1 r2 r3 r4 h K) (fun K k=>?_) K
 unfold ye7 yoF
 unfold qryR at k
 rw [ypD hf hl]
 by_cases h:yif l lg.length=0
 case neg=>rw [cnT h];rw [if_neg h] at k;exact k
 obtain ⟨hd,hm⟩:=ym9 h
 rw [if_pos h] at k
 rw [cnF h,yFH]
 by_cases h2:0≤agent∧agent<l.length
 case neg=>rw [decide_eq_false h2,qBk,yan];rw [if_neg h2] at k;exact k
 rw [if_pos h2] at k
 obtain ⟨a,rfl⟩:∃ a:Nat,agent=a:=⟨agent.toNat,by omega⟩
 have ha2:a<l.length:=by omega
 rw [qAe] at k
 obtain ⟨f1,f2⟩:=hf a ha2
 rw [decide_eq_true h2,qBq,yai,yg6,ygi,ycg,qAe,yhP ha2,asT (by omega),asT (by omega),asCk,ck0,ck1,ck2,yJk (by omega) (by omega) ha ha' hv hv']
 have em:Ck.mark an ad vn vd (l.getD a default)=mrkR (l.getD a default).len (l.getD a default).cuts (l.getD a default).dens an ad vn vd:=rfl
 rw [em] at k
 cases hr:mrkR (l.getD a default).len (l.getD a default).cuts (l.getD a default).dens an ad vn vd with
 | error c =>
  rw [hr] at k
  have k:K [] [] 0 0 c:=k
  rw [yJm]
  have hc:c≠0:=by
   intro hc
   subst hc
   unfold mrkR at hr
   split at hr
   ·split at hr
    ·unfold mrkC at hr
     split at hr
     ·cases hr
     ·have no:∀ (r i:Nat) (p v:Rat),mrkS (l.getD a default).cuts (l.getD a default).dens r i p v≠.error 0:=by
       intro r
       induction r with
       | zero=>intro i p v e;unfold mrkS at e;cases e
       | succ r ih =>
        intro i p v e
        unfold mrkS fit at e
        repeat' (first | split at e | dsimp only at e)
        all_goals first | exact ih _ _ _ e | cases e
      exact no _ _ _ _ hr
    ·cases hr
   ·rename_i h5;exact h5 (Except.error.inj hr)
  rw [cnT hc];exact k
 | ok p =>
  rw [hr] at k
  rw [yJl,cnF rfl]
  by_cases h3:lg.length≥2000
  ·rw [cbT (by omega)]
   have k:qryK l lg _ (if lg.length≥2000 then .error 4 else .ok p) K:=k
   rw [if_pos h3] at k;exact k
  ·have k:qryK l lg _ (if lg.length≥2000 then .error 4 else .ok p) K:=k
   rw [if_neg h3] at k
   have k:K (cks l) (lg++[qrow a 2 an ad vn vd p.num p.den]) p.num p.den 0:=k
   have e1:=wib (n:=(lg.length:Int)+1) (by omega) (by omega)
   have e2:((lg.length:Int)+1).toNat=lg.length+1:=by omega
   rw [cbF (by omega),e1,e2,asT (by omega),asT (by unfold room;omega),yAK hd.low (by have:=hd.n6;omega),hlg,yaM]
   rw [asT (by simp),asT (by omega)]
   cases hlg2:lg with
   | nil =>
    rw [List.isEmpty_nil,yan,asT (by simp),asT (by simp),asT (by simp),asT (by simp),asT (by simp)]
    rw [hlg2] at k
    exact k
   | cons x t =>
    rw [← hlg2,show List.isEmpty lg=false by rw [hlg2];rfl,yai,asT (by omega),asT (by simp),asT (by omega),asT (by omega),asT (by simp),asT (by omega)]
    rw [mk1 rfl]
    exact k
theorem yJo (cuts dens:List Int) (b:Rat):∀ (r i:Nat) (p v:Rat),valS cuts dens b r i p v≠.error 0:=by
 intro r
 induction r with
 | zero=>intro i p v e;unfold valS at e;cases e
 | succ r ih =>
  intro i p v e
  unfold valS fit at e
  repeat' (first | split at e | dsimp only at e)
  all_goals first | exact ih _ _ _ e | cases e
theorem yJp {len:Int} {cuts dens:List Int} {an ad vn vd:Int}:valR len cuts dens an ad vn vd≠.error 0:=by
 intro hr
 unfold valR at hr
 split at hr
 ·split at hr
  ·exact yJo _ _ _ _ _ _ _ hr
  ·cases hr
 ·rename_i h5;exact h5 (Except.error.inj hr)
theorem yHZ (hf:finC l) (hl:l.length<4611686018427387904) {lg:List PV} (hlg:ydw 8 lg=true) {agent an ad vn vd:Int} (ha:I64 an) (ha':I64 ad) (hv:I64 vn) (hv':I64 vd) (K) :
  yam (cks l) lg agent an ad vn vd K=qryK l lg (fun p=>qrow agent 1 an ad vn vd p.num p.den) (qryR l lg.length agent (Ck.value an ad vn vd)) K:=by
 refine yKR (fun r0 r1 r2 r3 r4 h K=>yzP _ _ _ _ _ _ _ r0 r1 r2 r3 r4 h K) (fun K k=>?_) K
 unfold yam ymI
 unfold qryR at k
 rw [ypD hf hl]
 by_cases h:yif l lg.length=0
 case neg=>rw [cnT h];rw [if_neg h] at k;exact k
 obtain ⟨hd,hm⟩:=ym9 h
 rw [if_pos h] at k
 rw [cnF h,yFH]
 by_cases h2:0≤agent∧agent<l.length
 case neg=>rw [decide_eq_false h2,qBk,yan];rw [if_neg h2] at k;exact k
 rw [if_pos h2] at k
 obtain ⟨a,rfl⟩:∃ a:Nat,agent=a:=⟨agent.toNat,by omega⟩
 have ha2:a<l.length:=by omega
 rw [qAe] at k
 obtain ⟨f1,f2⟩:=hf a ha2
 rw [decide_eq_true h2,qBq,yai,ygj,yfM,ycg,qAe,yhP ha2,asT (by omega),asT (by omega),asCk,ck0,ck1,ck2,yHX (by omega) (by omega) ha ha' hv hv']
 have em:Ck.value an ad vn vd (l.getD a default)=valR (l.getD a default).len (l.getD a default).cuts (l.getD a default).dens an ad vn vd:=rfl
 rw [em] at k
 cases hr:valR (l.getD a default).len (l.getD a default).cuts (l.getD a default).dens an ad vn vd with
 | error c =>
  rw [hr] at k
  have k:K [] [] 0 0 c:=k
  rw [yJm]
  have hc:c≠0:=fun hc=>yJp (hc ▸ hr)
  rw [cnT hc];exact k
 | ok p =>
  rw [hr] at k
  rw [yJl,cnF rfl]
  by_cases h3:lg.length≥2000
  ·rw [cbT (by omega)]
   have k:qryK l lg _ (if lg.length≥2000 then .error 4 else .ok p) K:=k
   rw [if_pos h3] at k;exact k
  ·have k:qryK l lg _ (if lg.length≥2000 then .error 4 else .ok p) K:=k
   rw [if_neg h3] at k
   have k:K (cks l) (lg++[qrow a 1 an ad vn vd p.num p.den]) p.num p.den 0:=k
   have e1:=wib (n:=(lg.length:Int)+1) (by omega) (by omega)
   have e2:((lg.length:Int)+1).toNat=lg.length+1:=by omega
   rw [cbF (by omega),e1,e2,asT (by omega),asT (by unfold room;omega),yAK hd.low (by have:=hd.n6;omega),hlg,yaM]
   rw [asT (by simp),asT (by omega)]
   cases hlg2:lg with
   | nil =>
    rw [List.isEmpty_nil,yan,asT (by simp),asT (by simp),asT (by simp),asT (by simp),asT (by simp)]
    rw [hlg2] at k
    exact k
   | cons x t =>
    rw [← hlg2,show List.isEmpty lg=false by rw [hlg2];rfl,yai,asT (by omega),asT (by simp),asT (by omega),asT (by omega),asT (by simp),asT (by omega)]
    rw [mk1 rfl]
    exact k
def ysl (l:List Ck):Bool:=l.any (fun c=>decide (c.cuts.length>60)||decide (c.dens.length>60))||decide (l.length>10)
theorem yH0 {len:Int} {cuts dens:List Int} (K:Bool→Prop):ye8 len (ints cuts) (ints dens) K=K (decide (cuts.length>60)||decide (dens.length>60)):=by
 unfold ye8 ymN
 rw [ybh,ybh]
 by_cases h:cuts.length>60
 ·rw [cbT (by omega),decide_eq_true h];rfl
 ·rw [cbF (by omega),decide_eq_false h,Bool.false_or]
  congr 1;rw [decide_eq_decide];omega
theorem ynG (hl:l.length≤9223372036854775807) (K:Bool→Prop) :
  ∀ (r i n:Nat),i+r=l.length→r<n→ybN ye8 (fun a=>(K a)) (fun b d e=>(K (decide ((((List.length b):Nat):Int)>(10:Int))))) n (cks l) i =
   K ((l.drop i).any (fun c=>decide (c.cuts.length>60)||decide (c.dens.length>60))||decide (l.length>10))
 | 0,i,n+1,hi,hn=>by
  unfold ybN
  rw [ycg,cbF (by omega),qA5 (by omega)]
  show K _=K (false||_)
  rw [Bool.false_or]
  congr 1;rw [decide_eq_decide];omega
 | r+1,i,n+1,hi,hn=>by
  unfold ybN
  have e1:=wib (n:=(i:Int)+1) (by omega) (by omega)
  rw [ycg,cbT (by omega),qAe,yhP (by omega),asT (by omega),asT (by omega),asCk,ck0,ck1,ck2,yH0,ybc default (by omega),List.any_cons,e1,ydC]
  cases hb:(decide ((l.getD i default).cuts.length>60)||decide ((l.getD i default).dens.length>60)) with
  | true=>rw [yan];rfl
  | false=>rw [yai,Bool.false_or];exact ynG hl K r (i+1) n (by omega) (by omega)
theorem yz0 (hl:l.length≤9223372036854775807) (K:Bool→Prop):yda (cks l) K=K (ysl l):=by
 refine ysa _ _ (fun K k=>?_) K
 unfold yda yg8
 refine ⟨l.length+1,?_⟩
 have:=ynG hl K l.length 0 (l.length+1) (by omega) (by omega)
 rw [show ((0:Nat):Int)=0 from rfl,qBe] at this
 rw [this];exact k
theorem yFI (h:ysl l=false):l.length≤10∧lowC l∧finC l:=by
 unfold ysl at h
 simp only [qB0,decide_eq_false_iff_not,List.any_eq_false,Bool.not_eq_true,Nat.not_lt] at h
 have hh:∀ i,i<l.length→(l.getD i default).cuts.length≤60∧(l.getD i default).dens.length≤60:=by
  intro i hi
  have hm:l.getD i default∈l:=by rw [qAd,qAb hi];exact qB6 hi
  have:=h.1 _ hm
  omega
 exact ⟨by omega,fun i hi=>⟨by have:=hh i hi;omega,by have:=hh i hi;omega⟩,fun i hi=>⟨by have:=hh i hi;omega,by have:=hh i hi;omega⟩⟩
theorem yH1 {n d:Int} (hn:-1000000000000000000≤n∧n≤1000000000000000000) (hd:1≤d∧d≤1000000000000000000):small ((n:Rat) / (d:Rat)):=by
 have e:(n:Rat) / (d:Rat)=mkRat n d.toNat:=by
  rw [Rat.mkRat_eq_div]
  have h1:((d.toNat:Nat):Int)=d:=by omega
  have h2:((d.toNat:Nat):Rat)=(d:Rat):=by rw [← Rat.intCast_natCast,h1]
  rw [h2]
 rw [e]
 unfold small
 rw [Rat.num_mkRat,Rat.den_mkRat,if_neg (by omega),if_neg (by omega)]
 have g0:0<d.toNat.gcd n.natAbs:=Nat.gcd_pos_of_pos_left _ (by omega)
 have h1:(n / (d.toNat.gcd n.natAbs:Nat)).natAbs≤n.natAbs:=by
  rw [Int.natAbs_ediv_of_dvd,Int.natAbs_natCast]
  ·exact Nat.div_le_self _ _
  ·rw [← Int.dvd_natAbs,Int.ofNat_dvd];exact Nat.gcd_dvd_right _ _
 have h2:d.toNat / d.toNat.gcd n.natAbs≤d.toNat:=Nat.div_le_self _ _
 generalize n / (d.toNat.gcd n.natAbs:Nat)=x at *
 generalize d.toNat / d.toNat.gcd n.natAbs=y at *
 omega
end
theorem rne {D:Int} (h:1≤D):(D:Rat)≠0:=fun e=>by have:=Rat.intCast_eq_zero_iff.1 e;omega
section
variable {len:Int} {cuts dens:List Int}
def rem (cuts dens:List Int):Nat→Nat→Int
 | 0,_=>0
 | r+1,i=>dens.getD i 0*(cuts.getD (i+1) 0-cuts.getD i 0)+rem cuts dens r (i+1)
theorem yyX (cuts dens:List Int):∀ (r i:Nat) (s:Int),totS cuts dens r i s=s+rem cuts dens r i
 | 0,i,s=>by unfold totS rem;omega
 | r+1,i,s=>by unfold totS rem;rw [yyX cuts dens r (i+1)];omega
theorem yAL (h:VC len cuts dens):∀ (r i:Nat),i+r=dens.length→0≤rem cuts dens r i∧rem cuts dens r i≤12*(len-cuts.getD i 0)
 | 0,i,hi=>by
  have:=h.l1
  have:=h.hi (i:=i) (by omega)
  unfold rem;omega
 | r+1,i,hi=>by
  unfold rem
  have l1:=h.l1
  have h2:=h.step (i:=i) (by omega)
  have h3:=yGz (h.den (i:=i) (by omega)) (x:=cuts.getD (i+1) 0-cuts.getD i 0) (by omega)
  have:=yAL h r (i+1) (by omega)
  omega
theorem yGF (h:VC len cuts dens):∀ (r i:Nat),i+r=dens.length→(∃ j,i≤j∧j<dens.length∧0<dens.getD j 0)→0<rem cuts dens r i
 | 0,i,hi,⟨j,h1,h2,_⟩=>by omega
 | r+1,i,hi,⟨j,h1,h2,h3⟩=>by
  unfold rem
  have l1:=h.l1
  have s:=h.step (i:=i) (by omega)
  have m:=yGz (h.den (i:=i) (by omega)) (x:=cuts.getD (i+1) 0-cuts.getD i 0) (by omega)
  have b:=yAL h r (i+1) (by omega)
  by_cases e:j=i
  ·subst e
   have:=Int.mul_pos h3 (show 0<cuts.getD (j+1) 0-cuts.getD j 0 by omega)
   omega
  ·have:=yGF h r (i+1) (by omega) ⟨j,by omega,h2,h3⟩
   omega
theorem yJq (h:VC len cuts dens):0<totC cuts dens:=by
 unfold totC
 rw [yyX]
 obtain ⟨d,hd,h0⟩:=h.2.2.2.2.2.2.2.2.2
 obtain ⟨j,hj,e⟩:=List.mem_iff_getElem.1 hd
 have:=yGF h dens.length 0 (by omega) ⟨j,by omega,hj,by rw [qAd,qAb hj];simpa [e] using h0⟩
 omega
end
structure Qy where
 agent:Int
 kind:Int
 an:Int
 ad:Int
 bn:Int
 bd:Int
 cn:Int
 cd:Int
 deriving DecidableEq
instance:Inhabited Qy:=⟨⟨0,0,0,0,0,0,0,0⟩⟩
def encQ (q:Qy):PV:=qrow q.agent q.kind q.an q.ad q.bn q.bd q.cn q.cd
def logs (l:List Qy):List PV:=l.map encQ
theorem ycR (l:List Qy):(logs l).length=l.length:=qAx ..
theorem yGG {l:List Qy} {i:Nat} (h:i<l.length):List.getD (logs l) i .nils=encQ (l.getD i default):=by
 unfold logs
 rw [qAd,qAd,qBf,qAb h]
 rfl
theorem yAM (l:List Qy):ydw 8 (logs l)=true:=by cases l <;> rfl
theorem yEh (l m:List Qy):logs (l++m)=logs l++logs m:=List.map_append ..
theorem asQ {q:Qy} {P:Prop}:asr (conf (.agg [.i .i64,.i .u8,.i .i64,.i .i64,.i .i64,.i .i64,.i .i64,.i .i64]) (encQ q)) P=P:=rfl
theorem qeq (q r:Qy):((q.agent == r.agent)&&((q.kind == r.kind)&&((q.an == r.an)&&((q.ad == r.ad)&&((q.bn == r.bn)&&((q.bd == r.bd)&&((q.cn == r.cn)&&((q.cd == r.cd)&&true))))))))=decide (q=r):=by
 cases q;cases r
 rw [Bool.eq_iff_iff]
 simp
theorem yH2 {α:Type} [DecidableEq α] (d:α) {a b:List α} {i:Nat} (ha:i<a.length) (hb:i<b.length):decide (a.drop i=b.drop i)=(decide (a.getD i d=b.getD i d)&&decide (a.drop (i+1)=b.drop (i+1))):=by
 rw [ybc d ha,ybc d hb,Bool.eq_iff_iff]
 simp
theorem yqV {a b:List Qy} (hab:a.length=b.length) (hl:a.length<4611686018427387904) (K:Bool→Prop) :
  ∀ (r i n:Nat),i+r=a.length→r<n→ybI (fun d=>K d) (fun e f g h=>K true) n (logs a) (logs b) i=K (decide (a.drop i=b.drop i))
 | 0,i,n+1,hi,hn=>by
  unfold ybI
  rw [ycR,cbF (by omega),qA5 (by omega),qA5 (by omega)];rfl
 | r+1,i,n+1,hi,hn=>by
  unfold ybI
  have e1:=wib (n:=(i:Int)+1) (by omega) (by omega)
  rw [ycR,cbT (by omega),ycR,qAe,yGG (by omega),yGG (by omega),asT (by omega),asT (by omega),asQ,asT (by omega),asT (by omega),asQ,yH2 default (by omega) (by omega),e1,ydC]
  have q2:((yaa (yab (encQ (a.getD i default)) 0) == yaa (yab (encQ (b.getD i default)) 0))&&((yaa (yab (encQ (a.getD i default)) 1) == yaa (yab (encQ (b.getD i default)) 1))&&((yaa (yab (encQ (a.getD i default)) 2) == yaa (yab (encQ (b.getD i default)) 2))&&((yaa (yab (encQ (a.getD i default)) 3) == yaa (yab (encQ (b.getD i default)) 3))&&((yaa (yab (encQ (a.getD i default)) 4) == yaa (yab (encQ (b.getD i default)) 4))&&((yaa (yab (encQ (a.getD i default)) 5) == yaa (yab (encQ (b.getD i default)) 5))&&((yaa (yab (encQ (a.getD i default)) 6) == yaa (yab (encQ (b.getD i default)) 6))&&((yaa (yab (encQ (a.getD i default)) 7) == yaa (yab (encQ (b.getD i default)) 7))&&true))))))))=decide (a.getD i default=b.getD i default):=qeq (a.getD i default) (b.getD i default)
  have ih:=yqV hab hl K r (i+1) n (by omega) (by omega)
  refine (congrArg (fun c=>cbr (!c) (K false) (ybI (fun d=>K d) (fun e f g h=>K true) n (logs a) (logs b) ((i+1:Nat):Int))) q2).trans ?_
  cases decide (a.getD i default=b.getD i default) with
  | true=>rw [qBq,yai,qAy];exact ih
  | false=>rw [qBk,yan,qBj]
theorem yEi {a b:List Qy} (ha:a.length<4611686018427387904) (hb:b.length<4611686018427387904) (K:Bool→Prop):ycx (logs a) (logs b) K=K (decide (a=b)):=by
 refine yu6 _ _ _ (fun K k=>?_) K
 unfold ycx yir
 rw [ycR,ycR]
 by_cases h:a.length=b.length
 ·rw [cnF (by omega)]
  refine ⟨a.length+1,?_⟩
  have:=yqV h ha K a.length 0 (a.length+1) (by omega) (by omega)
  rw [show ((0:Nat):Int)=0 from rfl,qBe,qBe] at this
  exact this.mpr k
 ·rw [cnT (by omega)]
  rw [decide_eq_false (fun e=>h (by rw [e]))] at k;exact k
structure Sp where
 a:Int
 b:Int
 c:Int
 d:Int
 deriving DecidableEq
instance:Inhabited Sp:=⟨⟨0,0,0,0⟩⟩
def encS (s:Sp):PV:=.agg [.int .i64 s.a,.int .i64 s.b,.int .i64 s.c,.int .i64 s.d]
def ycS (l:List Sp):List PV:=l.map encS
def ypg (l:List (List Sp)):List PV:=l.map fun s=>.data (ycS s)
theorem ygD (l:List Sp):(ycS l).length=l.length:=qAx ..
theorem yph {l:List Sp} {i:Nat} (h:i<l.length):List.getD (ycS l) i .nils=encS (l.getD i default):=by
 unfold ycS
 rw [qAd,qAd,qBf,qAb h]
 rfl
theorem yyY (l:List (List Sp)):(ypg l).length=l.length:=qAx ..
theorem yH3 {l:List (List Sp)} {i:Nat} (h:i<l.length):List.getD (ypg l) i .nils=.data (ycS (l.getD i [])):=by
 unfold ypg
 rw [qAd,qAd,qBf,qAb h]
 rfl
theorem asS {s:Sp} {P:Prop}:asr (conf z4 (encS s)) P=P:=rfl
theorem asD {r:List PV} {P:Prop}:asr (conf zD (.data r)) P=P:=rfl
theorem yyZ {s:List Sp} (hl:s.length<4611686018427387904) (K:Bool→Prop) :
  ∀ (r i n:Nat),i+r=s.length→r<n→ydP (fun a=>(K a)) (fun b c d e=>(K true)) n (ycS s) (ycS s) i=K true
 | 0,i,n+1,hi,hn=>by
  unfold ydP
  rw [ygD,cbF (by omega)]
 | r+1,i,n+1,hi,hn=>by
  unfold ydP
  have e1:=wib (n:=(i:Int)+1) (by omega) (by omega)
  rw [ygD,cbT (by omega),qAe,yph (by omega),asT (by omega),asT (by omega),asS,asT (by omega),asT (by omega),asS,e1,ydC]
  simp only [beq_self_eq_true,Bool.and_self,qBq,yai]
  exact yyZ hl K r (i+1) n (by omega) (by omega)
theorem yFJ {s:List Sp} (hl:s.length<4611686018427387904) (K:Bool→Prop):ydz (ycS s) (ycS s) K=K true:=by
 refine yCo _ _ _ (fun K k=>?_) K
 unfold ydz yoO
 rw [cnF rfl]
 refine ⟨s.length+1,?_⟩
 exact (yyZ hl K s.length 0 (s.length+1) (by omega) (by omega)).mpr k
theorem yy0 {l:List (List Sp)} (hf:∀ i,i<l.length→(l.getD i []).length<4611686018427387904) (hl:l.length<4611686018427387904) (K:Bool→Prop) :
  ∀ (r i n:Nat),i+r=l.length→r<n→ydQ ydz (fun a=>(K a)) (fun b c d e=>(K true)) n (ypg l) (ypg l) i=K true
 | 0,i,n+1,hi,hn=>by
  unfold ydQ
  rw [yyY,cbF (by omega)]
 | r+1,i,n+1,hi,hn=>by
  unfold ydQ
  have e1:=wib (n:=(i:Int)+1) (by omega) (by omega)
  rw [yyY,cbT (by omega),qAe,yH3 (by omega),asT (by omega),asT (by omega),asD,asT (by omega),asT (by omega),asD]
  show ydz (ycS (l.getD i [])) (ycS (l.getD i [])) _=_
  rw [yFJ (hf i (by omega)),qBq,yai,e1,ydC]
  exact yy0 hf hl K r (i+1) n (by omega) (by omega)
theorem yFK {l:List (List Sp)} (hf:∀ i,i<l.length→(l.getD i []).length<4611686018427387904) (hl:l.length<4611686018427387904) (K:Bool→Prop):ygk (ypg l) (ypg l) K=K true:=by
 refine yCp _ _ _ (fun K k=>?_) K
 unfold ygk yoQ
 rw [cnF rfl]
 refine ⟨l.length+1,?_⟩
 exact (yy0 hf hl K l.length 0 (l.length+1) (by omega) (by omega)).mpr k
def getR (e:Except Int Rat):Rat:=match e with | .ok q=>q | .error _=>0
theorem yGH {e:Except Int Rat} {q:Rat} (h:e=.ok q):e=.ok (getR e)∧getR e=q:=by subst h;exact ⟨rfl,rfl⟩
def dsC:DS:=.a [.i .i64,.s (.i .i64),.s (.i .i64)]
theorem yGI {n:Int} (h:inK .i64 n):I64 n:=by
 have e1:IntKind.i64.min=-9223372036854775808:=by decide
 have e2:IntKind.i64.max=9223372036854775807:=by decide
 unfold inK at h
 rw [e1,e2] at h
 exact h
theorem F_i {c:List PV} (h:HasF (.i .i64) c):∃ n,c=[.int .i64 n]∧I64 n:=by
 simp only [HasF] at h
 obtain ⟨n,e,k⟩:=h
 exact ⟨n,e,yGI k⟩
theorem yCE:∀ (rows:List PV),(∀ x∈rows,x.isAgg=(DS.i .i64).isA∧HasF (.i .i64) x.cells)→∃ l:List Int,rows=ints l∧∀ n∈l,I64 n
 | [],_=>⟨[],rfl,by simp⟩
 | x::r,h=>by
  obtain ⟨l,e,hl⟩:=yCE r (fun y hy=>h y (qAf _ hy))
  obtain ⟨h1,h2⟩:=h x (qAh ..)
  obtain ⟨n,e2,hn⟩:=F_i h2
  have ex:x=.int .i64 n:=by
   cases x <;> first | (simp only [PV.cells,qAv,and_true] at e2;exact e2) | (cases h1)
  refine ⟨n::l,by rw [ex,e];rfl,?_⟩
  intro m hm
  rcases qAn.1 hm with rfl | hm
  ·exact hn
  ·exact hl m hm
def Ck.i64 (c:Ck):Prop:=I64 c.len∧(∀ n∈c.cuts,I64 n)∧∀ n∈c.dens,I64 n
theorem F_c {c:List PV} (h:HasF dsC c):∃ k:Ck,c=[.int .i64 k.len,.data (ints k.cuts),.data (ints k.dens)]∧k.i64∧k.cuts.length≤9223372036854775807∧k.dens.length≤9223372036854775807:=by
 simp only [dsC,HasF,HasL] at h
 obtain ⟨c1,c2,rfl,⟨n,rfl,hn⟩,c3,c4,rfl,⟨r1,rfl,l1,h1⟩,c5,c6,rfl,⟨r2,rfl,l2,h2⟩,rfl⟩:=h
 obtain ⟨a,rfl,ha⟩:=yCE r1 (fun x hx=>⟨(h1 x hx).1,by simp only [HasF];exact (h1 x hx).2⟩)
 obtain ⟨b,rfl,hb⟩:=yCE r2 (fun x hx=>⟨(h2 x hx).1,by simp only [HasF];exact (h2 x hx).2⟩)
 rw [ybh] at l1 l2
 exact ⟨⟨n,a,b⟩,rfl,⟨yGI hn,ha,hb⟩,l1,l2⟩
theorem yLw {x:PV} {l:List DS} (h:x.isAgg=(DS.a l).isA):x=.agg x.cells:=by
 cases x <;> first | rfl | cases h
theorem yJr:∀ (rows:List PV),(∀ x∈rows,x.isAgg=dsC.isA∧HasF dsC x.cells)→∃ l:List Ck,rows=cks l∧∀ c∈l,c.i64
 | [],_=>⟨[],rfl,by simp⟩
 | x::r,h=>by
  obtain ⟨l,e,hl⟩:=yJr r (fun y hy=>h y (qAf _ hy))
  obtain ⟨h1,h2⟩:=h x (qAh ..)
  obtain ⟨k,e2,hk,_⟩:=F_c h2
  have ex:x=encC k:=by rw [yLw h1,e2];rfl
  refine ⟨k::l,by rw [ex,e];rfl,?_⟩
  intro m hm
  rcases qAn.1 hm with rfl | hm
  ·exact hk
  ·exact hl m hm
theorem yLX {c:List PV} (h:HasF (.s dsC) c):∃ l:List Ck,c=[.data (cks l)]∧l.length≤9223372036854775807∧∀ k∈l,k.i64:=by
 simp only [HasF] at h
 obtain ⟨rows,rfl,hl,hr⟩:=h
 obtain ⟨l,rfl,hi⟩:=yJr rows hr
 rw [ycg] at hl
 exact ⟨l,rfl,hl,hi⟩
theorem yH4 {x y:PV} (h:x.isAgg=false) (e:x.cells=[y]):x=y:=by
 cases x <;> first | (simp only [PV.cells,qAv,and_true] at e;exact e) | cases h
theorem yLY {az:List PV} (h:ysR [.s dsC] az):∃ (l:List Ck),az=[.data (cks l)]∧l.length≤9223372036854775807∧∀ k∈l,k.i64:=by
 simp only [ysR] at h
 obtain ⟨x,r,rfl,x1,x2,rfl⟩:=h
 obtain ⟨l,e1,hl,hi⟩:=yLX x2
 rw [yH4 x1 e1]
 exact ⟨l,rfl,hl,hi⟩
section
variable {l:List Ck}
def nts (r:List Nat):List PV:=ints (r.map fun n:Nat=>(n:Int))
theorem yGJ (r:List Nat):(nts r).length=r.length:=by unfold nts;rw [ybh,qAx]
theorem yLx {r:List Nat} {i:Nat} (h:i<r.length):List.getD (nts r) i .nils=.int .i64 (r.getD i 0):=by
 unfold nts
 rw [yCA (by rw [qAx];exact h)]
 rw [qAd,qBf,qAb h,qAd,qAb h]
 rfl
end
end Go.Pf.Vc
namespace Go.Pf.Vc
abbrev RS:Type:=Rat×Rat
def inS (s:RS) (p:Rat):Prop:=s.1≤p∧p<s.2
def memP (l:List RS) (p:Rat):Prop:=∃ s∈l,inS s p
def ygE:List RS→Prop
 | []=>True
 | s::r=>s.1<s.2∧(∀ t∈r,s.2<t.1)∧ygE r
theorem yjO {p:Rat}:¬memP [] p:=fun ⟨s,h,_⟩=>by cases h
theorem ybA {s:RS} {r:List RS} {p:Rat}:memP (s::r) p↔inS s p∨memP r p:=by
 constructor
 ·rintro ⟨t,h,hp⟩
  rcases qAn.1 h with rfl | h
  ·exact .inl hp
  ·exact .inr ⟨t,h,hp⟩
 ·rintro (h | ⟨t,h,hp⟩)
  ·exact ⟨s,qAh,h⟩
  ·exact ⟨t,qAf _ h,hp⟩
theorem yAN {s:RS} {r:List RS} (h:ygE (s::r)) {p:Rat} (hp:memP (s::r) p):s.1≤p:=by
 obtain ⟨h1,h2,_⟩:=h
 rcases ybA.1 hp with h | ⟨t,h,hp,_⟩
 ·exact h.1
 ·have:=h2 t h
  grind
theorem ysm {s:RS} {r:List RS} (h:ygE (s::r)) {p:Rat} (hp:memP r p):s.2<p:=by
 obtain ⟨t,ht,h1,_⟩:=hp
 have:=h.2.1 t ht
 grind
theorem yna {s:RS} {r:List RS} (h:ygE (s::r)):memP (s::r) s.1:=ybA.2 (.inl ⟨qA4,h.1⟩)
theorem yhj:∀ (a b:List RS),ygE a→ygE b→(∀ p,memP a p↔memP b p)→a=b
 | [],[],_,_,_=>rfl
 | [],t::b,_,hb,h=>(yjO ((h t.1).2 (yna hb))).elim
 | s::a,[],ha,_,h=>(yjO ((h s.1).1 (yna ha))).elim
 | s::a,t::b,ha,hb,h=>by
  have e1:s.1=t.1:=by
   have h1:=yAN hb ((h s.1).1 (yna ha))
   have h2:=yAN ha ((h t.1).2 (yna hb))
   grind
  have key:∀ (s t:RS) (a b:List RS),ygE (s::a)→ygE (t::b)→s.1=t.1→(∀ p,memP (s::a) p↔memP (t::b) p)→¬s.2<t.2:=by
   intro s t a b ha hb e h hlt
   have h1:=(h s.2).2 (ybA.2 (.inl ⟨by have:=ha.1;grind,hlt⟩))
   rcases ybA.1 h1 with h2 | h2
   ·have:=h2.2;grind
   ·have:=ysm ha h2;grind
  have e2:s.2=t.2:=by
   have h1:=key s t a b ha hb e1 h
   have h2:=key t s b a hb ha e1.symm fun p=>(h p).symm
   grind
  have e:s=t:=Prod.ext e1 e2
  subst e
  have hab:a=b:=by
   refine yhj a b ha.2.2 hb.2.2 fun p=>⟨fun hp=>?_,fun hp=>?_⟩
   ·have h1:=ysm ha hp
    rcases ybA.1 ((h p).1 (ybA.2 (.inr hp))) with h2 | h2
    ·have:=h2.2;grind
    ·exact h2
   ·have h1:=ysm hb hp
    rcases ybA.1 ((h p).2 (ybA.2 (.inr hp))) with h2 | h2
    ·have:=h2.2;grind
    ·exact h2
  rw [hab]
def maxR (a b:Rat):Rat:=if a<b then b else a
def mrg:List RS→RS→List RS
 | [],c=>[c]
 | s::r,c=>if c.2<s.1 then c::mrg r s else mrg r (c.1,maxR c.2 s.2)
def ysn:List RS→List RS
 | []=>[]
 | s::r=>mrg r s
def yso:List RS→Prop
 | []=>True
 | s::r=>(∀ t∈r,s.1≤t.1)∧yso r
end Go.Pf.Vc
