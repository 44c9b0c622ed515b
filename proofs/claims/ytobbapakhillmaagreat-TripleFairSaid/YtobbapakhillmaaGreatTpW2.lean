/- Part 2. -/
import Derived.Test.YtobbapakhillmaaGreatTpW1
noncomputable section
namespace Go.Pf
open Go
def yMe (H:Hp) (x:PV) (K:List PV→Prop):Prop :=
 match x with
 | .nils | .emp=>K []
 | .data rows=>K rows
 | .own id lo len ext _ =>
  (match H[id]? with
   | some b=>asr (decide (b.rows.length=ext)) (asr (decide (lo+len≤ext)) (K ((b.rows.drop lo).take len)))
   | none=>False)
 | _=>False
def yxX (H:Hp) (pu:Bool) (esz bytes:Nat) (rows:List PV) (K:PV→Hp→Prop):Prop :=
 asr (decide ((rows.length+64)*(bytes+1)≤room)) (K (.own H.length 0 rows.length rows.length none) (H++[⟨false,pu,esz,rows⟩]))
def WApp (md:Nat) (H:Hp) (pu:Bool) (esz bytes:Nat) (s:PV) (ys:List PV) (K:PV→Hp→Prop):Prop :=
 match s with
 | .nils=>cbr ys.isEmpty (K .nils H) (yxX H pu esz bytes ys K)
 | .emp=>cbr ys.isEmpty (K .emp H) (yxX H pu esz bytes ys K)
 | .own id lo len ext cap =>
  (match H[id]? with
   | some b =>
    asr (decide (b.rows.length=ext)) (asr (decide (b.pu=pu)&&decide (b.esz=esz)) (asr (decide (lo+len≤ext))
     (cbr ys.isEmpty (K (.own id lo len ext cap) H)
      (match cap with
       | some c =>
        let W1:=asr (!b.fz) (K (.own id lo (len+ys.length) ext cap) (H.set id { b with rows:=b.rows.take (lo+len)++(ys++b.rows.drop (lo+len+ys.length)) }))
        let W2:=yxX H pu esz bytes ((b.rows.drop lo).take len++ys) K
        (match md with
         | 9=>cbr (decide (len+ys.length≤c)) W1 W2
         | 8=>cbr (decide (len+ys.length≤c)) W1 W2
         | 2=>asr (!decide (len+ys.length≤c)) W2
         | _=>asr (decide (len+ys.length≤c)) W1)
       | none =>
        let W1:=K (.own id lo (len+ys.length) ext none) (H.set id { b with rows:=b.rows.take (lo+len)++(ys++b.rows.drop (lo+len+ys.length)) })
        let W3:=asr (decide (lo=0)) (asr (decide (len=ext)) (asr (decide ((ext+ys.length+64)*(bytes+1)≤room))
          (K (.own id 0 (b.rows++ys).length (b.rows++ys).length none) (H.set id { b with rows:=b.rows++ys }))))
        let W4:=asr (decide (lo=0)) (asr (decide (len≤ext)) (asr (decide ((len+ys.length+64)*(bytes+1)≤room))
          (K (.own id 0 (len+ys.length) (len+ys.length) none) (H.set id { b with rows:=b.rows.take len++ys }))))
        asr (!b.fz) (match md with
         | 9=>cbr (decide (lo+len+ys.length≤ext)) W1 W3
         | 8=>cbr (decide (lo+len+ys.length≤ext)) W1 W4
         | 1=>asr (decide (lo+len+ys.length≤ext)) W1
         | _=>asr (!decide (lo+len+ys.length≤ext)) W3)))))
   | none=>False)
 | _=>False
def yIE (H:Hp) (esz:Nat) (lo hi mx:Option Int) (x:PV) (K:PV→Prop):Prop :=
 match x with
 | .nils=>asr (decide (lo.getD 0=0)&&(decide (hi.getD 0=0)&&decide (mx.getD 0=0))) (K .nils)
 | .emp=>asr (decide (lo.getD 0=0)&&(decide (hi.getD 0=0)&&decide (mx.getD 0=0))) (K .emp)
 | .data rows =>
  let h:=hi.getD rows.length
  let l:=lo.getD 0
  (match mx with
   | none=>asr (decide (0≤l)) (asr (decide (l≤h)) (asr (decide (h≤rows.length)) (asr (decide (l=0)||yd6 esz rows) (K (.data ((rows.take h.toNat).drop l.toNat))))))
   | some m=>asr (decide (0≤l)) (asr (decide (l≤h)) (asr (decide (h≤m)) (asr (decide (m≤rows.length)) (asr (decide (l=0)||yd6 esz rows)
      (cbr (decide (l=m)) (K .emp) (K (.data ((rows.take h.toNat).drop l.toNat)))))))))
 | .own id lo0 len ext cap =>
  let h:=hi.getD len
  let l:=lo.getD 0
  (match H[id]? with
   | some b=>asr (b.esz == esz)
    (match mx with
     | none=>asr (decide (0≤l)) (asr (decide (l≤h)) (asr (decide (h≤len)||decide (h≤yAT len cap)) (K (.own id (lo0+l.toNat) (h-l).toNat ext (cap.map fun c=>c-l.toNat)))))
     | some m=>asr (decide (0≤l)) (asr (decide (l≤h)) (asr (decide (h≤m)) (asr (decide (m≤len)||decide (m≤yAT len cap)) (K (.own id (lo0+l.toNat) (h-l).toNat ext (some (m-l).toNat)))))))
   | none=>False)
 | _=>False
def WRow (sh:Sh) (rows:List PV) (i:Nat) (K:PV→Prop):Prop :=
 match sh with
 | .raw=>(match rows[i]? with | some r=>K r | none=>False)
 | sh=>asr (decide (i<rows.length)) (asr (conf sh (rows.getD i .nils)) (K (expl sh (rows.getD i .nils))))
def yMf:List Cs→Bool
 | []=>true
 | .i _::r=>yMf r
 | _=>false
def shL (sh:Sh) (esz sz:Nat):Sh :=
 match sh with
 | .agg l=>bif !(Nat.beq esz sz)&&(Nat.beq l.length sz&&yMf l) then .raw else .agg l
 | x=>x
def yMg:List Cs→Bool
 | []=>false
 | .d::_=>true
 | _::r=>yMg r
def shW (sh:Sh) (pu:Bool):Sh :=
 match sh with
 | .agg l=>bif !pu&&yMg l then .raw else .agg l
 | x=>x
def WOp (E:Env) (callK:CK) (a:An) (F:Frm) (H:Hp) (o:AOp) (K:OK):Prop :=
 match o with
 | .pick c x y =>
  (match evV E F c with
   | some (.bool t)=>cbr t (match evV E F x with | some p=>wv H K p | none=>False) (match evV E F y with | some p=>wv H K p | none=>False)
   | _=>False)
 | .bin op x y =>
  (match evV E F x,evV E F y with
   | some (.int k p),some (.int k' q)=>WBin op k k' p q (wv H K)
   | _,_=>False)
 | .load agg sz x =>
  (match ev E F x with
   | some (.v (.ptr id ext i off)) =>
    (match H[id]? with
     | some b=>asr (decide (b.rows.length=ext)) (WRow (shW (shL a.sh b.esz sz) b.pu) b.rows i fun row=>match yhn agg sz row off with | some p=>wv H K p | none=>False)
     | none=>False)
   | _=>(match yaB E yBx F H (.load agg sz x) with | some ⟨x,bx,H'⟩=>K x bx H' | none=>False))
 | .store sz x y =>
  (match ev E F x with
   | some (.v (.ptr id ext i off)) =>
    (match evV E F y with
     | some p =>
       (match H[id]? with
        | some b0 =>
         yBz b0.pu H p fun q H' =>
          (match H'[id]? with
           | some b=>asr (decide (b.rows.length=ext)) (asr (!b.fz) (WRow (shW a.sh b.pu) b.rows i fun row=>match ykZ row off sz q with
            | some row'=>K none none (H'.set id { b with rows:=b.rows.set i row' })
            | none=>False))
           | none=>False)
        | none=>False)
     | none=>False)
   | _=>(match yaB E yBx F H (.store sz x y) with | some ⟨x,bx,H'⟩=>K x bx H' | none=>False))
 | .iad esz x i =>
  (match evV E F x,yhB E F i with
   | some (.data rows),some n =>
    asr (decide (0≤n)) (asr (decide (n<rows.length)) (asr (conf a.sh (rows.getD n.toNat .nils)) (asr (decide ((expl a.sh (rows.getD n.toNat .nils)).cells.length=esz)) (wv H K (.eptr [expl a.sh (rows.getD n.toNat .nils)] 0 0)))))
   | some (.own id lo len ext _),some n =>
    (match H[id]? with
     | some b=>asr (decide (0≤n)) (asr (decide (n<len)) (asr (decide (b.esz=esz)) (wv H K (.ptr id ext (lo+n.toNat) 0))))
     | none=>False)
   | some (.sub id ext r off m e),some j=>asr (Nat.beq e esz) (yq6 m j (fun k=>wv H K (.ptr id ext r (off+k*esz))) m)
   | _,_=>False)
 | .iadA n esz x i =>
  (match ev E F x,yhB E F i with
   | some (.bp s o),some j=>yq6 n j (fun k=>K (some (.bp s (o+k*esz))) none H) n
   | some (.v (.ptr id e r o)),some j=>yq6 n j (fun k=>wv H K (.ptr id e r (o+k*esz))) n
   | some (.v (.eptr rows r o)),some j=>yq6 n j (fun k=>wv H K (.eptr rows r (o+k*esz))) n
   | _,_=>False)
 | .idx agg n esz x i =>
  (match evV E F x,yhB E F i with
   | some (.agg cs),some j=>(match x with
    | .c _=>WTab agg n esz cs j (wv H K)
    | _=>yq6 n j (fun k=>match yhn agg esz (.agg cs) (k*esz) with | some p=>wv H K p | none=>False) n)
   | _,_=>False)
 | .slc esz x lo hi mx =>
  (match evV E F x,evO E F lo,evO E F hi,evO E F mx with
   | some p,some l,some h,some m=>(match (m.isSome&&h.isNone) with | true=>False | false=>yIE H esz l h m p (wv H K))
   | _,_,_,_=>False)
 | .mkSl pu esz bytes z l c =>
  (match yhB E F l,yhB E F c with
   | some l,some c=>asr (decide (0≤l)) (asr (decide (l≤c)) (asr (decide ((c.toNat+64)*(bytes+1)≤room))
      (K (some (.v (.own H.length 0 l.toNat c.toNat (some c.toNat)))) none (H++[⟨false,pu,esz,List.replicate c.toNat z⟩]))))
   | _,_=>False)
 | .app pu esz bytes s x =>
  (match evV E F s,evV E F x with
   | some s,some x=>yMe H x fun ys=>asr (yd6 esz ys) (asr (yp2 H pu x) (WApp a.md H pu esz bytes s ys fun r H'=>K (some (.v r)) none H'))
   | _,_=>False)
 | .appZ pu esz bytes z s n =>
  (match evV E F s,yhB E F n with
   | some .nils,some k=>asr (decide (0≤k)) (cbr (decide (k.toNat=0)) (wv H K .nils) (yxX H pu esz bytes (List.replicate k.toNat z) fun r H'=>K (some (.v r)) none H'))
   | _,_=>False)
 | .eqN neg x =>
  (match evV E F x with
   | some .nils=>wv H K (.bool (bif neg then false else true))
   | some (.mt b)=>wv H K (.bool (bif neg then !b else b))
   | some (.data rows)=>asr (!rows.isEmpty) (wv H K (.bool neg))
   | some (.own _ _ _ _ _)=>wv H K (.bool neg)
   | _=>False)
 | .clr pu esz z x =>
  (match evV E F x with
   | some .nils=>wv H K (.tup [])
   | some .emp=>wv H K (.tup [])
   | some (.mt _)=>wv H K (.tup [])
   | some (.own id lo len ext _)=>(match H[id]? with
    | some b=>cbr (decide (len=0)) (wv H K (.tup [])) (asr (decide (b.rows.length=ext)) (asr (decide (lo+len≤ext)) (asr (!b.fz) (asr (b.pu == pu) (asr (Nat.beq b.esz esz) (K (some (.v (.tup []))) none (H.set id { b with rows:=b.rows.take lo++(List.replicate len z++b.rows.drop (lo+len)) })))))))
    | none=>False)
   | _=>False)
 | .boxH pu esz x =>
  (match evV E F x with
   | some p=>yBz pu H p fun q H'=>asr (Nat.beq q.cells.length esz&&yd5 q.cells) (K (some (.v (.ptr H'.length 1 0 0))) none (H'++[⟨false,pu,esz,[q]⟩]))
   | none=>False)
 | .bSl pu esz z len parts =>
  (match len with
   | 0=>wv H K .emp
   | len+1=>yEy E F pu esz (List.replicate (len+1) z) H parts fun rows H'=>K (some (.v (.own H'.length 0 (len+1) (len+1) (some (len+1))))) none (H'++[⟨false,pu,esz,rows⟩]))
 | .buildN pu esz z len parts =>
  (match len with
   | 0=>wv H K .emp
   | len+1=>yEy E F pu esz (List.replicate (len+1) z) H parts fun rows H'=>K (some (.v (.own H'.length 0 (len+1) (len+1) none))) none (H'++[⟨false,pu,esz,rows⟩]))
 | .bD esz z len parts =>
  (match len with
   | 0=>wv H K .emp
   | len+1=>yEy E F true esz (List.replicate (len+1) z) H parts fun rows H'=>K (some (.v (.data rows))) none H')
 | .mvD x =>
  (match evV E F x with
   | some p=>yHp H p fun q H'=>(match q with | .data rows=>K (some (.v (.data rows))) none H' | _=>False)
   | none=>False)
 | .call f args =>
  (match evV E F f,evs E F args with
   | some g,some vs=>callK g vs H fun r H'=>K (some (.v r)) none H'
   | _,_=>False)
 | o=>(match yaB E yBx F H o with | some ⟨x,bx,H'⟩=>K x bx H' | none=>False)
def frep:Frm→Nat→FV→Frm
 | [],_,_=>[]
 | (k,y)::r,s,x=>bif Nat.beq k s then (k,x)::r else (k,y)::frep r s x
def yFD (F:Frm) (g:Option (Nat×Bool)) (yes no:Frm→Prop):Prop :=
 match g with
 | none=>yes F
 | some (s,want)=>(match fget F s with
  | some (.v (.bool b))=>(match want with
   | true=>cbr b (yes (frep F s (.v (.bool true)))) (no (frep F s (.v (.bool false))))
   | false=>cbr b (no (frep F s (.v (.bool true)))) (yes (frep F s (.v (.bool false)))))
  | some (.v (.tup []))=>no F
  | _=>False)
def fref (F:Frm) (c:Opd) (b:Bool):Frm :=
 match c with
 | .t s=>frep F s (.v (.bool b))
 | _=>F
def ysG (F:Frm):Option Nat→Frm
 | some d=>fset F d (.v (.tup []))
 | none=>F
def frcP (p:PV) (K:PV→Prop):Prop :=
 match p with
 | .bool b=>K (.bool b)
 | .int k n=>K (.int k n)
 | .agg cs=>K (.agg cs)
 | .data r=>K (.data r)
 | .own a b c d e=>K (.own a b c d e)
 | .ptr a b c d=>K (.ptr a b c d)
 | .sub a b c d e f=>K (.sub a b c d e f)
 | p=>K p
def frcL:List PV→(List PV→Prop)→Prop
 | [],K=>K []
 | x::r,K=>frcP x fun x=>frcL r fun r=>K (x::r)
def frcA (p:PV) (K:PV→Prop):Prop :=
 match p with
 | .agg cs=>frcL cs fun cs=>K (.agg cs)
 | .tup cs=>frcL cs fun cs=>K (.tup cs)
 | p=>frcP p K
def frcV (x:FV) (K:FV→Prop):Prop :=
 match x with
 | .v p=>frcA p fun p=>K (.v p)
 | .box p=>frcA p fun p=>K (.box p)
 | .bp s o=>K (.bp s o)
def frcF:Frm→(Frm→Prop)→Prop
 | [],K=>K []
 | (k,x)::r,K=>frcV x fun x=>frcF r fun r=>K ((k,x)::r)
def frcB (b:Bool) (K:Bool→Prop):Prop:=match b with | true=>K true | false=>K false
def frcH:Hp→(Hp→Prop)→Prop
 | [],K=>K []
 | ⟨fz,pu,esz,rows⟩::r,K=>frcB fz fun fz=>frcB pu fun pu=>frcH r fun r=>K (⟨fz,pu,esz,rows⟩::r)
theorem yJH (p:PV) (K:PV→Prop):frcP p K=K p:=by cases p <;> rfl
theorem yJI:∀ (l:List PV) (K:List PV→Prop),frcL l K=K l
 | [],_=>rfl
 | x::r,K=>by simp only [frcL,yJH,yJI r]
theorem yNX (p:PV) (K:PV→Prop):frcA p K=K p:=by cases p <;> simp only [frcA,yJI,yJH]
theorem yNY (x:FV) (K:FV→Prop):frcV x K=K x:=by cases x <;> simp only [frcV,yNX]
theorem yJJ:∀ (F:Frm) (K:Frm→Prop),frcF F K=K F
 | [],_=>rfl
 | (k,x)::r,K=>by simp only [frcF,yNY,yJJ r]
theorem yNZ (b:Bool) (K:Bool→Prop):frcB b K=K b:=by cases b <;> rfl
theorem yJK:∀ (H:Hp) (K:Hp→Prop),frcH H K=K H
 | [],_=>rfl
 | ⟨fz,pu,esz,rows⟩::r,K=>by simp only [frcH,yNZ,yJK r]
def frc (F:Frm) (H:Hp) (K:Frm→Hp→Prop):Prop:=frcF F fun F=>frcH H fun H=>K F H
theorem yFE (F:Frm) (H:Hp) (K:Frm→Hp→Prop):frc F H K=K F H:=by simp only [frc,yJJ,yJK]
def WOps (E:Env) (callK:CK) (an:List An):List AO→Nat→Frm→Hp→(Frm→Hp→Prop)→Prop
 | [],_,F,H,K=>K F H
 | o::r,i,F,H,K =>
  yFD F o.guard
   (fun F=>WOp E callK (anOf an i) F H o.op fun x bx H'=>match yeC (ygr F bx) o.dst x with
    | none=>False
    | some F'=>frc F' H' fun F' H'=>WOps E callK an r (i+1) F' H' K)
   (fun F=>WOps E callK an r (i+1) (ysG F o.dst) H K)
def yMh (E:Env) (F:Frm) (f:Opd) (az:List Opd):Option (List Nat) :=
 match evV E F f,evs E F az with
 | some g,some vs=>(match ytq E g vs with
  | some x=>some (x.id::idsA (x.all.set x.j (.int .i64 0)))
  | none=>(match g with
   | .fn (.func n) first captured=>bif E.qui n then some (idsA (first++vs++captured)) else none
   | _=>none))
 | _,_=>none
def yzl (E:Env) (F:Frm) (H:Hp) (o:AOp):FP :=
 match o with
 | .call f az=>bif ygb E F f az then fpOp E F H (.call f az) else (match yMh E F f az with | some l=>⟨f.slots++yqZ az,[],List.range H.length,l,true,false⟩ | none=>fpOp E F H (.call f az))
 | o=>fpOp E F H o
def yJL (E:Env) (F:Frm) (H:Hp) (o:AO):FP :=
 let p:=yzl E F H o.op;⟨yxM o.guard++p.rd,o.dst.toList++p.wr,p.hr,p.hw,p.push,p.all⟩
def fpNo (o:AO):FP:=⟨yxM o.guard,o.dst.toList,[],[],false,false⟩
def WFps (E:Env) (callK:CK) (an:List An) (F0:Frm) (l0:List AO) (pairs:List (Nat×Nat)):List AO→Nat→Frm→Hp→List FP→(Frm→Hp→Prop)→Prop
 | [],_,F,H,ps,K=>asr (ylp ps.reverse pairs&&ysx F0 l0 l0) (K F H)
 | o::r,i,F,H,ps,K =>
  yFD F o.guard
   (fun F=>WOp E callK (anOf an i) F H o.op fun x bx H'=>match yiq (ygr F bx) o.dst x with
    | none=>False
    | some F'=>frc F' H' fun F' H'=>WFps E callK an F0 l0 pairs r (i+1) F' H' (yJL E F H o::ps) K)
   (fun F=>WFps E callK an F0 l0 pairs r (i+1) (ysG F o.dst) H (fpNo o::ps) K)
abbrev LP:=Nat→Frm→Frm→Hp→(Ex→Frm→Hp→Prop)→Prop
abbrev YK:=List PV→Hp→(Option Nat→Hp→Prop)→Prop
def noYK:YK:=fun _ _ _=>False
def WC (E:Env) (callK:CK) (lp:LP):Frm→YK→TC→Frm→Hp→(Ex→Frm→Hp→Prop)→Prop
 | _,_,.skip,F,H,Q=>Q .norm F H
 | _,_,.ops l an [] fg,F,H,Q=>WOps E callK an l 0 F H fun F' H'=>frc (fdels F' fg) H' fun F' H'=>Q .norm F' H'
 | _,_,.ops l an (p::ps) fg,F,H,Q=>WFps E callK an (yo3 F l) l (p::ps) l 0 (yo3 F l) H [] fun F' H'=>frc (fdels F' fg) H' fun F' H'=>Q .norm F' H'
 | G,yk,.seq a b,F,H,Q=>WC E callK lp G yk a F H fun x F' H'=>match x with
  | .norm=>WC E callK lp G yk b F' H' Q
  | .exit i=>Q (.exit i) F' H'
  | .ret=>Q .ret F' H'
  | .brk k i=>Q (.brk k i) F' H'
 | G,yk,.cond c a b,F,H,Q=>(match evV E F c with
  | some (.bool t)=>cbr t (WC E callK lp G yk a (fref F c true) H Q) (WC E callK lp G yk b (fref F c false) H Q)
  | _=>False)
 | G,yk,.block id b,F,H,Q=>WC E callK lp G yk b F H fun x F' H'=>match x with
  | .norm=>Q .norm F' H'
  | .exit i=>(bif Nat.beq i id then Q .norm F' H' else Q (.exit i) F' H')
  | .ret=>Q .ret F' H'
  | .brk k i=>Q (.brk k i) F' H'
 | G,_,.loop id _,F,H,Q=>lp id G F H Q
 | G,_,.lG id _,F,H,Q=>lp id G F H Q
 | G,_,.join id _,F,H,Q=>lp id G F H Q
 | _,_,.exit id,F,H,Q=>Q (.exit id) F H
 | _,_,.ret,F,H,Q=>Q .ret F H
 | _,_,.bad,_,_,_=>False
 | _,_,.cut _,_,_,_=>False
 | _,_,.rangeF _ _ _ _ _ _ _,_,_,_=>False
 | _,_,.yret _ _ _ _ _ _ _,_,_,_=>False
abbrev Qx:Type:=Ex→Frm→Hp→Prop
abbrev exQ (R:Frm→Hp→Prop) (Q:Qx):Qx:=fun x F' H'=>match x with | .norm=>R F' H' | .exit i=>Q (.exit i) F' H' | .ret=>Q .ret F' H' | .brk k i=>Q (.brk k i) F' H'
def WFn (E:Env) (callK:CK) (lp:LP) (fn:TFn) (args:List PV) (H:Hp) (K:PV→Hp→Prop):Prop :=
 asr (decide (args.length=fn.nparams)) (WC E callK lp [] noYK fn.body (ykC 0 args) H fun x F' H'=>match x with
  | .exit _ | .brk _ _=>False
  | .norm | .ret=>(match yjz F' H' fn.results with | some ps=>K (yjA ps) H' | none=>False))
structure SE where
 E:Env
 sumK:Nat→Option (List PV→(PV→Prop)→Prop)
 inl:Nat→Option TFn
 lp:LP
 sumL:Nat→Option (List PV→HB→(PV→List PV→Prop)→Prop)
def yFF (H:Hp) (x:PV) (K:PV→Hp→Prop):Prop :=
 match x with
 | .tup ps=>yBy H ps fun qs H'=>K (.tup qs) H'
 | x=>ytB H x K
def WLoc (wp:List PV→HB→(PV→List PV→Prop)→Prop) (x:LocC) (H:Hp) (K:PV→Hp→Prop):Prop :=
 yBy H (x.all.set x.j (.int .i64 0)) fun az H'=>match H'[x.id]? with
  | some b=>asr (!b.fz&&b.pu) (wp (az.set x.j x.y) b fun q rows=>K q (H'.set x.id { b with rows:=rows }))
  | none=>False
def ylD (S:SE):Nat→CK
 | 0,_,_,_,_=>False
 | d+1,f,args,H,K =>
  match f with
  | .fn (.func n) first captured =>
   (match ytq S.E f args with
   | some x=>(match S.sumL x.n with | some wp=>WLoc wp x H K | none=>False)
   | none =>
   match S.sumK n with
    | some wp=>(bif S.E.rb n then yFC (iceH H) (first++args++captured) fun az=>wp az fun r=>asr r.scalar (K r H)
     else yBy H (first++args++captured) fun az H'=>wp az fun r=>K r (bif r.scalar then H else H'))
    | none=>(match S.inl n with
     | some fn=>(bif S.E.rb n then False else WFn S.E (ylD S d) S.lp fn (first++args++captured) H K)
     | none=>(match S.E.eff n (first++args++captured) H with
      | some (c,t,x,y)=>asr c (cbr t (K x.1 x.2) (K y.1 y.2))
      | none=>False)))
  | _=>False
@[irreducible] def WPL (S:SE) (d:Nat) (fn:TFn) (args:List PV) (b:HB) (K:PV→List PV→Prop):Prop :=
 WFn S.E (ylD S d) S.lp fn args [b] fun r H=>yFF H r fun q H'=>match H'[0]? with
  | some b2=>asr (!b2.fz&&decide (b2.rows.length=b.rows.length)) (K q b2.rows)
  | none=>False
@[irreducible] def WP (S:SE) (d:Nat) (fn:TFn) (args:List PV) (K:PV→Prop):Prop :=
 WFn S.E (ylD S d) S.lp fn args [] fun r H=>yJF H r K
abbrev EP:=Nat→Env→Prop
def Like (E e:Env):Prop:=e={ E with yn:=e.yn,ctx:=e.ctx,yl:=e.yl }
def Uni (E:Env):EP:=fun _ e=>Like E e
def Solo (E:Env):EP:=fun _ e=>e=E
def Ats (E:Env):EP:=fun _ e=>e=E.ats (E.yn+1)
def Sub (P:EP) (E:Env):Prop:=∀ n e,P n e→Like E e
theorem Sub.uni (E:Env):Sub (Uni E) E:=fun _ _ h=>h
def hnd (E:Env) (G:Frm) (ps:List Nat) (az bd:AC) (n:Nat):Nat→List PV→Hp→Option (Option Nat×Hp):=fun y vs H=>(match yOD G ps vs with
 | some F1=>(match exec (E.ats y) n az F1 H with
  | some (.norm,F2,H2)=>(match exec (E.ats y) n bd F2 H2 with
   | some (.norm,_,H3)=>some (none,H3)
   | some (.exit i,_,H3)=>some (some i,H3)
   | _=>none)
  | _=>none)
 | none=>none)
def Rng (E:Env) (G:Frm) (ps:List Nat) (az bd:AC):EP:=fun n e=>e=E.push ⟨G,ps,az,bd⟩ (hnd E G ps az bd n)
def Good (P:EP) (callK:CK):Prop :=
 ∀ f args H K,callK f args H K→∃ r H',K r H'∧∃ m0,∀ n e m,m0≤n→P n e→m0≤m→ymJ e (ycp e m) f args H=some (r,H')
section
variable {E:Env} {y:Nat} {cx:Nat→Option LCtx} {yl:Nat→Nat→List PV→Hp→Option (Option Nat×Hp)}
theorem yAF (F:Frm) (x:Opd):ev { E with yn:=y,ctx:=cx,yl:=yl } F x=ev E F x:=by cases x <;> rfl
theorem yiv (F:Frm) (x:Opd):evV { E with yn:=y,ctx:=cx,yl:=yl } F x=evV E F x:=by simp only [evV,yAF]
theorem yq7 (F:Frm):∀ l:List Opd,evs { E with yn:=y,ctx:=cx,yl:=yl } F l=evs E F l
 | []=>rfl
 | x::r=>by simp only [evs,yiv,yq7 F r]
theorem yBA (F:Frm) (x:Opd):yhB { E with yn:=y,ctx:=cx,yl:=yl } F x=yhB E F x:=by simp only [yhB,yiv]
theorem yMi (F:Frm) (x:Option Opd):evO { E with yn:=y,ctx:=cx,yl:=yl } F x=evO E F x:=by cases x <;> simp only [evO,yBA]
theorem yBB (F:Frm):∀ (l:List (Nat×Nat×Opd)) (cs:List PV),ymI { E with yn:=y,ctx:=cx,yl:=yl } F cs l=ymI E F cs l
 | [],_=>rfl
 | (_,_,x)::r,cs=>by simp only [ymI,yiv,yBB F r]
theorem yBC (F:Frm) (pu:Bool) (esz:Nat):∀ (l:List (Nat×Opd)) (rows:List PV) (H:Hp),yip { E with yn:=y,ctx:=cx,yl:=yl } F pu esz rows H l=yip E F pu esz rows H l
 | [],_,_=>rfl
 | (_,x)::r,rows,H=>by simp only [yip,yiv,yBC F pu esz r]
theorem yzm (F:Frm) (x:Opd):yfl { E with yn:=y,ctx:=cx,yl:=yl } F x=yfl E F x:=by simp only [yfl,yAF]
theorem yIF (F:Frm) (x:Opd):yp3 { E with yn:=y,ctx:=cx,yl:=yl } F x=yp3 E F x:=by simp only [yp3,yAF]
theorem ytC (F:Frm):∀ l:List (Nat×Opd),yd4 { E with yn:=y,ctx:=cx,yl:=yl } F l=yd4 E F l
 | []=>rfl
 | (_,x)::r=>by simp only [yd4,yzm,ytC F r]
theorem yBD (F:Frm) (f:Opd) (az:List Opd):ygb { E with yn:=y,ctx:=cx,yl:=yl } F f az=ygb E F f az:=by simp only [ygb,yiv,yq7]
theorem yKY (F:Frm) (H:Hp) (o:AOp):fpOp { E with yn:=y,ctx:=cx,yl:=yl } F H o=fpOp E F H o:=by
 cases o <;> simp only [fpOp,yzm,yIF,ytC,yBD]
theorem yIG {F:Frm} {H:Hp} {o:AOp} (h:yjE o=false) (c1 c2:Nat→List PV→Hp→Option (PV×Hp)):yaB { E with yn:=y,ctx:=cx,yl:=yl } c1 F H o=yaB E c2 F H o:=by
 cases o <;> first | (simp [yjE] at h;done) | simp only [yaB,yAF,yiv,yq7,yBA,yMi,yBB,yBC]
end
def yJM (E:Env) (F:Frm) (H:Hp) (o:AOp) (K:OK):Prop :=
 ∃ out:Out,K out.x out.bx out.h∧∃ m0,∀ m,m0≤m→yaB E (ycp E m) F H o=some out
def yPa (P:EP) (F:Frm) (H:Hp) (o:AOp) (K:OK):Prop :=
 ∃ out:Out,K out.x out.bx out.h∧∃ m0,∀ n e m,m0≤n→P n e→m0≤m→yaB e (ycp e m) F H o=some out
section
variable {E:Env} {callK:CK} {F:Frm} {H:Hp} {K:OK}
theorem yHr {o:AOp} (h:yjE o=false) (c1 c2:Nat→List PV→Hp→Option (PV×Hp)):yaB E c1 F H o=yaB E c2 F H o:=by
 cases o <;> first | rfl | simp [yjE] at h
theorem yBE {o:AOp} (hc:yjE o=false) (h:match yaB E yBx F H o with | some ⟨x,bx,H'⟩=>K x bx H' | none=>False):yJM E F H o K:=by
 split at h
 ·rename_i x bx H' he
  exact ⟨⟨x,bx,H'⟩,h,0,fun m _=>by rw [yHr hc (ycp E m) yBx,he]⟩
 ·exact h.elim
theorem yBF {H:Hp} {x:PV} {K:PV→Hp→Prop} (h:yHp H x K):∃ y H',K y H'∧ygq H x=some (y,H'):=by
 unfold yHp at h
 split at h
 ·exact ⟨_,_,h,rfl⟩
 ·exact ⟨_,_,h,rfl⟩
 ·exact ⟨_,_,h,rfl⟩
 ·exact ⟨_,_,h,rfl⟩
 ·exact ⟨_,_,h,rfl⟩
 ·split at h
  ·rename_i b hb
   obtain ⟨h1,h⟩:=yaG.1 h
   obtain ⟨h2,h⟩:=yaG.1 h
   obtain ⟨h3,h⟩:=yaG.1 h
   exact ⟨_,_,h,by simp only [ygq,hb];rw [if_pos ⟨by simpa using h1,by simpa using h2,h3⟩]⟩
  ·exact h.elim
 ·exact h.elim
theorem yHs:∀ (l:List PV) (H:Hp) (K:List PV→Hp→Prop),yJE H l K→∃ ys H',K ys H'∧yff H l=some (ys,H')
 | [],H,K,h=>⟨_,_,h,rfl⟩
 | x::r,H,K,h=>by
  simp only [yJE] at h
  obtain ⟨y,H1,h,e1⟩:=yBF h
  obtain ⟨ys,H2,h,e2⟩:=yHs r H1 _ h
  exact ⟨_,_,h,by simp only [yff,e1,e2]⟩
theorem yom {H:Hp} {x:PV} {K:PV→Hp→Prop} (h:ytB H x K):∃ y H',K y H'∧ycK H x=some (y,H'):=by
 cases x with
 | agg cs =>
  simp only [ytB] at h
  obtain ⟨ys,H',h,e⟩:=yHs cs H _ h
  exact ⟨_,_,h,by simp only [ycK,e,Option.map]⟩
 | _ =>
  simp only [ytB] at h
  obtain ⟨y,H',h,e⟩:=yBF h
  exact ⟨_,_,h,by simp only [ycK,e]⟩
theorem yq8:∀ (l:List PV) (H:Hp) (K:List PV→Hp→Prop),yBy H l K→∃ ys H',K ys H'∧ybv H l=some (ys,H')
 | [],H,K,h=>⟨_,_,h,rfl⟩
 | x::r,H,K,h=>by
  simp only [yBy] at h
  obtain ⟨y,H1,h,e1⟩:=yom h
  obtain ⟨ys,H2,h,e2⟩:=yq8 r H1 _ h
  exact ⟨_,_,h,by simp only [ybv,e1,e2]⟩
theorem yMj {H:Hp} {x:PV} {K:PV→Prop} (h:yJG H x K):∃ y,K y∧purP H x=some y:=by
 have base:∀ {x:PV},ytB H x (fun q _=>K q)→∃ y,K y∧(match ycK H x with | some (q,_)=>some q | none=>none)=some y:=fun h=>by
  obtain ⟨y,H',h,e⟩:=yom h
  exact ⟨y,h,by simp only [e]⟩
 cases x with
 | ptr id ext i off =>
  simp only [yJG] at h
  split at h
  ·rename_i b hb
   obtain ⟨h1,h⟩:=yaG.1 h
   split at h
   ·rename_i row hrow
    obtain ⟨y,H',h,e⟩:=yom h
    exact ⟨_,h,by simp only [purP,hb,hrow,e];rw [if_pos (by simpa using h1)]⟩
   ·exact h.elim
  ·exact h.elim
 | eptr rows i off=>exact ⟨_,h,rfl⟩
 | _=>simp only [yJG] at h;exact base h
theorem yEz {H:Hp}:∀ (l:List PV) (K:List PV→Prop),yFC H l K→∃ ys,K ys∧yAU H l=some ys
 | [],K,h=>⟨_,h,rfl⟩
 | x::r,K,h=>by
  simp only [yFC] at h
  obtain ⟨y,h,e1⟩:=yMj h
  obtain ⟨ys,h,e2⟩:=yEz r _ h
  exact ⟨_,h,by simp only [yAU,e1,e2]⟩
theorem yMk {H:Hp} {x:PV} {K:PV→Prop} (h:yJF H x K):∃ q,K q∧purR H x=some q:=by
 cases x with
 | tup ps =>
  simp only [yJF] at h
  obtain ⟨ys,H',h,e⟩:=yq8 ps H _ h
  exact ⟨_,h,by simp only [purR,e]⟩
 | _ =>
  simp only [yJF] at h
  obtain ⟨y,H',h,e⟩:=yom h
  exact ⟨_,h,by simp only [purR,e]⟩
theorem yxY {pu:Bool} {H:Hp} {x:PV} {K:PV→Hp→Prop} (h:yBz pu H x K):∃ y H',K y H'∧(if pu then ycK H x else some (x,H))=some (y,H'):=by
 cases pu with
 | true=>simp only [yBz] at h;obtain ⟨y,H',h,e⟩:=yom h;exact ⟨y,H',h,by simpa using e⟩
 | false=>exact ⟨_,_,h,by simp⟩
theorem yv6 {pu:Bool} {esz:Nat}:∀ (l:List (Nat×Opd)) (rows:List PV) (H:Hp) (K:List PV→Hp→Prop),yEy E F pu esz rows H l K →
  ∃ rows' H',K rows' H'∧yip E F pu esz rows H l=some (rows',H')
 | [],rows,H,K,h=>⟨_,_,h,rfl⟩
 | (i,x)::r,rows,H,K,h=>by
  simp only [yEy] at h
  split at h
  ·rename_i p hp
   obtain ⟨q,H',h,e⟩:=yxY h
   obtain ⟨h1,h⟩:=yaG.1 h
   simp only [qAb] at h1
   obtain ⟨rows',H2,h,e2⟩:=yv6 r _ H' K h
   refine ⟨rows',H2,h,?_⟩
   simp only [yip,hp,e]
   rw [if_pos ⟨qAh h1.1.1,(show i+1≤rows.length from Nat.le_of_ble_eq_true h1.1.2),h1.2⟩]
   exact e2
  ·exact h.elim
theorem yN0 {op:BinOp} {k k':IntKind} {a b:Int} {K:PV→Prop} (h:WBin op k k' a b K):∃ r,K r∧binV op (.int k a) (.int k' b)=some r:=by
 cases op <;> simp only [WBin] at h
 case quo =>
  obtain ⟨h1,h2⟩:=yaG.1 h
  obtain ⟨h3,h4⟩:=yaG.1 h2
  have e1:k=k':=by simpa using h1
  have e2:¬b=0:=by simpa using h3
  exact ⟨_,h4,by simp [binV,e1,binI,e2]⟩
 case rem =>
  obtain ⟨h1,h2⟩:=yaG.1 h
  obtain ⟨h3,h4⟩:=yaG.1 h2
  have e1:k=k':=by simpa using h1
  have e2:¬b=0:=by simpa using h3
  exact ⟨_,h4,by simp [binV,e1,binI,e2]⟩
 case shl =>
  obtain ⟨h1,h2⟩:=yaG.1 h
  have e1:¬b<0:=by simpa using h1
  exact ⟨_,h2,by simp only [binV,yxJ,e1,if_false]⟩
 case shr =>
  obtain ⟨h1,h2⟩:=yaG.1 h
  have e1:¬b<0:=by simpa using h1
  exact ⟨_,h2,by simp only [binV,yxJ,e1,if_false]⟩
 all_goals
  obtain ⟨h1,h2⟩:=yaG.1 h
  have e1:k=k':=by simpa using h1
  split at h2
  ·rename_i r hr
   exact ⟨r,h2,by simp only [binV,e1,if_true];rw [← e1];exact hr⟩
  ·exact h2.elim
theorem ylh {n:Nat} {j:Int} {K:Nat→Prop}:∀ m,m≤n→yq6 n j K m→∃ k:Nat,K k∧j=(k:Int)∧k<n
 | 0,_,h=>h.elim
 | m+1,hm,h=>by
  simp only [yq6] at h
  obtain ⟨h1,h2⟩:=yg1.1 h
  by_cases hj:j=((n-(m+1):Nat):Int)
  ·exact ⟨_,h1 (by simpa using hj),hj,by omega⟩
  ·exact ylh m (by omega) (h2 (by simpa using hj))
theorem yEA:∀ (cs:List PV) (i:Nat),yHq cs=true→i<cs.length→cs[i]?=some (.int .u8 (yaa (cs.getD i .nils)))
 | [],i,_,h=>by simp at h
 | x::r,i,hu,hi=>by
  cases x with
  | int k n =>
   cases k <;> simp only [yHq,qAs] at hu
   cases i with
   | zero=>simp [yaa]
   | succ i=>have:=yEA r i hu (by simpa using hi);simpa using this
  | _=>simp [yHq] at hu
theorem yMl {x:PV} {K:List PV→Prop} (h:yMe H x K):∃ ys,K ys∧yhU H x=some ys:=by
 unfold yMe at h
 split at h
 ·exact ⟨_,h,rfl⟩
 ·exact ⟨_,h,rfl⟩
 ·exact ⟨_,h,rfl⟩
 ·split at h
  ·rename_i b hb
   obtain ⟨h1,h2⟩:=yaG.1 h
   obtain ⟨h3,h4⟩:=yaG.1 h2
   exact ⟨_,h4,by simp only [yhU,hb];rw [if_pos ⟨by simpa using h1,by simpa using h3⟩]⟩
  ·exact h.elim
 ·exact h.elim
theorem ysH {pu:Bool} {esz bytes:Nat} {rows:List PV} {K:PV→Hp→Prop} (h:yxX H pu esz bytes rows K):∃ r H',K r H'∧ydF H pu esz bytes rows=some (r,H'):=by
 obtain ⟨h1,h2⟩:=yaG.1 h
 exact ⟨_,_,h2,by simp only [ydF];rw [if_pos (by simpa using h1)]⟩
def appS (H:Hp) (pu:Bool) (esz bytes:Nat) (ys:List PV):PV→Option (PV×Hp)
 | .nils=>if ys.isEmpty then some (.nils,H) else ydF H pu esz bytes ys
 | .emp=>if ys.isEmpty then some (.emp,H) else ydF H pu esz bytes ys
 | .own id lo len ext cap =>
  (match H[id]? with
   | some b=>if b.rows.length=ext∧b.pu=pu∧b.esz=esz∧lo+len≤ext then
    (if ys.isEmpty then some (.own id lo len ext cap,H) else yho H pu esz bytes ys id lo len ext cap b) else none
   | none=>none)
 | _=>none
theorem yN1 {md:Nat} {pu:Bool} {esz bytes:Nat} {s x:PV} {ys:List PV} {K:PV→Hp→Prop} (hy:yhU H x=some ys) (hh:yd6 esz ys=true) (hs:yp2 H pu x=true) (h:WApp md H pu esz bytes s ys K) :
  ∃ r H',K r H'∧appV H pu esz bytes s x=some (r,H'):=by
 have e0:appV H pu esz bytes s x=appS H pu esz bytes ys s:=by
  simp only [appV,hy];rw [if_pos ⟨hh,hs⟩];cases s <;> rfl
 rw [e0]
 clear e0 hy hs
 unfold WApp at h
 split at h
 ·obtain ⟨h1,h2⟩:=yg1.1 h
  cases hE:ys.isEmpty with
  | true=>exact ⟨_,_,h1 hE,by simp [appS,hE]⟩
  | false =>
   obtain ⟨r,H',hk,hf⟩:=ysH (h2 hE)
   exact ⟨r,H',hk,by simp [appS,hE,hf]⟩
 ·obtain ⟨h1,h2⟩:=yg1.1 h
  cases hE:ys.isEmpty with
  | true=>exact ⟨_,_,h1 hE,by simp [appS,hE]⟩
  | false =>
   obtain ⟨r,H',hk,hf⟩:=ysH (h2 hE)
   exact ⟨r,H',hk,by simp [appS,hE,hf]⟩
 ·rename_i id lo len ext cap
  split at h
  ·rename_i b hb
   obtain ⟨h1,h⟩:=yaG.1 h
   obtain ⟨h2,h⟩:=yaG.1 h
   obtain ⟨h3,h⟩:=yaG.1 h
   simp only [qAb,decide_eq_true_eq] at h1 h2 h3
   obtain ⟨k1,k2⟩:=yg1.1 h
   have hc:b.rows.length=ext∧b.pu=pu∧b.esz=esz∧lo+len≤ext:=⟨h1,h2.1,h2.2,h3⟩
   cases hE:ys.isEmpty with
   | true=>exact ⟨_,_,k1 hE,by simp only [appS,hb];rw [if_pos hc];simp [hE]⟩
   | false =>
    have h:=k2 hE
    suffices ∃ r H',K r H'∧yho H pu esz bytes ys id lo len ext cap b=some (r,H') by
     obtain ⟨r,H',hk,hf⟩:=this
     exact ⟨r,H',hk,by simp only [appS,hb];rw [if_pos hc];simp [hE,hf]⟩
    cases cap with
    | some c =>
     simp only at h
     have key1:decide (len+ys.length≤c)=true→asr (!b.fz) (K (.own id lo (len+ys.length) ext (some c)) (H.set id { b with rows:=b.rows.take (lo+len)++(ys++b.rows.drop (lo+len+ys.length)) })) →
       ∃ r H',K r H'∧yho H pu esz bytes ys id lo len ext (some c) b=some (r,H'):=by
      intro e1 e2
      obtain ⟨e3,e4⟩:=yaG.1 e2
      refine ⟨_,_,e4,?_⟩
      simp only [yho]
      rw [if_pos (by simpa using e1),if_pos (by simpa using e3)]
     have key2:decide (len+ys.length≤c)=false→yxX H pu esz bytes ((b.rows.drop lo).take len++ys) K →
       ∃ r H',K r H'∧yho H pu esz bytes ys id lo len ext (some c) b=some (r,H'):=by
      intro e1 e2
      obtain ⟨r,H',hk,hf⟩:=ysH e2
      refine ⟨r,H',hk,?_⟩
      simp only [yho]
      rw [if_neg (by simpa using e1)]
      exact hf
     split at h
     ·obtain ⟨a1,a2⟩:=yg1.1 h
      cases hd:decide (len+ys.length≤c) with
      | true=>exact key1 hd (a1 hd)
      | false=>exact key2 hd (a2 hd)
     ·obtain ⟨a1,a2⟩:=yg1.1 h
      cases hd:decide (len+ys.length≤c) with
      | true=>exact key1 hd (a1 hd)
      | false=>exact key2 hd (a2 hd)
     ·obtain ⟨a1,a2⟩:=yaG.1 h;exact key2 (by simpa using a1) a2
     ·obtain ⟨a1,a2⟩:=yaG.1 h;exact key1 a1 a2
    | none =>
     simp only at h
     obtain ⟨hfz,h⟩:=yaG.1 h
     have hfz':¬b.fz=true:=by simpa using hfz
     have key1:decide (lo+len+ys.length≤ext)=true→K (.own id lo (len+ys.length) ext none) (H.set id { b with rows:=b.rows.take (lo+len)++(ys++b.rows.drop (lo+len+ys.length)) }) →
       ∃ r H',K r H'∧yho H pu esz bytes ys id lo len ext none b=some (r,H'):=by
      intro e1 e2
      refine ⟨_,_,e2,?_⟩
      simp only [yho]
      rw [if_neg hfz',if_pos (by simpa using e1)]
     have key3:decide (lo+len+ys.length≤ext)=false→asr (decide (lo=0)) (asr (decide (len=ext)) (asr (decide ((ext+ys.length+64)*(bytes+1)≤room))
        (K (.own id 0 (b.rows++ys).length (b.rows++ys).length none) (H.set id { b with rows:=b.rows++ys })))) →
       ∃ r H',K r H'∧yho H pu esz bytes ys id lo len ext none b=some (r,H'):=by
      intro e1 e2
      obtain ⟨e3,e2⟩:=yaG.1 e2
      obtain ⟨e4,e2⟩:=yaG.1 e2
      obtain ⟨e5,e2⟩:=yaG.1 e2
      simp only [decide_eq_true_eq] at e3 e4 e5
      refine ⟨_,_,e2,?_⟩
      simp only [yho]
      rw [if_neg hfz',if_neg (by simpa using e1),if_pos ⟨e3,by omega,by rw [e4];exact e5⟩]
      have e6:b.rows.take len=b.rows:=qBo (by omega)
      have e7:(b.rows++ys).length=len+ys.length:=by rw [qAi,h1,e4]
      rw [e6,e7]
     have key4:decide (lo+len+ys.length≤ext)=false→asr (decide (lo=0)) (asr (decide (len≤ext)) (asr (decide ((len+ys.length+64)*(bytes+1)≤room))
        (K (.own id 0 (len+ys.length) (len+ys.length) none) (H.set id { b with rows:=b.rows.take len++ys })))) →
       ∃ r H',K r H'∧yho H pu esz bytes ys id lo len ext none b=some (r,H'):=by
      intro e1 e2
      obtain ⟨e3,e2⟩:=yaG.1 e2
      obtain ⟨e4,e2⟩:=yaG.1 e2
      obtain ⟨e5,e2⟩:=yaG.1 e2
      simp only [decide_eq_true_eq] at e3 e4 e5
      refine ⟨_,_,e2,?_⟩
      simp only [yho]
      rw [if_neg hfz',if_neg (by simpa using e1),if_pos ⟨e3,e4,e5⟩]
     split at h
     ·obtain ⟨a1,a2⟩:=yg1.1 h
      cases hd:decide (lo+len+ys.length≤ext) with
      | true=>exact key1 hd (a1 hd)
      | false=>exact key3 hd (a2 hd)
     ·obtain ⟨a1,a2⟩:=yg1.1 h
      cases hd:decide (lo+len+ys.length≤ext) with
      | true=>exact key1 hd (a1 hd)
      | false=>exact key4 hd (a2 hd)
     ·obtain ⟨a1,a2⟩:=yaG.1 h;exact key1 a1 a2
     ·obtain ⟨a1,a2⟩:=yaG.1 h;exact key3 (by simpa using a1) a2
  ·exact h.elim
 ·exact h.elim
theorem yKZ {esz:Nat} {lo hi mx:Option Int} {x:PV} {K:PV→Prop} (h:yIE H esz lo hi mx x K):∃ r,K r∧yjx H esz lo hi mx x=some r:=by
 unfold yIE at h
 split at h
 ·obtain ⟨h1,h2⟩:=yaG.1 h
  simp only [qAb,decide_eq_true_eq] at h1
  exact ⟨_,h2,by simp only [yjx];rw [if_pos h1]⟩
 ·obtain ⟨h1,h2⟩:=yaG.1 h
  simp only [qAb,decide_eq_true_eq] at h1
  exact ⟨_,h2,by simp only [yjx];rw [if_pos h1]⟩
 ·rename_i rows
  simp only at h
  split at h
  ·obtain ⟨h1,h⟩:=yaG.1 h
   obtain ⟨h2,h⟩:=yaG.1 h
   obtain ⟨h3,h⟩:=yaG.1 h
   obtain ⟨h4,h⟩:=yaG.1 h
   simp only [qB4,decide_eq_true_eq] at h1 h2 h3 h4
   exact ⟨_,h,by simp only [yjx];rw [if_pos ⟨h1,h2,h3,h4⟩]⟩
  ·rename_i m
   obtain ⟨h1,h⟩:=yaG.1 h
   obtain ⟨h2,h⟩:=yaG.1 h
   obtain ⟨h3,h⟩:=yaG.1 h
   obtain ⟨h4,h⟩:=yaG.1 h
   obtain ⟨h5,h⟩:=yaG.1 h
   obtain ⟨k1,k2⟩:=yg1.1 h
   simp only [qB4,decide_eq_true_eq] at h1 h2 h3 h4 h5
   by_cases hl:lo.getD 0=m
   ·exact ⟨_,k1 (by simpa using hl),by simp only [yjx];rw [if_pos ⟨h1,h2,h3,h4,h5⟩,if_pos hl]⟩
   ·exact ⟨_,k2 (by simpa using hl),by simp only [yjx];rw [if_pos ⟨h1,h2,h3,h4,h5⟩,if_neg hl]⟩
 ·rename_i id lo0 len ext cap
  simp only at h
  split at h
  ·rename_i b hb
   obtain ⟨h0,h⟩:=yaG.1 h
   split at h
   ·obtain ⟨h1,h⟩:=yaG.1 h
    obtain ⟨h2,h⟩:=yaG.1 h
    obtain ⟨h3,h⟩:=yaG.1 h
    simp only [qB4,decide_eq_true_eq] at h1 h2 h3
    exact ⟨_,h,by simp only [yjx,hb,h0,Bool.true_eq_false,if_false];rw [if_pos ⟨h1,h2,h3⟩]⟩
   ·obtain ⟨h1,h⟩:=yaG.1 h
    obtain ⟨h2,h⟩:=yaG.1 h
    obtain ⟨h3,h⟩:=yaG.1 h
    obtain ⟨h4,h⟩:=yaG.1 h
    simp only [qB4,decide_eq_true_eq] at h1 h2 h3 h4
    exact ⟨_,h,by simp only [yjx,hb,h0,Bool.true_eq_false,if_false];rw [if_pos ⟨h1,h2,h3,h4⟩]⟩
  ·exact h.elim
 ·exact h.elim
theorem yJN {sh:Sh} {rows:List PV} {i:Nat} {K:PV→Prop} (h:WRow sh rows i K):∃ r,K r∧rows[i]?=some r:=by
 have key:asr (decide (i<rows.length)) (asr (conf sh (rows.getD i .nils)) (K (expl sh (rows.getD i .nils))))→∃ r,K r∧rows[i]?=some r:=by
  intro h
  obtain ⟨h1,h⟩:=yaG.1 h
  obtain ⟨h2,h⟩:=yaG.1 h
  have hi:i<rows.length:=by simpa using h1
  rw [yEx _ _ h2] at h
  refine ⟨_,h,?_⟩
  rw [qAc hi,qAa,qAc hi];rfl
 unfold WRow at h
 split at h
 ·split at h
  ·rename_i r hr;exact ⟨r,h,hr⟩
  ·exact h.elim
 ·exact key h
theorem yN2 {a:An} {o:AOp} (hc:yjE o=false) (h:WOp E callK a F H o K):yJM E F H o K:=by
 cases o
 case pick c x y =>
  simp only [WOp] at h
  split at h
  ·rename_i t ht
   obtain ⟨h1,h2⟩:=yg1.1 h
   cases t with
   | true =>
    have h:=h1 rfl
    split at h
    ·rename_i p hp;exact ⟨⟨some (.v p),none,H⟩,h,0,fun m _=>by simp only [yaB,ht,hp];rfl⟩
    ·exact h.elim
   | false =>
    have h:=h2 rfl
    split at h
    ·rename_i p hp;exact ⟨⟨some (.v p),none,H⟩,h,0,fun m _=>by simp only [yaB,ht,hp];rfl⟩
    ·exact h.elim
  ·exact h.elim
 case bin op x y =>
  simp only [WOp] at h
  split at h
  ·rename_i k p k' q hx hy
   obtain ⟨r,hk,hr⟩:=yN0 h
   exact ⟨⟨some (.v r),none,H⟩,hk,0,fun m _=>by simp only [yaB,hx,hy,hr];rfl⟩
  ·exact h.elim
 case eqN neg x =>
  simp only [WOp] at h
  split at h
  ·rename_i hx
   exact ⟨⟨some (.v (.bool (bif neg then false else true))),none,H⟩,h,0,fun m _=>by simp only [yaB,hx];cases neg <;> rfl⟩
  ·rename_i b hx
   exact ⟨⟨some (.v (.bool (bif neg then !b else b))),none,H⟩,h,0,fun m _=>by simp only [yaB,hx];cases neg <;> rfl⟩
  ·rename_i rows hx
   obtain ⟨h1,h⟩:=yaG.1 h
   cases rows with
   | nil=>simp at h1
   | cons q l=>exact ⟨⟨some (.v (.bool neg)),none,H⟩,h,0,fun m _=>by simp only [yaB,hx];cases neg <;> rfl⟩
  ·rename_i hx
   exact ⟨⟨some (.v (.bool neg)),none,H⟩,h,0,fun m _=>by simp only [yaB,hx];cases neg <;> rfl⟩
  ·exact h.elim
 case load agg sz x =>
  simp only [WOp] at h
  split at h
  ·rename_i id ext i off hx
   split at h
   ·rename_i b hb
    obtain ⟨h1,h⟩:=yaG.1 h
    obtain ⟨row,h,hr⟩:=yJN h
    split at h
    ·rename_i p hp
     exact ⟨⟨some (.v p),none,H⟩,h,0,fun m _=>by simp only [yaB,hx,hb];rw [if_pos (by simpa using h1)];simp only [hr,hp];rfl⟩
    ·exact h.elim
   ·exact h.elim
  ·exact yBE rfl h
 case store sz x y =>
  simp only [WOp] at h
  split at h
  ·rename_i id ext i off hx
   split at h
   ·rename_i p hp
    split at h
    ·rename_i b0 hb0
     obtain ⟨q,H',h,hq⟩:=yxY h
     split at h
     ·rename_i b hb
      obtain ⟨h1,h⟩:=yaG.1 h
      obtain ⟨h2,h⟩:=yaG.1 h
      obtain ⟨row,h,hr⟩:=yJN h
      split at h
      ·rename_i row' hrow
       refine ⟨⟨none,none,H'.set id { b with rows:=b.rows.set i row' }⟩,h,0,fun m _=>?_⟩
       have e1:b.rows.length=ext:=by simpa using h1
       have e2:b.fz=false:=by simpa using h2
       simp only [yaB,hp,hx,hb0,hq,hb,hr,hrow]
       rw [if_pos ⟨e1,e2⟩]
      ·exact h.elim
     ·exact h.elim
    ·exact h.elim
   ·exact h.elim
  ·exact yBE rfl h
 case iad esz x i =>
  simp only [WOp] at h
  split at h
  ·rename_i rows n hx hi
   obtain ⟨h1,h⟩:=yaG.1 h
   obtain ⟨h2,h⟩:=yaG.1 h
   obtain ⟨h3,h⟩:=yaG.1 h
   obtain ⟨h4,h⟩:=yaG.1 h
   simp only [decide_eq_true_eq] at h1 h2
   rw [yEx _ _ h3] at h h4
   have hlt:n.toNat<rows.length:=by omega
   have e:rows[n.toNat]?=some (rows.getD n.toNat .nils):=by
    rw [qAc hlt,qAa,qAc hlt];rfl
   refine ⟨⟨_,_,_⟩,h,0,fun m _=>?_⟩
   simp only [yaB,hx,hi]
   rw [if_pos ⟨h1,h2⟩]
   simp only [e]
   rw [if_pos (by simpa using h4)]
   rfl
  ·rename_i id lo len ext cap n hx hi
   split at h
   ·rename_i b hb
    obtain ⟨h1,h⟩:=yaG.1 h
    obtain ⟨h2,h⟩:=yaG.1 h
    obtain ⟨h3,h⟩:=yaG.1 h
    simp only [decide_eq_true_eq] at h1 h2 h3
    refine ⟨⟨_,_,_⟩,h,0,fun m _=>?_⟩
    simp only [yaB,hx,hi]
    rw [if_pos ⟨h1,h2⟩]
    simp only [hb]
    rw [if_pos h3]
    rfl
   ·exact h.elim
  ·rename_i id ext r off mm e j hx hi
   obtain ⟨h1,h⟩:=yaG.1 h
   have h1:e=esz:=qAh h1
   subst h1
   obtain ⟨k,h',rfl,hk⟩:=ylh mm (qAm _) h
   clear h
   refine ⟨⟨_,_,_⟩,h',0,fun m _=>?_⟩
   simp only [yaB,hx,hi]
   rw [if_pos ⟨by omega,by omega,by trivial⟩]
   simp [outV]
  ·exact h.elim
 case iadA n esz x i =>
  simp only [WOp] at h
  split at h
  ·rename_i s o j hx hi
   obtain ⟨k,h',rfl,hk⟩:=ylh n (qAm _) h
   clear h
   refine ⟨⟨_,_,_⟩,h',0,fun m _=>?_⟩
   simp only [yaB,hx,hi]
   rw [if_pos ⟨by omega,by omega⟩]
   simp
  ·rename_i id e r o j hx hi
   obtain ⟨k,h',rfl,hk⟩:=ylh n (qAm _) h
   clear h
   refine ⟨⟨_,_,_⟩,h',0,fun m _=>?_⟩
   simp only [yaB,hx,hi]
   rw [if_pos ⟨by omega,by omega⟩]
   simp [outV]
  ·rename_i rows r o j hx hi
   obtain ⟨k,h',rfl,hk⟩:=ylh n (qAm _) h
   clear h
   refine ⟨⟨_,_,_⟩,h',0,fun m _=>?_⟩
   simp only [yaB,hx,hi]
   rw [if_pos ⟨by omega,by omega⟩]
   simp [outV]
  ·exact h.elim
 case idx agg n esz x i =>
  simp only [WOp] at h
  split at h
  ·rename_i cs j hx hi
   split at h
   ·obtain ⟨h0,k0⟩:=yaG.1 h
    obtain ⟨h1,k1⟩:=yaG.1 k0
    obtain ⟨h2,k2⟩:=yaG.1 k1
    clear h k0 k1
    simp only [qAb,decide_eq_true_eq,qAx] at h0 h1 h2
    obtain ⟨ha,he,hn,hu⟩:=h0
    have he:=qAh he
    have hn:=qAh hn
    subst ha;subst he
    refine ⟨⟨_,_,_⟩,k2,0,fun m _=>?_⟩
    simp only [yaB,hx,hi]
    rw [if_pos ⟨h1,h2⟩]
    have hlt:j.toNat<cs.length:=by omega
    have hcell:cs[j.toNat]?=some (.int .u8 (yaa (cs.getD j.toNat .nils))):=yEA cs _ hu hlt
    simp only [yhn,Nat.mul_one,PV.cells,qAs,if_false,hcell]
    rfl
   obtain ⟨k,h',rfl,hk⟩:=ylh n (qAm _) h
   clear h
   split at h'
   ·rename_i p hp
    refine ⟨⟨_,_,_⟩,h',0,fun m _=>?_⟩
    simp only [yaB,hx,hi]
    rw [if_pos ⟨by omega,by omega⟩]
    simp only [qAe,hp]
    rfl
   ·exact h'.elim
  ·exact h.elim
 case slc esz x lo hi mx =>
  simp only [WOp] at h
  split at h
  ·rename_i p l hh m hx hl hhi hm
   split at h
   ·exact h.elim
   ·rename_i hb
    obtain ⟨r,h,hr⟩:=yKZ h
    refine ⟨⟨_,_,_⟩,h,0,fun _ _=>?_⟩
    simp only [yaB,hx,hl,hhi,hm]
    rw [if_neg (by rw [hb];exact Bool.false_ne_true)]
    simp only [hr]
    rfl
  ·exact h.elim
 case mkSl pu esz bytes z l c =>
  simp only [WOp] at h
  split at h
  ·rename_i l c hl hc
   obtain ⟨h1,h⟩:=yaG.1 h
   obtain ⟨h2,h⟩:=yaG.1 h
   obtain ⟨h3,h⟩:=yaG.1 h
   simp only [decide_eq_true_eq] at h1 h2 h3
   refine ⟨⟨_,_,_⟩,h,0,fun _ _=>?_⟩
   simp only [yaB,hl,hc]
   rw [if_pos ⟨h1,h2,h3⟩]
   rfl
  ·exact h.elim
 case app pu esz bytes s x =>
  simp only [WOp] at h
  split at h
  ·rename_i s x hs hx
   obtain ⟨ys,h,hy⟩:=yMl h
   obtain ⟨h1,h⟩:=yaG.1 h
   obtain ⟨h2,h⟩:=yaG.1 h
   obtain ⟨r,H',h,hr⟩:=yN1 hy h1 h2 h
   refine ⟨⟨_,_,_⟩,h,0,fun _ _=>?_⟩
   simp only [yaB,hs,hx,hr]
   rfl
  ·exact h.elim
 case appZ pu esz bytes z s n =>
  simp only [WOp] at h
  split at h
  ·rename_i k hs hk
   obtain ⟨h1,h⟩:=yaG.1 h
   have h1:0≤k:=by simpa using h1
   obtain ⟨ha,hb⟩:=yg1.1 h
   cases h0:decide (k.toNat=0) with
   | true =>
    refine ⟨⟨_,_,_⟩,ha h0,0,fun _ _=>?_⟩
    have h0:k.toNat=0:=by simpa using h0
    simp only [yaB,hs,hk,appZ]
    rw [if_pos h1,if_pos h0]
    rfl
   | false =>
    obtain ⟨r,H',h2,hr⟩:=ysH (hb h0)
    refine ⟨⟨_,_,_⟩,h2,0,fun _ _=>?_⟩
    have h0:¬k.toNat=0:=by simpa using h0
    simp only [yaB,hs,hk,appZ]
    rw [if_pos h1,if_neg h0,hr]
    rfl
  ·exact h.elim
 case clr pu esz z x =>
  simp only [WOp] at h
  split at h
  ·rename_i hx
   exact ⟨⟨_,_,_⟩,h,0,fun _ _=>by simp only [yaB,hx,clrV];rfl⟩
  ·rename_i hx
   exact ⟨⟨_,_,_⟩,h,0,fun _ _=>by simp only [yaB,hx,clrV];rfl⟩
  ·rename_i hx
   exact ⟨⟨_,_,_⟩,h,0,fun _ _=>by simp only [yaB,hx,clrV];rfl⟩
  ·rename_i id lo len ext cap hx
   split at h
   ·rename_i b hb
    obtain ⟨ha,hb2⟩:=yg1.1 h
    cases len with
    | zero=>exact ⟨⟨_,_,_⟩,ha rfl,0,fun _ _=>by simp only [yaB,hx,clrV];rfl⟩
    | succ len =>
     have h:=hb2 (by simp)
     obtain ⟨h1,h⟩:=yaG.1 h
     obtain ⟨h2,h⟩:=yaG.1 h
     obtain ⟨h3,h⟩:=yaG.1 h
     obtain ⟨h4,h⟩:=yaG.1 h
     obtain ⟨h5,h⟩:=yaG.1 h
     simp only [decide_eq_true_eq,qAx,beq_iff_eq] at h1 h2 h3 h4
     have h5:=qAh h5
     refine ⟨⟨_,_,_⟩,h,0,fun _ _=>?_⟩
     simp only [yaB,hx,clrV,hb]
     rw [if_pos ⟨h1,h2,h3,h4,h5⟩]
     rfl
   ·exact h.elim
  ·exact h.elim
 case boxH pu esz x =>
  simp only [WOp] at h
  split at h
  ·rename_i p hp
   obtain ⟨q,H',h,hq⟩:=yxY h
   obtain ⟨h1,h⟩:=yaG.1 h
   simp only [qAb] at h1
   refine ⟨⟨_,_,_⟩,h,0,fun _ _=>?_⟩
   simp only [yaB,hp,hq]
   rw [if_pos ⟨qAh h1.1,h1.2⟩]
  ·exact h.elim
 case bSl pu esz z len parts =>
  simp only [WOp] at h
  split at h
  ·exact ⟨⟨_,_,_⟩,h,0,fun _ _=>by simp only [yaB,if_true];rfl⟩
  ·obtain ⟨rows,H',h,e⟩:=yv6 _ _ _ _ h
   refine ⟨⟨_,_,_⟩,h,0,fun _ _=>?_⟩
   simp only [yaB,e]
   rfl
 case buildN pu esz z len parts =>
  simp only [WOp] at h
  split at h
  ·exact ⟨⟨_,_,_⟩,h,0,fun _ _=>by simp only [yaB,if_true];rfl⟩
  ·obtain ⟨rows,H',h,e⟩:=yv6 _ _ _ _ h
   refine ⟨⟨_,_,_⟩,h,0,fun _ _=>?_⟩
   simp only [yaB,e]
   rfl
 case bD esz z len parts =>
  simp only [WOp] at h
  split at h
  ·exact ⟨⟨_,_,_⟩,h,0,fun _ _=>by simp only [yaB,if_true];rfl⟩
  ·obtain ⟨rows,H',h,e⟩:=yv6 _ _ _ _ h
   refine ⟨⟨_,_,_⟩,h,0,fun _ _=>?_⟩
   simp only [yaB,e]
   rfl
 case mvD x =>
  simp only [WOp] at h
  split at h
  ·rename_i p hp
   obtain ⟨y,H',h,e⟩:=yBF h
   split at h
   ·exact ⟨⟨_,_,_⟩,h,0,fun _ _=>by simp only [yaB,hp,e];rfl⟩
   ·exact h.elim
  ·exact h.elim
 case call f args=>simp [yjE] at hc
 all_goals exact yBE rfl h
theorem yMm {P:EP} (hP:Sub P E) (hG:Good P callK) {a:An} {o:AOp} (h:WOp E callK a F H o K):yPa P F H o K:=by
 cases hc:yjE o with
 | false =>
  obtain ⟨out,hk,m0,hm⟩:=yN2 hc h
  refine ⟨out,hk,0,fun n e m _ hp _=>?_⟩
  have hl:=hP n e hp
  unfold Like at hl
  rw [hl,yIG hc _ (ycp E m0)]
  exact hm m0 (qAm _)
 | true =>
  cases o with
  | call f args =>
   simp only [WOp] at h
   split at h
   ·rename_i g vs hg hvs
    obtain ⟨r,H',h,m0,hm⟩:=hG _ _ _ _ h
    refine ⟨⟨_,_,_⟩,h,m0,fun n e m hn hp hle=>?_⟩
    have hl:=hP n e hp
    have e1:evV e F f=some g:=by unfold Like at hl;rw [hl,yiv];exact hg
    have e2:evs e F args=some vs:=by unfold Like at hl;rw [hl,yq7];exact hvs
    simp only [yaB,e1,e2,hm n e m hn hp hle]
    rfl
   ·exact h.elim
  | _=>simp [yjE] at hc
theorem ysI:∀ (F:Frm) (s:Nat) (x:FV),fget F s=some x→frep F s x=F
 | [],_,_,h=>by simp [fget] at h
 | (k,y)::r,s,x,h=>by
  simp only [fget] at h
  simp only [frep]
  by_cases hk:k=s
  ·subst hk
   simp only [if_true,qAd] at h
   subst h
   simp
  ·rw [if_neg hk] at h
   have:Nat.beq k s=false:=by
    cases e:Nat.beq k s with
    | true=>exact absurd (qAh e) hk
    | false=>rfl
   rw [this,ysI r s x h]
   rfl
theorem yJO {c:Opd} {b:Bool} (h:evV E F c=some (.bool b)):fref F c b=F:=by
 cases c with
 | t s =>
  simp only [evV,ev] at h
  simp only [fref]
  apply ysI
  cases e:fget F s with
  | none=>simp [e] at h
  | some fv=>cases fv <;> simp [e] at h;rw [h]
 | _=>rfl
theorem yEB {g:Option (Nat×Bool)} {yes no:Frm→Prop} (h:yFD F g yes no):(yex F g=some true∧yes F)∨(yex F g=some false∧no F):=by
 unfold yFD at h
 split at h
 ·exact .inl ⟨rfl,h⟩
 ·rename_i s want
  split at h
  ·rename_i b hb
   have e:yex F (some (s,want))=some (b == want):=by simp only [yex,hb]
   split at h
   ·cases b with
    | true=>have h:yes (frep F s (.v (.bool true))):=h;rw [ysI _ _ _ hb] at h;exact .inl ⟨by rw [e];rfl,h⟩
    | false=>have h:no (frep F s (.v (.bool false))):=h;rw [ysI _ _ _ hb] at h;exact .inr ⟨by rw [e];rfl,h⟩
   ·cases b with
    | true=>have h:no (frep F s (.v (.bool true))):=h;rw [ysI _ _ _ hb] at h;exact .inr ⟨by rw [e];rfl,h⟩
    | false=>have h:yes (frep F s (.v (.bool false))):=h;rw [ysI _ _ _ hb] at h;exact .inl ⟨by rw [e];rfl,h⟩
  ·rename_i hb
   exact .inr ⟨by simp only [yex,hb],h⟩
  ·exact h.elim
theorem yFG {P:EP} (hP:Sub P E) (hG:Good P callK) {an:List An}:∀ (l:List AO) (i:Nat) (F:Frm) (H:Hp) (K:Frm→Hp→Prop),WOps E callK an l i F H K →
  ∃ F' H',K F' H'∧∃ m0,∀ n e m,m0≤n→P n e→m0≤m→ygf e (ycp e m) l F H=some (F',H')
 | [],i,F,H,K,h=>⟨F,H,h,0,fun _ _ _ _ _ _=>rfl⟩
 | o::r,i,F,H,K,h=>by
  simp only [WOps] at h
  rcases yEB h with ⟨hg,h⟩ | ⟨hg,h⟩
  ·obtain ⟨out,h,m0,hm⟩:=yMm hP hG h
   split at h
   ·exact h.elim
   ·rename_i F' hF'
    rw [yFE] at h
    obtain ⟨F2,H2,hk,m1,hm1⟩:=yFG hP hG r (i+1) F' out.h K h
    refine ⟨F2,H2,hk,max m0 m1,fun n e m hn hp hle=>?_⟩
    have e0:yjy e (ycp e m) F H o=some (F',out.h):=by
     simp only [yjy,hg,hm n e m (by omega) hp (by omega),hF',Option.map]
    simp only [ygf,e0]
    exact hm1 n e m (by omega) hp (by omega)
  ·obtain ⟨F2,H2,hk,m1,hm1⟩:=yFG hP hG r (i+1) (ysG F o.dst) H K h
   refine ⟨F2,H2,hk,m1,fun n e m hn hp hle=>?_⟩
   have e0:yjy e (ycp e m) F H o=some (ysG F o.dst,H):=by
    simp only [yjy,hg]
    cases o.dst <;> rfl
   simp only [ygf,e0]
   exact hm1 n e m hn hp hle
structure Cov (p q:FP):Prop where
 rd:q.rd=p.rd
 wr:q.wr=p.wr
 h:p.all=true∨((∀ x,x∈q.hr→x∈p.hr)∧(∀ x,x∈q.hw→x∈p.hw)∧(q.push=true→p.push=true)∧q.all=false)
theorem Cov.tight (p:FP) (H H1:Hp):Cov p (p.tight H H1):=by
 unfold FP.tight
 cases h:p.all with
 | true=>exact ⟨rfl,rfl,.inl h⟩
 | false=>exact ⟨rfl,rfl,.inr ⟨fun _ h=>h,fun _ h=>h,fun h=>h,h⟩⟩
def yFH:List FP→List FP→Prop
 | [],[]=>True
 | p::r,q::s=>Cov p q∧yFH r s
 | _,_=>False
theorem yFH.get:∀ (l l':List FP),yFH l l'→∀ (i:Nat) (p:FP),l[i]?=some p→∃ q:FP,l'[i]?=some q∧Cov p q
 | [],_,_,i,p,e=>by simp at e
 | p::r,[],h,_,_,_=>h.elim
 | p::r,q::s,h,i,x,e=>by
  obtain ⟨h1,h2⟩:=h
  cases i with
  | zero=>simp at e;subst e;exact ⟨q,rfl,h1⟩
  | succ i=>simp at e;simpa using yFH.get r s h2 i x e
theorem yxZ:∀ l:List Nat,meets l []=false
 | []=>rfl
 | x::r=>by simp only [meets,yxZ r];rfl
theorem yx0:∀ (l m:List Nat),meets l m=true↔∃ x,x∈l∧x∈m
 | [],m=>by simp [meets]
 | y::r,m=>by
  simp only [meets,qB4,yx0 r m,List.elem_eq_mem,decide_eq_true_eq,qAk]
  constructor
  ·rintro (h | ⟨x,h1,h2⟩)
   ·exact ⟨y,.inl rfl,h⟩
   ·exact ⟨x,.inr h1,h2⟩
  ·rintro ⟨x,rfl | h1,h2⟩
   ·exact .inl h2
   ·exact .inr ⟨x,h1,h2⟩
theorem yx1 {a b a' b':List Nat} (h:meets a b=false) (ha:∀ x,x∈a'→x∈a) (hb:∀ x,x∈b'→x∈b):meets a' b'=false:=by
 cases e:meets a' b' with
 | false=>rfl
 | true =>
  obtain ⟨x,h1,h2⟩:=(yx0 _ _).1 e
  have:meets a b=true:=(yx0 _ _).2 ⟨x,ha x h1,hb x h2⟩
  rw [h] at this
  cases this
theorem yBG {a:List Nat} (h:∀ x,x∈a→x∈([]:List Nat)):a=[]:=by
 cases a with
 | nil=>rfl
 | cons x r=>exact absurd (h x qAg) (by simp)
theorem yK0 {p q p' q':FP} (h:ytr p q=false) (hp:Cov p p') (hq:Cov q q'):ytr p' q'=false:=by
 have hpx:∀ {x x':FP},x.heapy=false→Cov x x'→x'.push=false∧x'.all=false∧x'.hr=[]∧x'.hw=[]:=by
  intro x x' hx hc
  simp only [FP.heapy,qB7,Bool.not_eq_false',List.isEmpty_iff] at hx
  obtain ⟨⟨⟨h1,h2⟩,h3⟩,h4⟩:=hx
  rcases hc.h with h | ⟨k1,k2,k3,k4⟩
  ·rw [h2] at h;cases h
  ·rw [h3] at k1
   rw [h4] at k2
   refine ⟨?_,k4,yBG k1,yBG k2⟩
   cases e:x'.push with
   | false=>rfl
   | true=>rw [k3 e] at h1;cases h1
 simp only [ytr,qB7] at h
 obtain ⟨⟨⟨⟨⟨⟨⟨⟨A,B⟩,C⟩,D⟩,E⟩,G⟩,I⟩,J⟩,K⟩:=h
 have A':meets p'.wr q'.rd=false:=by rw [hp.wr,hq.rd];exact A
 have B':meets p'.wr q'.wr=false:=by rw [hp.wr,hq.wr];exact B
 have C':meets q'.wr p'.rd=false:=by rw [hp.rd,hq.wr];exact C
 cases ea:p.all with
 | true =>
  rw [ea,qAz] at D
  obtain ⟨h1,h2,h3,h4⟩:=hpx D hq
  simp [ytr,A',B',C',h1,h2,h3,h4,yxZ,meets,FP.heapy]
 | false =>
  cases eb:q.all with
  | true =>
   rw [eb,qAz] at E
   obtain ⟨h1,h2,h3,h4⟩:=hpx E hp
   simp [ytr,A',B',C',h1,h2,h3,h4,yxZ,meets,FP.heapy]
  | false =>
   rcases hp.h with h | ⟨k1,k2,k3,k4⟩
   ·rw [ea] at h;cases h
   rcases hq.h with h | ⟨l1,l2,l3,l4⟩
   ·rw [eb] at h;cases h
   have G':(p'.push&&q'.push)=false:=by
    cases e1:p'.push with
    | false=>rfl
    | true =>
     cases e2:q'.push with
     | false=>rfl
     | true=>rw [k3 e1,l3 e2] at G;cases G
   simp only [ytr,A',B',C',k4,l4,qBb,G',yx1 I k2 l1,yx1 J k2 l2,yx1 K l2 k1,Bool.or_self]
theorem yzn {l l':List FP} (ht:yFH l l'):∀ (pairs:List (Nat×Nat)),ylp l pairs=true→ylp l' pairs=true
 | [],_=>rfl
 | (i,j)::r,h=>by
  simp only [ylp,qAb] at h ⊢
  refine ⟨?_,yzn ht r h.2⟩
  have h1:=h.1
  split at h1
  ·rename_i p q e1 e2
   obtain ⟨p',k1,c1⟩:=yFH.get l l' ht i p e1
   obtain ⟨q',k2,c2⟩:=yFH.get l l' ht j q e2
   rw [k1,k2]
   simp only [qAx] at h1 ⊢
   exact yK0 h1 c1 c2
  ·cases h1
theorem ypb {E e:Env} (h:Like E e) (f:PV) (args:List PV):ytq e f args=ytq E f args:=by
 unfold Like at h
 rw [h]
 rfl
theorem yIH {p q:PV} {H H1:Hp} (h:ycK H p=some (q,H1)):EffI (idsV p) H H1 H H1:=by
 obtain ⟨H1',e,k⟩:=yib (H':=H) (fun _ _=>rfl) h
 rw [h] at e
 cases e
 exact k
theorem yno:∀ (l ps:List PV) (H H1:Hp),ybv H l=some (ps,H1)→H1.length=H.length∧∀ id,id∉idsA l→H1[id]?=H[id]?
 | [],ps,H,H1,h=>by
  simp only [ybv,qAd,Prod.mk.injEq] at h
  rw [← h.2]
  exact ⟨rfl,fun _ _=>rfl⟩
 | x::r,ps,H,H1,h=>by
  simp only [ybv] at h
  split at h
  ·rename_i y H2 hy
   split at h
   ·rename_i ys H3 hys
    simp only [qAd,Prod.mk.injEq] at h
    obtain ⟨_,rfl⟩:=h
    obtain ⟨l1,o1⟩:=yno r ys H2 _ hys
    have k:=yIH hy
    refine ⟨l1.trans k.len.1,fun id hid=>?_⟩
    simp only [idsA,qAy,not_or] at hid
    rw [o1 id hid.2,(k.out id hid.1).1]
   ·cases h
  ·cases h
theorem yII {call:Nat→List PV→Hp→Option (PV×Hp)} {x:LocC} {H H1:Hp} {r:PV} (h:yxK call x H=some (r,H1)):∀ id,id∈chgH 0 H H1→id∈x.id::idsA (x.all.set x.j (.int .i64 0)):=by
 intro id hm
 unfold yxK at h
 split at h
 ·rename_i az H' hp
  split at h
  ·rename_i b hb
   split at h
   ·split at h
    ·rename_i q rows hq
     simp only [qAd,Prod.mk.injEq] at h
     obtain ⟨_,rfl⟩:=h
     obtain ⟨l1,o1⟩:=yno _ _ _ _ hp
     by_cases hi:id=x.id
     ·rw [hi];exact qAg
     ·by_cases hj:id∈idsA (x.all.set x.j (.int .i64 0))
      ·exact qAf _ hj
      ·refine absurd hm ?_
       have:=yxW 0 H (H'.set x.id { b with rows:=rows }) (by simp [l1]) id (by
        rw [qA8 (fun e=>hi e.symm),o1 id hj])
       simpa using this
    ·cases h
   ·cases h
  ·cases h
 ·cases h
theorem yIJ {H H1:Hp} {l:List Nat} (h1:H1.length=H.length) (h2:∀ id,id∉l→H1[id]?=H[id]?):∀ id,id∈chgH 0 H H1→id∈l:=by
 intro id hm
 by_cases hj:id∈l
 ·exact hj
 ·refine absurd hm ?_
  have:=yxW 0 H H1 h1 id (h2 id hj)
  simpa using this
theorem yK1 {e:Env} {call:Nat→List PV→Hp→Option (PV×Hp)} {n:Nat} {first captured vs:List PV} {H H1:Hp} {r:PV} (hq:e.qui n=true) (h:ykB e call (.fn (.func n) first captured) vs H=some (r,H1)):∀ id,id∈chgH 0 H H1→id∈idsA (first++vs++captured):=by
 simp only [ykB,hq,if_true] at h
 split at h
 ·split at h
  ·split at h
   ·split at h
    ·cases h
     exact yIJ rfl fun _ _=>rfl
    ·cases h
   ·cases h
  ·cases h
 ·split at h
  ·rename_i x hx
   cases h
   split at hx
   ·rename_i az H' hp
    obtain ⟨l1,o1⟩:=yno _ _ _ _ hp
    split at hx
    ·split at hx
     ·cases hx
      exact yIJ rfl fun _ _=>rfl
     ·cases hx
      exact yIJ l1 o1
    ·cases hx
   ·cases hx
  ·cases h
theorem yN3 {e:Env} (hl:Like E e) {call:Nat→List PV→Hp→Option (PV×Hp)} {F:Frm} {H:Hp} {o:AOp} {out:Out} (h:yaB e call F H o=some out) (a b _ _:List Nat) :
  Cov ⟨a++(yzl E F H o).rd,b++(yzl E F H o).wr,(yzl E F H o).hr,(yzl E F H o).hw,(yzl E F H o).push,(yzl E F H o).all⟩
   ((⟨a++(fpOp E F H o).rd,b++(fpOp E F H o).wr,(fpOp E F H o).hr,(fpOp E F H o).hw,(fpOp E F H o).push,(fpOp E F H o).all⟩:FP).tight H out.h):=by
 unfold yzl
 split
 ·rename_i f az
  cases hq:ygb E F f az with
  | true=>exact Cov.tight _ _ _
  | false =>
  rw [cond_false]
  split
  ·rename_i l hli
   unfold yMh at hli
   split at hli
   ·rename_i g vs hg hvs
    have hg':evV e F f=some g:=by unfold Like at hl;rw [hl,yiv];exact hg
    have hv':evs e F az=some vs:=by unfold Like at hl;rw [hl,yq7];exact hvs
    simp only [yaB,hg',hv'] at h
    split at h
    ·rename_i r H1 hr
     cases h
     have key:∀ id,id∈chgH 0 H H1→id∈l:=by
      split at hli
      ·rename_i x hx
       cases hli
       simp only [ymJ,(ypb hl g vs).trans hx] at hr
       exact yII hr
      ·rename_i hx
       simp only [ymJ,(ypb hl g vs).trans hx] at hr
       split at hli
       ·rename_i n first captured
        cases hqu:E.qui n with
        | false=>rw [hqu] at hli;cases hli
        | true =>
         rw [hqu] at hli
         cases hli
         have:e.qui n=true:=by unfold Like at hl;rw [hl];exact hqu
         exact yK1 this hr
       ·cases hli
     simp only [fpOp,hq,qB0,FP.tight,if_true]
     exact ⟨rfl,rfl,.inr ⟨fun _ h=>h,key,fun h=>h,rfl⟩⟩
    ·cases h
   ·cases hli
  ·exact Cov.tight _ _ _
 ·exact Cov.tight _ _ _
theorem yFI {P:EP} (hP:Sub P E) (hG:Good P callK) {an:List An} {F0:Frm} {l0:List AO} {pairs:List (Nat×Nat)}:∀ (l:List AO) (i:Nat) (F:Frm) (H:Hp) (ps:List FP) (K:Frm→Hp→Prop),WFps E callK an F0 l0 pairs l i F H ps K →
  ∃ F' H' qs,K F' H'∧ylp (ps.reverse++qs) pairs=true∧ysx F0 l0 l0=true∧∃ m0,∀ n e m,m0≤n→P n e→m0≤m→∃ qt,yFH qs qt∧yq0 e (ycp e m) l F H=some (F',H',qt)
 | [],i,F,H,ps,K,h=>by
  simp only [WFps] at h
  obtain ⟨h1,h⟩:=yaG.1 h
  simp only [qAb] at h1
  exact ⟨F,H,[],h,by simpa using h1.1,h1.2,0,fun _ _ _ _ _ _=>⟨[],trivial,rfl⟩⟩
 | o::r,i,F,H,ps,K,h=>by
  simp only [WFps] at h
  have hfp:∀ n e,P n e→∀ F H,ygg e F H o=ygg E F H o:=by
   intro n e hp F H
   have hl:=hP n e hp
   unfold Like at hl
   rw [hl]
   simp only [ygg,yKY]
  rcases yEB h with ⟨hg,h⟩ | ⟨hg,h⟩
  ·obtain ⟨out,h,m0,hm⟩:=yMm hP hG h
   split at h
   ·exact h.elim
   ·rename_i F' hF'
    rw [yFE] at h
    obtain ⟨F2,H2,qs,hk,ha,hb,m1,hm1⟩:=yFI hP hG r (i+1) F' out.h (yJL E F H o::ps) K h
    refine ⟨F2,H2,yJL E F H o::qs,hk,by simpa using ha,hb,max m0 m1,fun n e m hn hp hle=>?_⟩
    obtain ⟨qt,ht,hq⟩:=hm1 n e m (by omega) hp (by omega)
    have ho:=hm n e m (by omega) hp (by omega)
    have e0:ykR e (ycp e m) o (F,H)=some (F',out.h):=by
     simp only [ykR,hg,ho,hF',Option.map]
    refine ⟨(ygg E F H o).tight H out.h::qt,⟨?_,ht⟩,?_⟩
    ·simp only [ygg,hg,yJL]
     exact yN3 (hP n e hp) ho _ _ [] []
    ·simp only [yq0,e0,hq,hfp n e hp]
  ·obtain ⟨F2,H2,qs,hk,ha,hb,m1,hm1⟩:=yFI hP hG r (i+1) (ysG F o.dst) H (fpNo o::ps) K h
   refine ⟨F2,H2,fpNo o::qs,hk,by simpa using ha,hb,m1,fun n e m hn hp hle=>?_⟩
   obtain ⟨qt,ht,hq⟩:=hm1 n e m hn hp hle
   have e0:ykR e (ycp e m) o (F,H)=some (ysG F o.dst,H):=by
    simp only [ykR,hg]
    cases o.dst <;> rfl
   have e2:ygg E F H o=fpNo o:=by simp only [ygg,hg,fpNo]
   refine ⟨(fpNo o).tight H H::qt,⟨Cov.tight _ _ _,ht⟩,?_⟩
   simp only [yq0,e0,hq,hfp n e hp,e2]
def yMn (P:EP) (c:AC) (F:Frm) (H:Hp) (Q:Ex→Frm→Hp→Prop):Prop :=
 ∃ x F' H',Q x F' H'∧∃ m0,∀ n e m,m0≤n→P n e→m0≤m→exec e m c F H=some (x,F',H')
def yp8 (P:EP) (c:TC) (F:Frm) (H:Hp) (Q:Ex→Frm→Hp→Prop):Prop:=yMn P (ycq c) F H Q
def yeB:TC→Bool
 | .seq a b | .cond _ a b=>yeB a&&yeB b
 | .block _ b=>yeB b
 | .loop _ b=>yeB b
 | .lG _ b=>yeB b
 | .join _ b=>yeB b
 | .rangeF _ _ _ _ _ _ _=>false
 | _=>true
def LpOk (P:EP) (E:Env) (lp:LP) (G:Frm):TC→Prop
 | .seq a b=>LpOk P E lp G a∧LpOk P E lp G b
 | .cond _ a b=>LpOk P E lp G a∧LpOk P E lp G b
 | .block _ b=>LpOk P E lp G b
 | .loop id b=>LpOk P E lp G b∧∀ F H Q,lp id G F H Q→yp8 P (.loop id b) F H Q
 | .lG id b=>LpOk P E lp G b∧∀ F H Q,lp id G F H Q→yp8 P (.lG id b) F H Q
 | .join id b=>LpOk P E lp G b∧∀ F H Q,lp id G F H Q→yp8 P (.join id b) F H Q
 | .rangeF _ f np ib ps az bd=>(∃ rs,E.fns f=some ⟨np,rs,ycq ib⟩∧rs.length=0)∧(yeB ib=true∧yeB az=true∧yeB bd=true)∧(∀ G,LpOk (Rng E G ps (ycq az) (ycq bd)) E lp G ib)∧LpOk (Ats E) E lp [] az∧LpOk (Ats E) E lp [] bd
 | _=>True
def ydN:TC→List (Nat×TC)
 | .seq a b | .cond _ a b=>ydN a++ydN b
 | .block _ b=>ydN b
 | .loop id b=>ydN b++[(id,.loop id b)]
 | .lG id b=>ydN b++[(id,.lG id b)]
 | .join id b=>ydN b++[(id,.join id b)]
 | _=>[]
theorem yk5 {P:EP} {E:Env} {lp:LP} {G:Frm}:∀ (c:TC),yeB c=true→(∀ p∈ydN c,∀ F H Q,lp p.1 G F H Q→yp8 P p.2 F H Q)→LpOk P E lp G c
 | .skip,_,_ | .ops _ _ _ _,_,_ | .exit _,_,_ | .ret,_,_ | .bad,_,_ | .yret _ _ _ _ _ _ _,_,_ | .cut _,_,_=>trivial
 | .rangeF _ _ _ _ _ _ _,hf,_=>by simp [yeB] at hf
 | .seq a b,hf,h=>by
  simp only [yeB,qAb] at hf
  exact ⟨yk5 a hf.1 fun p hp=>h p (by simp only [ydN,qAy];exact .inl hp),yk5 b hf.2 fun p hp=>h p (by simp only [ydN,qAy];exact .inr hp)⟩
 | .cond _ a b,hf,h=>by
  simp only [yeB,qAb] at hf
  exact ⟨yk5 a hf.1 fun p hp=>h p (by simp only [ydN,qAy];exact .inl hp),yk5 b hf.2 fun p hp=>h p (by simp only [ydN,qAy];exact .inr hp)⟩
 | .block _ b,hf,h=>yk5 b hf h
 | .loop id b,hf,h=>⟨yk5 b hf fun p hp=>h p (by simp only [ydN,qAy];exact .inl hp),h (id,.loop id b) (by simp [ydN])⟩
 | .lG id b,hf,h=>⟨yk5 b hf fun p hp=>h p (by simp only [ydN,qAy];exact .inl hp),h (id,.lG id b) (by simp [ydN])⟩
 | .join id b,hf,h=>⟨yk5 b hf fun p hp=>h p (by simp only [ydN,qAy];exact .inl hp),h (id,.join id b) (by simp [ydN])⟩
def YOk (P:EP) (E:Env) (yk:YK):Prop:=∀ vs H K,yk vs H K→∃ r H',K r H'∧∃ m0,∀ n e,m0≤n→P n e→e.yl e.yn E.yn vs H=some (r,H')
theorem YOk.no (P:EP) (E:Env):YOk P E noYK:=fun _ _ _ h=>h.elim
def yp9 (P:EP) (E:Env) (callK:CK) (c:TC):Prop:=yeB c=false→Good (Uni E) callK∧∀ n e,P n e→e=E
theorem yMn.up {P:EP} {c:AC} {F:Frm} {H:Hp} {Q:Ex→Frm→Hp→Prop} {x:Ex} {F':Frm} {H':Hp} {m0:Nat} (hk:Q x F' H') (h:∀ n e k,m0≤n→P n e→m0≤k→exec e (k+1) c F H=some (x,F',H')):yMn P c F H Q :=
 ⟨x,F',H',hk,m0+1,fun n e m hn hp hm=>by
  obtain ⟨k,rfl⟩:∃ k,m=k+1:=⟨m-1,by omega⟩
  exact h n e k (by omega) hp (by omega)⟩
theorem yzo {lp:LP}:∀ (c:TC) (P:EP) (_:Sub P E) (_:Good P callK) (_:yp9 P E callK c) (G:Frm) (yk:YK) (_:YOk P E yk) (_:LpOk P E lp G c) (F:Frm) (H:Hp) (Q:Ex→Frm→Hp→Prop),WC E callK lp G yk c F H Q→yMn P (ycq c) F H Q
 | .skip,P,hP,hG,hR,G,yk,hY,_,F,H,Q,h=>by
  simp only [WC] at h
  exact yMn.up (m0:=0) h fun n e k _ _ _=>by simp only [ycq,exec]
 | .exit id,P,hP,hG,hR,G,yk,hY,_,F,H,Q,h=>by
  simp only [WC] at h
  exact yMn.up (m0:=0) h fun n e k _ _ _=>by simp only [ycq,exec]
 | .ret,P,hP,hG,hR,G,yk,hY,_,F,H,Q,h=>by
  simp only [WC] at h
  exact yMn.up (m0:=0) h fun n e k _ _ _=>by simp only [ycq,exec]
 | .bad,P,hP,hG,hR,G,yk,hY,_,F,H,Q,h=>by simp only [WC] at h
 | .cut _,P,hP,hG,hR,G,yk,hY,_,F,H,Q,h=>by simp only [WC] at h
 | .ops l an ps fg,P,hP,hG,hR,G,yk,hY,_,F,H,Q,h=>by
  cases ps with
  | nil =>
   simp only [WC] at h
   obtain ⟨F',H',hk,m0,hm⟩:=yFG hP hG l 0 F H _ h
   rw [yFE] at hk
   exact yMn.up (m0:=m0) hk fun n e k hn hp hle=>by simp only [ycq,exec,ynk,hm n e k hn hp hle]
  | cons p ps =>
   simp only [WC] at h
   obtain ⟨F',H',qs,hk,ha,hb,m0,hm⟩:=yFI hP hG l 0 _ H [] _ h
   rw [yFE] at hk
   refine yMn.up (m0:=m0) hk fun n e k hn hp hle=>?_
   obtain ⟨qt,ht,hq⟩:=hm n e k hn hp hle
   simp only [ycq,exec,ynk,hq]
   rw [if_pos ⟨yzn ht _ (by simpa using ha),hb⟩]
 | .seq a b,P,hP,hG,hR,G,yk,hY,hl,F,H,Q,h=>by
  simp only [WC] at h
  simp only [LpOk] at hl
  have hRa:yp9 P E callK a:=fun hf=>hR (by simp only [yeB,hf,qBb])
  have hRb:yp9 P E callK b:=fun hf=>hR (by simp only [yeB,hf,Bool.and_false])
  obtain ⟨x,F',H',hk,m0,hm⟩:=yzo a P hP hG hRa G yk hY hl.1 F H _ h
  cases x with
  | norm =>
   obtain ⟨x2,F2,H2,hk2,m1,hm1⟩:=yzo b P hP hG hRb G yk hY hl.2 F' H' Q hk
   exact yMn.up (m0:=max m0 m1) hk2 fun n e k hn hp hle=>by simp only [ycq,exec,hm n e k (by omega) hp (by omega),hm1 n e k (by omega) hp (by omega)]
  | exit i=>exact yMn.up (m0:=m0) hk fun n e k hn hp hle=>by simp only [ycq,exec,hm n e k hn hp hle]
  | ret=>exact yMn.up (m0:=m0) hk fun n e k hn hp hle=>by simp only [ycq,exec,hm n e k hn hp hle]
  | brk _ _=>exact yMn.up (m0:=m0) hk fun n e k hn hp hle=>by simp only [ycq,exec,hm n e k hn hp hle]
 | .cond c a b,P,hP,hG,hR,G,yk,hY,hl,F,H,Q,h=>by
  simp only [WC] at h
  simp only [LpOk] at hl
  have hRa:yp9 P E callK a:=fun hf=>hR (by simp only [yeB,hf,qBb])
  have hRb:yp9 P E callK b:=fun hf=>hR (by simp only [yeB,hf,Bool.and_false])
  split at h
  ·rename_i t ht
   have hte:∀ n e,P n e→evV e F c=some (.bool t):=fun n e hp=>by
    have hl:=hP n e hp
    unfold Like at hl
    rw [hl,yiv];exact ht
   obtain ⟨h1,h2⟩:=yg1.1 h
   cases t with
   | true =>
    obtain ⟨x,F',H',hk,m0,hm⟩:=yzo a P hP hG hRa G yk hY hl.1 F H Q (yJO ht ▸ h1 rfl)
    exact yMn.up (m0:=m0) hk fun n e k hn hp hle=>by simp only [ycq,exec,hte n e hp,hm n e k hn hp hle]
   | false =>
    obtain ⟨x,F',H',hk,m0,hm⟩:=yzo b P hP hG hRb G yk hY hl.2 F H Q (yJO ht ▸ h2 rfl)
    exact yMn.up (m0:=m0) hk fun n e k hn hp hle=>by simp only [ycq,exec,hte n e hp,hm n e k hn hp hle]
  ·exact h.elim
 | .block id b,P,hP,hG,hR,G,yk,hY,hl,F,H,Q,h=>by
  simp only [WC] at h
  simp only [LpOk] at hl
  have hRb:yp9 P E callK b:=fun hf=>hR (by simp only [yeB,hf])
  obtain ⟨x,F',H',hk,m0,hm⟩:=yzo b P hP hG hRb G yk hY hl F H _ h
  cases x with
  | norm=>exact yMn.up (m0:=m0) hk fun n e k hn hp hle=>by simp only [ycq,exec,hm n e k hn hp hle]
  | exit i =>
   simp only at hk
   cases hb:Nat.beq i id with
   | true =>
    rw [hb] at hk
    have e:=qAh hb
    subst e
    exact yMn.up (m0:=m0) (x:=.norm) hk fun n e k hn hp hle=>by simp only [ycq,exec,hm n e k hn hp hle,if_true]
   | false =>
    rw [hb] at hk
    have e:¬i=id:=fun e=>by subst e;rw [Nat.beq_refl] at hb;cases hb
    exact yMn.up (m0:=m0) (x:=.exit i) hk fun n e' k hn hp hle=>by simp only [ycq,exec,hm n e' k hn hp hle,e,if_false]
  | ret=>exact yMn.up (m0:=m0) hk fun n e k hn hp hle=>by simp only [ycq,exec,hm n e k hn hp hle]
  | brk _ _=>exact yMn.up (m0:=m0) hk fun n e k hn hp hle=>by simp only [ycq,exec,hm n e k hn hp hle]
 | .loop id b,P,hP,hG,hR,G,yk,hY,hl,F,H,Q,h=>by
  simp only [WC] at h
  simp only [LpOk] at hl
  exact hl.2 F H Q h
 | .lG id b,P,hP,hG,hR,G,yk,hY,hl,F,H,Q,h=>by
  simp only [WC] at h
  simp only [LpOk] at hl
  exact hl.2 F H Q h
 | .join id b,P,hP,hG,hR,G,yk,hY,hl,F,H,Q,h=>by
  simp only [WC] at h
  simp only [LpOk] at hl
  exact hl.2 F H Q h
 | .yret ..,P,hP,hG,hR,G,yk,hY,_,F,H,Q,h=>by simp only [WC] at h
 | .rangeF ..,P,hP,hG,hR,G,yk,hY,_,F,H,Q,h=>by simp only [WC] at h
theorem yp8.intro {id:Nat} {P:EP} (hP:Sub P E) (hG:Good P callK) {lp:LP} {b:TC} (hf:yeB b=true) {G:Frm} {yk:YK} (hY:YOk P E yk) (hl:LpOk P E lp G b) {Q:Ex→Frm→Hp→Prop} (R:Nat→Frm→Hp→Prop) (h0:∀ F H,¬R 0 F H)
  (hs:∀ n F H,R (n+1) F H→WC E callK lp G yk b F H fun x F' H'=>match x with | .norm=>R n F' H' | .exit i=>Q (.exit i) F' H' | .ret=>Q .ret F' H' | .brk k i=>Q (.brk k i) F' H') :
  ∀ n F H,R n F H→yp8 P (.loop id b) F H Q
 | 0,F,H,h=>(h0 F H h).elim
 | n+1,F,H,h=>by
  obtain ⟨x,F',H',hk,m0,hm⟩:=yzo b P hP hG (fun hf'=>by rw [hf] at hf';cases hf') G yk hY hl F H _ (hs n F H h)
  cases x with
  | norm =>
   have hk:R n F' H':=hk
   obtain ⟨x2,F2,H2,hk2,m1,hm1⟩:=yp8.intro (id:=id) hP hG hf hY hl R h0 hs n F' H' hk
   simp only [ycq] at hm1
   exact yMn.up (m0:=max m0 m1) hk2 fun n e k hn hp hle=>by simp only [ycq,exec,hm n e k (by omega) hp (by omega),hm1 n e k (by omega) hp (by omega)]
  | exit i=>exact yMn.up (m0:=m0) hk fun n e k hn hp hle=>by simp only [ycq,exec,hm n e k hn hp hle]
  | ret=>exact yMn.up (m0:=m0) hk fun n e k hn hp hle=>by simp only [ycq,exec,hm n e k hn hp hle]
  | brk _ _=>exact yMn.up (m0:=m0) hk fun n e k hn hp hle=>by simp only [ycq,exec,hm n e k hn hp hle]
theorem yp8.introG {id:Nat} {P:EP} (hP:Sub P E) (hG:Good P callK) {lp:LP} {b:TC} (hf:yeB b=true) {G:Frm} {yk:YK} (hY:YOk P E yk) (hl:LpOk P E lp G b) {Q:Ex→Frm→Hp→Prop} (R:Nat→Frm→Hp→Prop) (h0:∀ F H,¬R 0 F H)
  (hs:∀ n F H,R (n+1) F H→WC E callK lp G yk b F H fun x F' H'=>match x with | .norm=>R n F' (gcH F' H.length H') | .exit i=>Q (.exit i) F' H' | .ret=>Q .ret F' H' | .brk k i=>Q (.brk k i) F' H') :
  ∀ n F H,R n F H→yp8 P (.lG id b) F H Q
 | 0,F,H,h=>(h0 F H h).elim
 | n+1,F,H,h=>by
  obtain ⟨x,F',H',hk,m0,hm⟩:=yzo b P hP hG (fun hf'=>by rw [hf] at hf';cases hf') G yk hY hl F H _ (hs n F H h)
  cases x with
  | norm =>
   have hk:R n F' (gcH F' H.length H'):=hk
   obtain ⟨x2,F2,H2,hk2,m1,hm1⟩:=yp8.introG (id:=id) hP hG hf hY hl R h0 hs n F' _ hk
   simp only [ycq] at hm1
   exact yMn.up (m0:=max m0 m1) hk2 fun n e k hn hp hle=>by simp only [ycq,exec,hm n e k (by omega) hp (by omega),hm1 n e k (by omega) hp (by omega)]
  | exit i=>exact yMn.up (m0:=m0) hk fun n e k hn hp hle=>by simp only [ycq,exec,hm n e k hn hp hle]
  | ret=>exact yMn.up (m0:=m0) hk fun n e k hn hp hle=>by simp only [ycq,exec,hm n e k hn hp hle]
  | brk _ _=>exact yMn.up (m0:=m0) hk fun n e k hn hp hle=>by simp only [ycq,exec,hm n e k hn hp hle]
end
def AnsP (P:EP) (n:Nat) (az:List PV) (r:PV):Prop:=∃ m0,∀ k e m,m0≤k→P k e→m0≤m→yeM e (ycp e m) n az=some r
def Ans (E:Env) (n:Nat) (az:List PV) (r:PV):Prop:=AnsP (Uni E) n az r
def AnsS (E:Env) (n:Nat) (az:List PV) (r:PV):Prop:=AnsP (Solo E) n az r
theorem AnsP.sub {P P':EP} {n:Nat} {az:List PV} {r:PV} (h:AnsP P n az r) (hs:∀ k e,P' k e→P k e):AnsP P' n az r:=by
 obtain ⟨m0,hm⟩:=h
 exact ⟨m0,fun k e m h1 h2 h3=>hm k e m h1 (hs k e h2) h3⟩
theorem Ans.solo {E:Env} {n:Nat} {az:List PV} {r:PV} (h:Ans E n az r):AnsS E n az r:=AnsP.sub h fun _ e h=>by cases h;rfl
def yHt (E:Env):Prop:=∀ n az H x,E.eff n az H=some x→E.qui n=false∧E.frz n=false∧(∀ az,E.sum n az=none)∧E.rb n=false
def AnsL (P:EP) (n:Nat) (az:List PV) (b:HB) (q:PV) (rows:List PV):Prop:=∃ m0,∀ k e m,m0≤k→P k e→m0≤m→yFe (ycp e m) n az b=some (q,rows)
structure SEOk (P:EP) (S:SE):Prop where
 sb:Sub P S.E
 sum:∀ n wp,S.sumK n=some wp→∀ az K,wp az K→∃ r,K r∧AnsP P n az r
 inl:∀ n fn,S.inl n=some fn→S.E.fns n=some fn.fn∧S.E.qui n=false∧S.E.frz n=false∧(∀ az,S.E.sum n az=none)∧(∀ az H,S.E.eff n az H=none)∧yeB fn.body=true∧LpOk P S.E S.lp [] fn.body
 eff:yHt S.E
 sumL:∀ n wp,S.sumL n=some wp→∀ az b K,wp az b K→∃ q rows,K q rows∧AnsL P n az b q rows
section
variable {S:SE} {P:EP} {callK:CK} {H:Hp}
theorem yhE {E e:Env} (h:Like E e):e.fns=E.fns∧e.sum=E.sum∧e.qui=E.qui∧e.frz=E.frz∧e.rb=E.rb∧e.nl=E.nl∧e.eff=E.eff:=by
 unfold Like at h
 rw [h]
 exact ⟨rfl,rfl,rfl,rfl,rfl,rfl,rfl⟩
theorem yFJ (hP:Sub P S.E) (hG:Good P callK) {fn:TFn} (hR:yp9 P S.E callK fn.body) (hl:LpOk P S.E S.lp [] fn.body) {n:Nat} (hf:S.E.fns n=some fn.fn) (he:∀ az H,S.E.eff n az H=none) {args:List PV} {K:PV→Hp→Prop} (h:WFn S.E callK S.lp fn args H K) :
  ∃ r H',K r H'∧∃ m0,∀ k e m,m0≤k→P k e→m0≤m→ycp e m n args H=some (r,H'):=by
 obtain ⟨h1,h⟩:=yaG.1 h
 have h1:args.length=fn.nparams:=by simpa using h1
 obtain ⟨x,F',H',hk,m0,hm⟩:=yzo fn.body P hP hG hR [] noYK (YOk.no _ _) hl _ H _ h
 have key:(match yjz F' H' fn.results with | some ps=>K (yjA ps) H' | none=>False)→(x=.norm∨x=.ret) →
   ∃ r H',K r H'∧∃ m0,∀ k e m,m0≤k→P k e→m0≤m→ycp e m n args H=some (r,H'):=by
  intro hk hx
  split at hk
  ·rename_i ps hps
   refine ⟨_,_,hk,m0+1,fun k e m hkl hp hle=>?_⟩
   obtain ⟨q,rfl⟩:∃ q,m=q+1:=⟨m-1,by omega⟩
   have e0:=hm k e q (by omega) hp (by omega)
   obtain ⟨l1,_,_,_,_,_,l7⟩:=yhE (hP k e hp)
   simp only [ycp,Env.effx,ymH,l7,l1,he,hf,TFn.fn,h1,if_true]
   rw [e0]
   rcases hx with rfl | rfl <;> simp only [hps]
  ·exact hk.elim
 cases x with
 | norm=>exact key hk (.inl rfl)
 | exit i=>exact hk.elim
 | brk _ _=>exact hk.elim
 | ret=>exact key hk (.inr rfl)
theorem yK2 {H:Hp} {x:PV} {K:PV→Hp→Prop} (h:yFF H x K):∃ q H',K q H'∧yEf H x=some (q,H'):=by
 cases x with
 | tup ps =>
  simp only [yFF] at h
  obtain ⟨ys,H',h,e⟩:=yq8 ps H _ h
  exact ⟨_,_,h,by simp only [yEf,e]⟩
 | _ =>
  simp only [yFF] at h
  obtain ⟨y,H',h,e⟩:=yom h
  exact ⟨_,_,h,by simp only [yEf,e]⟩
theorem yv7 {e:Env} {call:Nat→List PV→Hp→Option (PV×Hp)} {f:PV} {args:List PV} (h:ytq e f args=none):ymJ e call f args H=ykB e call f args H:=by
 simp only [ymJ,h]
theorem yaW (hS:SEOk P S):∀ d,Good P (ylD S d)
 | 0,f,args,H,K,h=>h.elim
 | d+1,f,args,H,K,h=>by
  unfold ylD at h
  split at h
  ·rename_i n first captured
   split at h
   ·rename_i x hx
    split at h
    ·rename_i wp hwp
     unfold WLoc at h
     obtain ⟨az,H',h,hp⟩:=yq8 _ _ _ h
     split at h
     ·rename_i b hb
      obtain ⟨hc,h⟩:=yaG.1 h
      simp only [qAb,qAx] at hc
      obtain ⟨q,rows,hk,m0,hm⟩:=hS.sumL _ wp hwp _ _ _ h
      refine ⟨q,_,hk,m0,fun k e m hkl he hle=>?_⟩
      simp only [ymJ,ypb (hS.sb k e he),hx,yxK,hp,hb]
      rw [if_pos hc]
      simp only [hm k e m hkl he hle]
     ·exact h.elim
    ·exact h.elim
   rename_i hx
   have hx':∀ k e,P k e→ytq e (.fn (.func n) first captured) args=none:=fun k e he=>(ypb (hS.sb k e he) _ _).trans hx
   split at h
   ·rename_i wp hwp
    cases hb:S.E.rb n with
    | true =>
     rw [hb,cond_true] at h
     obtain ⟨az,h,hp⟩:=yEz _ _ h
     obtain ⟨r,hk,m0,hm⟩:=hS.sum n wp hwp az _ h
     obtain ⟨hs,hk⟩:=yaG.1 hk
     refine ⟨r,_,hk,m0,fun k e m hkl he hle=>?_⟩
     obtain ⟨_,_,_,_,l5,_,_⟩:=yhE (hS.sb k e he)
     rw [yv7 (hx' k e he)]
     simp only [ykB,l5,hb,if_true,hp,hm k e m hkl he hle,hs]
    | false =>
     rw [hb,cond_false] at h
     obtain ⟨az,H',h,hp⟩:=yq8 _ _ _ h
     obtain ⟨r,hk,m0,hm⟩:=hS.sum n wp hwp az _ h
     refine ⟨r,_,hk,m0,fun k e m hkl he hle=>?_⟩
     obtain ⟨_,_,_,_,l5,_,_⟩:=yhE (hS.sb k e he)
     rw [yv7 (hx' k e he)]
     simp only [ykB,l5,hb,qAs,if_false,hp,hm k e m hkl he hle]
     cases r.scalar <;> simp
   ·split at h
    ·rename_i fn hfn
     obtain ⟨h1,h2,h3,h4,h6,h7,h5⟩:=hS.inl n fn hfn
     cases hb:S.E.rb n with
     | true =>
      rw [hb,cond_true] at h
      exact h.elim
     | false =>
      rw [hb,cond_false] at h
      obtain ⟨r,H',hk,m0,hm⟩:=yFJ hS.sb (yaW hS d) (fun hf=>by rw [h7] at hf;cases hf) h5 h1 h6 h
      refine ⟨r,H',hk,m0,fun k e m hkl he hle=>?_⟩
      obtain ⟨_,l2,l3,l4,l5,_,_⟩:=yhE (hS.sb k e he)
      have e0:∀ az,yeM e (ycp e m) n az=none:=by
       intro az;simp only [yeM,l2,l3,h4 az,h2];rfl
      rw [yv7 (hx' k e he)]
      simp only [ykB,e0,l3,l4,l5,h2,h3,hb]
      cases ybv H (first++args++captured) <;> simp only [qAs,if_false,hm k e m hkl he hle]
    ·split at h
     ·rename_i c t x y he
      obtain ⟨hc,h⟩:=yaG.1 h
      subst hc
      obtain ⟨h2,h3,h4,h7⟩:=hS.eff n _ _ _ he
      obtain ⟨r,H',h,hrt⟩:∃ r H',K r H'∧(bif t then x else y)=(r,H'):=by
       cases t with
       | true=>exact ⟨_,_,h,rfl⟩
       | false=>exact ⟨_,_,h,rfl⟩
      refine ⟨r,H',h,1,fun k e m hkl hp hle=>?_⟩
      obtain ⟨k,rfl⟩:∃ k,m=k+1:=⟨m-1,by omega⟩
      obtain ⟨_,l2,l3,l4,l5,_,l7⟩:=yhE (hS.sb _ e hp)
      have e0:∀ az,yeM e (ycp e (k+1)) n az=none:=by
       intro az;simp only [yeM,l2,l3,h4 az,h2];rfl
      have hi:ycp e (k+1) n (first++args++captured) H=some (r,H'):=by
       simp only [ycp,Env.effx,ymH,l7,he,hrt]
      rw [yv7 (hx' _ e hp)]
      simp only [ykB,e0,l3,l4,l5,h2,h3,h7]
      cases ybv H (first++args++captured) <;> simp only [qAs,if_false,hi]
     ·exact h.elim
  ·exact h.elim
theorem yPL (hS:SEOk P S) {d:Nat} {fn:TFn} {n:Nat} (hR:yp9 P S.E (ylD S d) fn.body) (hl:LpOk P S.E S.lp [] fn.body) (hf:S.E.fns n=some fn.fn) (hq:S.E.qui n=true) (hs:∀ az,S.E.sum n az=none) (he:∀ az H,S.E.eff n az H=none) {az:List PV} {K:PV→Prop} (h:WP S d fn az K) (hn:S.E.nl n=false:=by kernel_rfl) :
  ∃ r,K r∧AnsP P n az r:=by
 unfold WP at h
 obtain ⟨r,H',hk,m0,hm⟩:=yFJ hS.sb (yaW hS d) hR hl hf he h
 obtain ⟨q,hk,hq'⟩:=yMk hk
 refine ⟨q,hk,m0,fun k e m hkl hp hle=>?_⟩
 obtain ⟨_,l2,l3,_,_,l6,_⟩:=yhE (hS.sb k e hp)
 simp only [yeM,l2,l3,l6,hs az,hq,hm k e m hkl hp hle,hn,purN,cond_false,hq',if_true]
theorem yBH (hS:SEOk P S) {d:Nat} {fn:TFn} {n:Nat} (hR:yp9 P S.E (ylD S d) fn.body) (hl:LpOk P S.E S.lp [] fn.body) (hf:S.E.fns n=some fn.fn) (he:∀ az H,S.E.eff n az H=none) {az:List PV} {b:HB} {K:PV→List PV→Prop} (h:WPL S d fn az b K) :
  ∃ q rows,K q rows∧AnsL P n az b q rows:=by
 unfold WPL at h
 obtain ⟨r,H',hk,m0,hm⟩:=yFJ hS.sb (yaW hS d) hR hl hf he h
 obtain ⟨q,H2,hk,hq'⟩:=yK2 hk
 split at hk
 ·rename_i b2 hb2
  obtain ⟨hc,hk⟩:=yaG.1 hk
  simp only [qAb,qAx,decide_eq_true_eq] at hc
  refine ⟨q,_,hk,m0,fun k e m hkl hp hle=>?_⟩
  simp only [yFe,hm k e m hkl hp hle,hq',hb2]
  rw [if_pos hc]
 ·exact hk.elim
theorem yp9.flat {E:Env} {c:TC} (h:yeB c=true:=by kernel_rfl):yp9 P E callK c:=fun hf=>by rw [h] at hf;cases hf
end
def AllL (P:EP) (lp:LP) (G:Frm):List (Nat×TC)→Prop
 | []=>True
 | p::r=>(∀ F H Q,lp p.1 G F H Q→yp8 P p.2 F H Q)∧AllL P lp G r
theorem AllL.mem {P:EP} {lp:LP} {G:Frm}:∀ {l:List (Nat×TC)},AllL P lp G l→∀ p∈l,∀ F H Q,lp p.1 G F H Q→yp8 P p.2 F H Q
 | [],_,p,hp=>by cases hp
 | q::r,h,p,hp=>by
  rcases qAk.1 hp with rfl | hp
  ·exact h.1
  ·exact AllL.mem h.2 p hp
theorem ybg {P:EP} {E:Env} {lp:LP} {G:Frm} {c:TC} {l:List (Nat×TC)} (h:AllL P lp G l) (e:ydN c=l) (hf:yeB c=true:=by kernel_rfl):LpOk P E lp G c:=yk5 c hf (by rw [e];exact h.mem)
theorem yar {P:EP} {E:Env} {lp:LP} {G:Frm} {c:TC} (e:ydN c=[]) (hf:yeB c=true:=by kernel_rfl):LpOk P E lp G c:=ybg (l:=[]) trivial e hf
def ydO:List (Nat×(List PV→(PV→Prop)→Prop))→Nat→Option (List PV→(PV→Prop)→Prop)
 | [],_=>none
 | (k,f)::r,n=>bif Nat.beq k n then some f else ydO r n
def ydP:List (Nat×TFn)→Nat→Option TFn
 | [],_=>none
 | (k,f)::r,n=>bif Nat.beq k n then some f else ydP r n
def AllS (P:EP):List (Nat×(List PV→(PV→Prop)→Prop))→Prop
 | []=>True
 | (k,f)::r=>(∀ az K,f az K→∃ q,K q∧AnsP P k az q)∧AllS P r
def AllI (P:EP) (E:Env) (lp:LP):List (Nat×TFn)→Prop
 | []=>True
 | (k,f)::r=>(E.fns k=some f.fn∧E.qui k=false∧E.frz k=false∧(∀ az,E.sum k az=none)∧(∀ az H,E.eff k az H=none)∧yeB f.body=true∧LpOk P E lp [] f.body)∧AllI P E lp r
theorem yBI {P:EP}:∀ (l:List (Nat×(List PV→(PV→Prop)→Prop))),AllS P l→∀ n wp,ydO l n=some wp→∀ az K,wp az K→∃ r,K r∧AnsP P n az r
 | [],_,_,_,h=>by simp [ydO] at h
 | (k,f)::r,hl,n,wp,h=>by
  simp only [AllS] at hl
  simp only [ydO] at h
  cases hc:Nat.beq k n with
  | true =>
   rw [hc] at h
   simp only [cond_true,qAd] at h
   have:=qAh hc
   subst this;subst h
   exact hl.1
  | false =>
   rw [hc] at h
   exact yBI r hl.2 n wp (by simpa using h)
theorem yBJ {P:EP} {E:Env} {lp:LP}:∀ (l:List (Nat×TFn)),AllI P E lp l→∀ n fn,ydP l n=some fn→E.fns n=some fn.fn∧E.qui n=false∧E.frz n=false∧(∀ az,E.sum n az=none)∧(∀ az H,E.eff n az H=none)∧yeB fn.body=true∧LpOk P E lp [] fn.body
 | [],_,_,_,h=>by simp [ydP] at h
 | (k,f)::r,hl,n,fn,h=>by
  simp only [AllI] at hl
  simp only [ydP] at h
  cases hc:Nat.beq k n with
  | true =>
   rw [hc] at h
   simp only [cond_true,qAd] at h
   have:=qAh hc
   subst this;subst h
   exact hl.1
  | false =>
   rw [hc] at h
   exact yBJ r hl.2 n fn (by simpa using h)
def yqa:List (Nat×(List PV→HB→(PV→List PV→Prop)→Prop))→Nat→Option (List PV→HB→(PV→List PV→Prop)→Prop)
 | [],_=>none
 | (k,f)::r,n=>bif Nat.beq k n then some f else yqa r n
def yJP (P:EP):List (Nat×(List PV→HB→(PV→List PV→Prop)→Prop))→Prop
 | []=>True
 | (k,f)::r=>(∀ az b K,f az b K→∃ q rows,K q rows∧AnsL P k az b q rows)∧yJP P r
theorem yHu {P:EP}:∀ (l:List (Nat×(List PV→HB→(PV→List PV→Prop)→Prop))),yJP P l→∀ n wp,yqa l n=some wp→∀ az b K,wp az b K→∃ q rows,K q rows∧AnsL P n az b q rows
 | [],_,_,_,h=>by simp [yqa] at h
 | (k,f)::r,hl,n,wp,h=>by
  simp only [yJP] at hl
  simp only [yqa] at h
  cases hc:Nat.beq k n with
  | true =>
   rw [hc] at h
   simp only [cond_true,qAd] at h
   have:=qAh hc
   subst this;subst h
   exact hl.1
  | false =>
   rw [hc] at h
   exact yHu r hl.2 n wp (by simpa using h)
theorem ylE {P:EP} {E:Env} {ls:List (Nat×(List PV→(PV→Prop)→Prop))} {li:List (Nat×TFn)} {lp:LP} {ll:List (Nat×(List PV→HB→(PV→List PV→Prop)→Prop))} (hb:Sub P E) (hs:AllS P ls) (hi:AllI P E lp li) (he:yHt E) (hL:yJP P ll):SEOk P ⟨E,ydO ls,ydP li,lp,yqa ll⟩ where
 sb:=hb
 sum:=fun n wp h=>yBI ls hs n wp h
 inl:=fun n fn h=>yBJ li hi n fn h
 eff:=he
 sumL:=fun n wp h=>yHu ll hL n wp h
theorem yaE {P:EP} {E:Env} {ls:List (Nat×(List PV→(PV→Prop)→Prop))} {li:List (Nat×TFn)} {lp:LP} (hb:Sub P E) (hs:AllS P ls) (hi:AllI P E lp li) (he:yHt E):SEOk P ⟨E,ydO ls,ydP li,lp,fun _=>none⟩ where
 sb:=hb
 sum:=fun n wp h=>yBI ls hs n wp h
 inl:=fun n fn h=>yBJ li hi n fn h
 eff:=he
 sumL:=fun n wp h=>by cases h
theorem yEC {add sub n:Nat} (h1:Nat.beq n add=false) (h2:Nat.beq n sub=false) (az:List PV):sumC add sub n az=none:=by
 unfold sumC
 split
 ·rw [h1,h2];rfl
 ·rfl
def yli (p0 p1 p2:Int) (K:Int→Int→Prop):Prop :=
 asr (decide (p2.toNat≤1)) (K (((p0.toNat+p1.toNat+p2.toNat) % 18446744073709551616:Nat):Int) (((p0.toNat+p1.toNat+p2.toNat) / 18446744073709551616:Nat):Int))
def yiw:List PV:=([0,1,2,2,3,3,3,3,4,4,4,4,4,4,4,4,5,5,5,5,5,5,5,5,5,5,5,5,5,5,5,5,6,6,6,6,6,6,6,6,6,6,6,6,6,6,6,6,6,6,6,6,6,6,6,6,6,6,6,6,6,6,6,6,7,7,7,7,7,7,7,7,7,7,7,7,7,7,7,7,7,7,7,7,7,7,7,7,7,7,7,7,7,7,7,7,7,7,7,7,7,7,7,7,7,7,7,7,7,7,7,7,7,7,7,7,7,7,7,7,7,7,7,7,7,7,7,7,8,8,8,8,8,8,8,8,8,8,8,8,8,8,8,8,8,8,8,8,8,8,8,8,8,8,8,8,8,8,8,8,8,8,8,8,8,8,8,8,8,8,8,8,8,8,8,8,8,8,8,8,8,8,8,8,8,8,8,8,8,8,8,8,8,8,8,8,8,8,8,8,8,8,8,8,8,8,8,8,8,8,8,8,8,8,8,8,8,8,8,8,8,8,8,8,8,8,8,8,8,8,8,8,8,8,8,8,8,8,8,8,8,8,8,8,8,8,8,8,8,8,8,8,8,8,8,8]:List Int).map (PV.int .u8)
def yui (w:Int→Int→Int→(Int→Int→Prop)→Prop) (az:List PV) (K:PV→Prop):Prop :=
 match az with
 | [(.int .u64 p0),(.int .u64 p1),(.int .u64 p2)]=>w p0 p1 p2 (fun (r0:Int) (r1:Int)=>K (.tup [(.int .u64 r0),(.int .u64 r1)]))
 | _=>False
def yuj (az:List PV) (K:PV→Prop):Prop:=yui yli az K
def ylj (p0 p1 p2:Int) (K:Int→Int→Prop):Prop :=
 asr (decide (p2.toNat≤1)) (K (((p0.toNat+18446744073709551616-p1.toNat-p2.toNat) % 18446744073709551616:Nat):Int) ((bif Nat.ble (p1.toNat+p2.toNat) p0.toNat then 0 else 1:Nat):Int))
def yuk (w:Int→Int→Int→(Int→Int→Prop)→Prop) (az:List PV) (K:PV→Prop):Prop :=
 match az with
 | [(.int .u64 p0),(.int .u64 p1),(.int .u64 p2)]=>w p0 p1 p2 (fun (r0:Int) (r1:Int)=>K (.tup [(.int .u64 r0),(.int .u64 r1)]))
 | _=>False
def yul (az:List PV) (K:PV→Prop):Prop:=yuk ylj az K
theorem yFK {P:Program} {E:Env} (hE:EO P E) (hm:P.follows .mixedOrders=true) {n:Nat} {az:List PV} {r:PV} (hs:E.sum n az=none) (hq:E.qui n=true) (h:AnsS E n az r):yok P E.glob n az r:=by
 obtain ⟨m0,hm0⟩:=h
 have:=hm0 m0 E m0 (qAm _) rfl (qAm _)
 simp only [yeM,hs,hq,if_true] at this
 refine yJz hE hm (n:=m0) ?_
 unfold topV
 split at this
 ·rename_i x H hx;rw [hx];exact this
 ·cases this
end Go.Pf
namespace Go.Pf
open Go Go.RowKit
section
variable {P:Program} {E:Env}
theorem yK3 {b:Bool} {call} (hc:ybL P E call) {I:Nat→Prop} {w:World} {f:Nat} {args:List PV} {vs:List Value} {r q:PV} {H:Hp} (himm:∀ b,I b→b<w.heap.size)
  (hg:∀ n x,E.glob n=some x→I n∧∃ vs,0<vs.length∧RC I w x vs∧At w n 0 vs) (hv:VRs ⟨fun _=>none,fun _=>none,I,fun _=>none⟩ [] w args vs) (hin:call f args []=some (r,H)) (h:purN b H r=some q) :
  yko P f vs.toArray w fun v w'=>Bel w.heap.size w w'∧VP (fun b=>I b∨(w.heap.size≤b∧b<w'.heap.size)) w' q v:=by
 let g0:Gh:=⟨fun _=>none,fun _=>none,I,fun _=>none⟩
 have hr:Rel E 0 g0 [] [] #[] w:=by
  refine ⟨qBf _,fun s fv e=>by simp [fget] at e,fun id hb e=>by simp at e,fun id id' hb b o b' o' e=>by simp at e,fun id b o e=>by simp [g0] at e,fun s s' b e=>by simp [g0] at e,fun s b id o e=>by simp [g0] at e,fun s b e=>by simp [g0] at e,himm,hg⟩
 refine (hc f args [] r H hin 0 g0 [] #[] w vs hr (Lps.none_ fun _=>rfl) hv).mono ?_
 rintro v w' ⟨g',n1,r1,hvr⟩
 obtain ⟨g2,H2,r2,n2,hvp⟩:=yBe r1 hvr h
 have n3:=n1.trans n2
 have noR:∀ b,¬RngR g0 b:=fun b ⟨id,o,e⟩=>by simp [g0] at e
 have noM:∀ b,¬MutF g0 b:=fun b ⟨s,e⟩=>by simp [g0] at e
 refine ⟨⟨⟨n3.os,n3.tape,n3.output,n3.size,fun k hk=>n3.kept k hk (noR k) (noM k)⟩,n3.drawn⟩,yFs (fun b hb=>⟨?_,rfl⟩) hvp⟩
 rcases qA6 b w.heap.size with h1 | h1
 ·rcases hb with hb | hb
  ·rcases n3.immb b h1 hb with h2 | h2
   ·exact .inl h2
   ·exact absurd h2 (noR b)
  ·exact absurd (n3.rng b h1 hb) (noR b)
 ·exact .inr ⟨h1,hb.elim (r2.imm b) r2.brng⟩
theorem yPb (hE:EO P E) (hm:P.follows .mixedOrders=true) {n f:Nat} {q:PV} (h:∀ b,topV E n f [.mt b]=some q):yok P E.glob f [.data []] q:=by
 intro I w vs himm hgl hv
 simp only [VPs,VP1,RC] at hv
 obtain ⟨v,vr,rfl,⟨a,len,cap,e,hl,hc,hm2,_⟩,rfl⟩:=hv
 simp only [qA1,and_true] at e
 subst e
 have hl:len=0:=hl
 subst hl
 have hh:=h a.isNone
 unfold topV at hh
 split at hh
 ·rename_i r H hin
  refine yK3 (yol hE hm n) himm hgl (args:=[.mt a.isNone]) ?_ hin hh
  simp only [VRs,VR]
  exact ⟨_,_,rfl,⟨a,cap,rfl,hm2,rfl⟩,rfl⟩
 ·cases hh
end
def ylF (esz bytes:Nat) (z:PV):AFn:=⟨1,[.tmp 2],
 (.seq
  (.ops [⟨some 2,(.mv (.c .nils)),none⟩] [] [2])
  (.seq
   (.seq
    (.ops [⟨some 3,(.mv (.t 0)),none⟩,
     ⟨some 4,(.eqN false (.t 3)),none⟩] [] [3])
    (.cond (.t 4)
     (.seq (.ops [⟨some 2,(.mv (.c .nils)),none⟩] [] [0,4]) .ret)
     .skip))
   (.seq
    (.ops [⟨some 5,(.bSl true esz z 0 []),none⟩,
     ⟨some 6,(.mv (.t 0)),none⟩,
     ⟨some 7,(.app true esz bytes (.t 5) (.t 6)),none⟩,
     ⟨some 2,(.mv (.t 7)),none⟩] [] [0,4,5,6,7])
    .ret)))⟩
abbrev ygi:=List (Nat×Nat×Nat)
def yfM (esz bytes:Nat) (rows:List PV):Bool:=yd6 esz rows&&decide ((rows.length+64)*(bytes+1)≤room)
def yix:ygi→Nat→List PV→Option PV
 | [],_,_=>none
 | (k,esz,bytes)::r,n,az=>bif Nat.beq k n then (match az with
  | [.data rows]=>(bif yfM esz bytes rows then some (.data rows) else none)
  | _=>none) else yix r n az
def yv8:ygi→Nat→Bool
 | [],_=>false
 | (k,_,_)::r,n=>Nat.beq k n||yv8 r n
section
variable {P:Program} {E:Env}
theorem yMo {n esz bytes:Nat} {z:PV} (hf:E.fns n=some (ylF esz bytes z)) (he:∀ az H,E.eff n az H=none) (hnl:E.nl n=false) (b:Bool):topV E 12 n [.mt b]=some (.data []):=by
 unfold topV
 cases b <;> simp [ycp,Env.effx,ymH,he,exec,hf,ylF,ynk,ygf,yjy,yex,yaB,evV,ev,ykC,fget,fset,fdels,fdel,ygr,yeC,outV,Option.map,yjz,yy8,yjA,purN,hnl,purR,ycK,ygq,appV,yhU,yd6,yp2]
theorem yIK {n esz bytes:Nat} {z:PV} (hf:E.fns n=some (ylF esz bytes z)) (he:∀ az H,E.eff n az H=none) (hnl:E.nl n=false) {x:PV} {r:List PV} (h:yfM esz bytes (x::r)=true):topV E 12 n [.data (x::r)]=some (.data (x::r)):=by
 simp only [yfM,qAb,decide_eq_true_eq,qAo] at h
 obtain ⟨h1,h2⟩:=h
 unfold topV
 simp [ycp,Env.effx,ymH,he,exec,hf,ylF,ynk,ygf,yjy,yex,yaB,evV,ev,ykC,fget,fset,fdels,fdel,ygr,yeC,outV,Option.map,yjz,yy8,yjA,purN,hnl,purR,ycK,ygq,appV,yhU,h1,yp2,ydF,h2]
theorem yzp (hE:EO P E) (hm:P.follows .mixedOrders=true) (he:∀ n az H,E.eff n az H=none) (hnl:∀ n,E.nl n=false):∀ (cl:ygi),(∀ n esz bytes,(n,esz,bytes)∈cl→∃ z,E.fns n=some (ylF esz bytes z))→∀ n az r,yix cl n az=some r→yok P E.glob n az r
 | [],_,_,_,_,h=>by simp [yix] at h
 | (k,esz,bytes)::t,hc,n,az,r,h=>by
  simp only [yix] at h
  cases hb:Nat.beq k n with
  | false=>rw [hb] at h;exact yzp hE hm he hnl t (fun n e b hm=>hc n e b (qAf _ hm)) n az r (by simpa using h)
  | true =>
   rw [hb] at h
   have e:=qAh hb
   subst e
   simp only [cond_true] at h
   split at h
   ·rename_i rows
    cases hk:yfM esz bytes rows with
    | false=>rw [hk] at h;simp at h
    | true =>
     rw [hk] at h
     simp only [cond_true,qAd] at h
     subst h
     obtain ⟨z,hf⟩:=hc k esz bytes qAg
     cases rows with
     | nil=>exact yPb hE hm (fun b=>yMo hf (he k) (hnl k) b)
     | cons x r=>exact yJz hE hm (yIK hf (he k) (hnl k) hk)
   ·cases h
end
def yOG:List (Nat×PV)→Nat→Option PV
 | [],_=>none
 | (k,a)::r,n=>bif Nat.beq k n then some a else yOG r n
theorem yok.any {P:Program} {G:Nat→Option PV} {f:FuncId} {az:List PV} {r:PV} (h:yok P (fun _=>none) f az r):yok P G f az r :=
 fun I w vs hI _ hv=>h I w vs hI (fun _ _ e=>nomatch e) hv
def yqb (add sub:Nat) (tab:List (Nat×AFn)) (qui:List Nat) (cl:ygi) (gl:List (Nat×PV)):Env :=
 { glob:=yOG gl,sum:=fun n az=>match sumC add sub n az with | some r=>some r | none=>yix cl n az,fns:=yBp tab,frz:=fun _=>false,qui:=memN qui,nl:=fun n=>memN qui (n+1000000),rb:=fun n=>memN qui (n+3000000),lo:=fun n=>bif memN qui (n+4000000) then some 1 else bif memN qui (n+5000000) then some 0 else bif memN qui (n+2000000) then some 4 else none,dn:=fun n=>memN qui (n+6000000) }
def yv9 (add sub:Nat) (cl:ygi) (n:Nat):Bool:=Nat.beq n add||(Nat.beq n sub||yv8 cl n)
theorem ytD:∀ (cl:ygi) (n:Nat) (az:List PV),yv8 cl n=false→yix cl n az=none
 | [],_,_,_=>rfl
 | (k,_,_)::r,n,az,h=>by
  simp only [yv8,qB7] at h
  simp only [yix,h.1,cond_false]
  exact ytD r n az h.2
theorem yIL {add sub:Nat} {tab:List (Nat×AFn)} {qui:List Nat} {cl:ygi} {gl:List (Nat×PV)} {n:Nat} (h:yv9 add sub cl n=false) (az:List PV):(yqb add sub tab qui cl gl).sum n az=none:=by
 simp only [yv9,qB7] at h
 simp only [yqb,yEC h.1 h.2.1,ytD cl n az h.2.2]
def yJQ (esz bytes:Nat) (p0:List PV) (K:List PV→Prop):Prop:=asr (yfM esz bytes p0) (K p0)
def yBK (w:List PV→(List PV→Prop)→Prop) (az:List PV) (K:PV→Prop):Prop :=
 match az with
 | [(.data p0)]=>w p0 (fun r0=>K (.data r0))
 | _=>False
def yBL (esz bytes:Nat) (az:List PV) (K:PV→Prop):Prop:=yBK (yJQ esz bytes) az K
def ywa:ygi→Nat→Option (Nat×Nat)
 | [],_=>none
 | (k,e,b)::r,n=>bif Nat.beq k n then some (e,b) else ywa r n
theorem yzq {n esz bytes:Nat} {rows:List PV}:∀ (cl:ygi),ywa cl n=some (esz,bytes)→yfM esz bytes rows=true→yix cl n [.data rows]=some (.data rows)
 | [],h,_=>by simp [ywa] at h
 | (k,e,b)::r,h,hk=>by
  simp only [ywa] at h
  simp only [yix]
  cases hb:Nat.beq k n with
  | true=>rw [hb] at h;simp only [cond_true,qAd,Prod.mk.injEq] at h;obtain ⟨rfl,rfl⟩:=h;simp only [cond_true,hk]
  | false=>rw [hb] at h;simp only [cond_false] at h ⊢;exact yzq r h hk
theorem yMp {P:Program} {add sub:Nat} {tab:List (Nat×AFn)} {qui:List Nat} {cl:ygi} {gl:List (Nat×PV)} (hm:P.follows .mixedOrders=true) (ha:IsExtern P add add64Entry) (hs:IsExtern P sub yBs) (ht:yBq P tab)
  (hd:∀ n∈dnL qui,yPK P n) (hc:∀ n esz bytes,(n,esz,bytes)∈cl→∃ z,yBp tab n=some (ylF esz bytes z)):EO P (yqb add sub tab qui cl gl) where
 sum:=by
  intro n az r h
  simp only [yqb] at h
  split at h
  ·rename_i q hq;cases h;exact yJB ha hs n az _ hq
  ·exact (yzp (yNW (qui:=[]) ha hs ht) hm (fun _ _ _=>rfl) (fun _=>rfl) cl (fun n e b hmem=>hc n e b hmem) n az r h).any
 fns:=fun n fn h=>yBr tab ht n fn h
 eff:=fun _ _ _ _ _ _ _ h=>by cases h
 dn:=fun n h=>hd n (yJC h)
 top:=fun _ _=>rfl
 yl:=fun _ _ _ _ _ _ h=>by cases h
end Go.Pf
namespace Go.Pf
abbrev Ls:Type:=List PV
def O (d:Nat) (x:AOp):AO:=⟨some d,x,none⟩
def M (d s:Nat):AO:=⟨some d,.mv (.t s),none⟩
def I (n:Int):Opd:=.c (.int .i64 n)
abbrev OkF (E:Env) (wp:List PV→(PV→Prop)→Prop) (n:Nat):Prop:=∀ az K,wp az K→∃ r,K r∧Ans E n az r
abbrev OkL (E:Env) (wp:List PV→HB→(PV→List PV→Prop)→Prop) (n:Nat):Prop:=∀ az b K,wp az b K→∃ q rows,K q rows∧AnsL (Uni E) n az b q rows
abbrev OkS (E:Env) (wp:List PV→(PV→Prop)→Prop) (n:Nat):Prop:=∀ az K,wp az K→∃ r,K r∧AnsS E n az r
theorem OkF.solo {E:Env} {wp:List PV→(PV→Prop)→Prop} {n:Nat} (h:OkF E wp n):OkS E wp n:=fun az K k=>by
 obtain ⟨r,h1,h2⟩:=h az K k
 exact ⟨r,h1,h2.solo⟩
theorem AnsS.unique {E:Env} {n:Nat} {az:List PV} {r r':PV} (h:AnsS E n az r) (h':AnsS E n az r'):r=r':=by
 obtain ⟨m,hm⟩:=h
 obtain ⟨m',hm'⟩:=h'
 have e:=hm (m+m') E (m+m') (by omega) rfl (by omega)
 rw [hm' (m+m') E (m+m') (by omega) rfl (by omega)] at e
 exact (Option.some.inj e).symm
theorem Ans.unique {E:Env} {n:Nat} {az:List PV} {r r':PV} (h:Ans E n az r) (h':Ans E n az r'):r=r':=AnsS.unique h.solo h'.solo
theorem detS {E:Env} {n:Nat} {wp:List PV→(PV→Prop)→Prop} (ok:OkS E wp n) {az:List PV} {x:PV}
  (h:∀ K:PV→Prop,K x→wp az K) {K:PV→Prop} (k:wp az K):K x:=by
 obtain ⟨r,h1,h2⟩:=ok az K k
 obtain ⟨q,h3,h4⟩:=ok az (fun y=>y=x) (h _ rfl)
 subst h3
 rw [← h2.unique h4]
 exact h1
theorem detC {E:Env} {n:Nat} {wp:List PV→(PV→Prop)→Prop} (ok:∀ az K,wp az K→∃ r,K r∧Ans E n az r) {az:List PV} {x:PV}
 (h:∀ K:PV→Prop,K x→wp az K) {K:PV→Prop} (k:wp az K):K x:=detS (OkF.solo ok) h k
end Go.Pf
namespace Go.Pf
open Go
inductive DS where
 | b
 | i (k:IntKind)
 | s (e:DS)
 | a (l:List DS)
def DS.isA:DS→Bool
 | .a _=>true
 | _=>false
def PV.isAgg:PV→Bool
 | .agg _=>true
 | _=>false
mutual
def HasF:DS→List PV→Prop
 | .b,c=>∃ x,c=[.bool x]
 | .i k,c=>∃ n,c=[.int k n]∧inK k n
 | .s e,c=>∃ rows:List PV,c=[.data rows]∧rows.length≤maxLen∧∀ x∈rows,x.isAgg=e.isA∧HasF e x.cells
 | .a l,c=>HasL l c
def HasL:List DS→List PV→Prop
 | [],c=>c=[]
 | d::l,c=>∃ c1 c2,c=c1++c2∧HasF d c1∧HasL l c2
end
mutual
def tyOk (P:Program):DS→TypeId→Bool
 | .b,t=>(match P.underlying t with | some .bool=>true | _=>false)
 | .i k,t=>(match P.underlying t with | some (.int q)=>decide (q=k) | _=>false)
 | .s e,t=>(match P.underlying t with | some (.slice u)=>decide (0<P.cellsOf u)&&tyOk P e u | _=>false)
 | .a l,t=>(match P.underlying t with | some (.struct fs)=>tyL P l (fs.toList.map (·.type)) | some (.array n u)=>tyL P l (List.replicate n u) | _=>false)
def tyL (P:Program):List DS→List TypeId→Bool
 | [],[]=>true
 | d::l,t::r=>tyOk P d t&&tyL P l r
 | _,_=>false
end
theorem yJR (P:Program):∀ (l:List DS) (ts:List TypeId),tyL P l ts=true→l.length=ts.length
 | [],[],_=>rfl
 | _::l,_::r,h=>by
  unfold tyL at h
  simp only [qAb] at h
  simp [yJR P l r h.2]
 | [],_::_,h=>by unfold tyL at h;cases h
 | _::_,[],h=>by unfold tyL at h;cases h
theorem yJS (P:Program):∀ (l:List DS) (ts:List TypeId),tyL P l ts=true→∀ (j:Nat) d t,l[j]?=some d→ts[j]?=some t→tyOk P d t=true
 | [],[],_,_,_,_,h,_=>by simp at h
 | d::l,t::r,h,0,d',t',h1,h2=>by
  unfold tyL at h
  simp only [qAb] at h
  simp only [List.getElem?_cons_zero,qAd] at h1 h2
  subst h1;subst h2;exact h.1
 | d::l,t::r,h,j+1,d',t',h1,h2=>by
  unfold tyL at h
  simp only [qAb] at h
  exact yJS P l r h.2 j d' t' (by simpa using h1) (by simpa using h2)
 | [],_::_,h,_,_,_,_,_=>by unfold tyL at h;cases h
 | _::_,[],h,_,_,_,_,_=>by unfold tyL at h;cases h
section
variable {H:Type} {enc:TypeId×Value→H} {P:Program} {w:World} {I:Nat→Prop}
theorem yIM {l1 l2:List PV} {v1 v2:List Value} (h1:ybc I w l1 v1) (h2:ybc I w l2 v2):ybc I w (l1++l2) (v1++v2):=ynn h1 h2
def yOH (enc:TypeId×Value→H) (P:Program) (w:World) (I:Nat→Prop) (n:Nat):Prop :=
 ∀ (d:DS) (t:TypeId) (cs:List Value) (x:DataW H×List MemPlace),t<P.types.size→tyOk P d t=true→DataW.trod enc P w 0 (fun _=>true) true n t cs=some x→(∀ p∈x.2,I p.block)→∃ pcs,HasF d pcs∧ybc I w pcs cs
theorem yBM {n:Nat} (ih:yOH enc P w I n) {l:List DS} {ts:List TypeId} (hl:tyL P l ts=true) (hrow:∀ t∈ts,t<P.types.size) {cs:List Value} {xs:List (DataW H×List MemPlace)} (off:Nat→Nat)
  (hoff:∀ j t,ts[j]?=some t→off (j+1)=off j+P.cellsOf t) (hend:cs.length≤off ts.length) (hx:∀ j t,ts[j]?=some t→DataW.trod enc P w 0 (fun _=>true) true n t ((cs.drop (off j)).take (P.cellsOf t))=xs[j]?)
  (hxl:xs.length=ts.length) (hI:∀ p∈xs.flatMap (·.2),I p.block) :
  ∀ (r j:Nat),j+r=ts.length→∃ pcs,HasL (l.drop j) pcs∧ybc I w pcs (cs.drop (off j)):=by
 have hll:=yJR P l ts hl
 intro r
 induction r with
 | zero =>
  intro j hj
  refine ⟨[],?_,?_⟩
  ·rw [qA3 (by omega)];simp only [HasL]
  ·rw [qA3 (by rw [show j=ts.length by omega];exact hend)];simp only [ybc]
 | succ r ihr =>
  intro j hj
  obtain ⟨pcs,h1,h2⟩:=ihr (j+1) (by omega)
  have ht:ts[j]?=some ts[j]:=qAc (by omega)
  have hd:l[j]?=some l[j]:=qAc (by omega)
  have hxj:xs[j]?=some xs[j]:=qAc (by omega)
  have h:=hx j _ ht
  rw [hxj] at h
  obtain ⟨pc,k1,k2⟩:=ih l[j] ts[j] _ _ (hrow _ (qB5 _)) (yJS P l ts hl j _ _ hd ht) h (fun p hp=>hI p (List.mem_flatMap.2 ⟨xs[j],qB5 _,hp⟩))
  refine ⟨pc++pcs,?_,?_⟩
  ·rw [List.drop_eq_getElem_cons (by omega)]
   simp only [HasL]
   exact ⟨pc,pcs,rfl,k1,h1⟩
  ·have e:cs.drop (off j)=(cs.drop (off j)).take (P.cellsOf ts[j])++cs.drop (off (j+1)):=by
    rw [hoff j _ ht,← List.drop_drop,List.take_append_drop]
   rw [e]
   exact yIM k2 h2
theorem yPc {d:DS} {pcs:List PV} (h:HasF d pcs):∃ x:PV,x.isAgg=d.isA∧x.cells=pcs∧∀ vs,ybc I w pcs vs→RC I w x vs:=by
 have one:∀ y:PV,y.isAgg=false→pcs=[y]→d.isA=false→∃ x:PV,x.isAgg=d.isA∧x.cells=pcs∧∀ vs,ybc I w pcs vs→RC I w x vs:=by
  intro y hy e hd
  refine ⟨y,hy.trans hd.symm,?_,?_⟩
  ·subst e;cases y <;> first | rfl | cases hy
  ·intro vs hv
   subst e
   simp only [ybc] at hv
   obtain ⟨v,vr,rfl,_,h1,rfl⟩:=hv
   exact h1
 cases d with
 | b=>simp only [HasF] at h;obtain ⟨x,e⟩:=h;exact one _ rfl e rfl
 | i k=>simp only [HasF] at h;obtain ⟨x,e,_⟩:=h;exact one _ rfl e rfl
 | s e=>simp only [HasF] at h;obtain ⟨x,e,_⟩:=h;exact one _ rfl e rfl
 | a l=>exact ⟨.agg pcs,rfl,rfl,fun vs hv=>by simp only [RC];exact hv⟩
theorem yIN (K:Kids P (·<P.types.size)):∀ n,yOH enc P w I n:=by
 intro n
 induction n with
 | zero=>intro d t cs x _ _ h;simp [DataW.trod] at h
 | succ n ih =>
  intro d t cs x hrow hty h hI
  cases d with
  | b =>
   unfold tyOk at hty
   split at hty
   ·rename_i ht
    obtain ⟨b,rfl,_⟩:=DataW.trod_bool ht h
    refine ⟨[.bool b],by simp only [HasF];exact ⟨b,rfl⟩,?_⟩
    simp only [ybc,RC]
    exact ⟨_,_,rfl,rfl,rfl,rfl⟩
   ·cases hty
  | i k =>
   unfold tyOk at hty
   split at hty
   ·rename_i q ht
    simp only [decide_eq_true_eq] at hty
    subst hty
    obtain ⟨m,rfl,_,hw⟩:=DataW.trod_int ht h
    have hk:inK q m:=by
     unfold inK
     simpa [Lit.wf] using hw
    refine ⟨[.int q m],by simp only [HasF];exact ⟨m,rfl,hk⟩,?_⟩
    simp only [ybc,RC]
    exact ⟨_,_,rfl,rfl,⟨rfl,hk⟩,rfl⟩
   ·cases hty
  | s e =>
   unfold tyOk at hty
   split at hty
   ·rename_i u ht
    simp only [qAb,decide_eq_true_eq] at hty
    obtain ⟨hpos,hty⟩:=hty
    rcases DataW.trod_slice ht h with ⟨rfl,_⟩ | ⟨a,len,cap,elems,rest,m,hm,rfl,rfl,_,hle,hcap,hlen,hel,_⟩
    ·refine ⟨[.data []],?_,?_⟩
     ·simp only [HasF];exact ⟨[],rfl,by simp,by simp⟩
     ·simp only [ybc,RC]
      exact ⟨_,_,rfl,rfl,⟨none,0,0,rfl,rfl,by omega,by decide,by simp⟩,rfl⟩
    ·have hmn:m=n:=by omega
     subst hmn
     have hru:=K.slice hrow ht
     have hspot0:len≠0→a.spot=none:=by
      intro h0
      have hb:=hel 0 (by omega)
      rw [qAc (by omega)] at hb
      obtain ⟨cs',hc,hy⟩:=Option.bind_eq_some_iff.1 hb
      obtain ⟨_,hcl,hcg⟩:=World.cells?_some hc
      have h0:=hcg 0 hpos
      rw [qAc (by omega)] at h0
      have e0:(a.add (0*P.cellsOf u)).add 0=a:=by simp [Addr.add]
      rw [e0] at h0
      unfold World.cell? at h0
      split at h0
      ·split at h0
       ·cases h0
       ·rename_i hs;simpa using hs
      ·cases h0
     have hadd:a.spot=none→∀ k i:Nat,(a.add k).add i=⟨a.block,a.off+k+i,none⟩:=by
      intro hs k i
      obtain ⟨ab,ao,az⟩:=a
      simp only at hs
      subst hs
      simp only [Addr.add]
      by_cases h1:k=0 <;> by_cases h2:i=0 <;> simp [h1,h2,Nat.add_assoc]
     have yhU:∀ (r j:Nat),j+r=len→∃ rows:List PV,rows.length=r∧(∀ x∈rows,x.isAgg=e.isA∧HasF e x.cells)∧(r≠0→a.spot=none∧I a.block)∧ycT I w rows (P.cellsOf u) a.block (a.off+j*P.cellsOf u):=by
      intro r
      induction r with
      | zero=>intro j _;exact ⟨[],rfl,by simp,fun h=>absurd rfl h,by simp only [ycT]⟩
      | succ r ihr =>
       intro j hj
       obtain ⟨rows,l1,l2,_,l4⟩:=ihr (j+1) (by omega)
       have hj2:j<elems.length:=by omega
       have hb:=hel j (by omega)
       rw [qAc hj2] at hb
       obtain ⟨cs',hc,hy⟩:=Option.bind_eq_some_iff.1 hb
       obtain ⟨_,hcl,hcg⟩:=World.cells?_some hc
       obtain ⟨pcs,k1,k2⟩:=ih e u cs' _ hru hty hy (fun p hp=>hI p (by
        simp only [qAy,List.mem_flatMap]
        exact .inr ⟨elems[j],.inl (qB5 _),hp⟩))
       obtain ⟨x,x1,x2,x3⟩:=yPc (I:=I) (w:=w) k1
       have hspot:=hspot0 (by omega)
       have hIa:I a.block:=hI (.cell a.block a.off) (by
        simp only [qAy]
        left
        exact MemPlace.mem_row.2 ⟨0,Nat.mul_pos (by omega) hpos,rfl⟩)
       refine ⟨x::rows,by simp [l1],?_,fun _=>⟨hspot,hIa⟩,?_⟩
       ·intro y hy
        rcases qAk.1 hy with rfl | hy
        ·exact ⟨x1,by rw [x2];exact k1⟩
        ·exact l2 y hy
       ·simp only [ycT]
        refine ⟨⟨cs',hcl,x3 _ k2,?_⟩,?_⟩
        ·intro i v hi
         have hi2:i<P.cellsOf u:=by rw [← hcl];exact (qBz.1 hi).1
         have:=hcg i hi2
         rw [hi] at this
         rw [← this,hadd hspot]
        ·rw [Nat.add_assoc,show j*P.cellsOf u+P.cellsOf u=(j+1)*P.cellsOf u by rw [qAp,qBe]]
         exact l4
     obtain ⟨rows,l1,l2,l3,l4⟩:=yhU len 0 (by omega)
     refine ⟨[.data rows],?_,?_⟩
     ·simp only [HasF];exact ⟨rows,rfl,by omega,l2⟩
     ·simp only [ybc,RC]
      refine ⟨_,_,rfl,rfl,⟨some a,len,cap,rfl,l1.symm,hle,hcap,?_⟩,rfl⟩
      by_cases h0:len=0
      ·left;exact qAl (by omega)
      ·right
       obtain ⟨hs,hIa⟩:=l3 h0
       refine ⟨a.block,a.off,P.cellsOf u,?_,hIa,hpos,by simpa using l4⟩
       cases a;simp only at hs;subst hs;rfl
   ·cases hty
  | a l =>
   unfold tyOk at hty
   split at hty
   ·rename_i fs ht
    obtain ⟨xs,m,hm,rfl,hcl,hxl,hxs⟩:=DataW.trod_struct ht h
    have hmn:m=n:=by omega
    subst hmn
    obtain ⟨k1,k2,k3⟩:=K.struct hrow ht
    have:=yBM ih (l:=l) (ts:=fs.toList.map (·.type)) hty (fun t ht=>by obtain ⟨f,hf,rfl⟩:=qBl.1 ht;exact k1 f hf) (cs:=cs) (xs:=xs) (fun j=>((fs.toList.take j).map fun f=>P.cellsOf f.type).sum)
     (fun j t hj=>by
      rw [qA9,qA5] at hj
      obtain ⟨f,hf,rfl⟩:=hj
      obtain ⟨hlt,hf2⟩:=qBz.1 hf
      show ((fs.toList.take (j+1)).map _).sum=_
      rw [List.take_add_one,hf]
      simp)
     (by simp only [qAq,qAw];rw [hcl,k2];exact qAm _)
     (fun j t hj=>by
      rw [qA9,qA5] at hj
      obtain ⟨f,hf,rfl⟩:=hj
      have:=hxs j f (by simpa using hf)
      rw [← this,k3 j f hf])
     (by simp [hxl]) hI (fs.toList.map (·.type)).length 0 (by omega)
    obtain ⟨pcs,p1,p2⟩:=this
    exact ⟨pcs,by simp only [HasF];exact p1,by simpa using p2⟩
   ·rename_i q u ht
    obtain ⟨xs,m,hm,rfl,hcl,hxl,hxs⟩:=DataW.trod_array ht h
    have hmn:m=n:=by omega
    subst hmn
    obtain ⟨k1,k2⟩:=K.array hrow ht
    have:=yBM ih (l:=l) (ts:=List.replicate q u) hty (fun t ht=>by rw [(List.mem_replicate.1 ht).2];exact k1) (cs:=cs) (xs:=xs) (fun j=>j*P.cellsOf u)
     (fun j t hj=>by
      have:t=u:=(List.mem_replicate.1 (List.mem_of_getElem? hj)).2
      subst this
      show (j+1)*_=_
      rw [qAp,qBe])
     (by rw [qBg,hcl,k2];exact qAm _)
     (fun j t hj=>by
      have e:t=u:=(List.mem_replicate.1 (List.mem_of_getElem? hj)).2
      subst e
      have hlt:j<q:=by have:=(qBz.1 hj).1;simpa using this
      exact hxs j hlt)
     (by simp [hxl]) hI (List.replicate q u).length 0 (by omega)
    obtain ⟨pcs,p1,p2⟩:=this
    exact ⟨pcs,by simp only [HasF];exact p1,by simpa using p2⟩
   ·cases hty
end
end Go.Pf
namespace Go.Pf
open Go Go.ChangeShapes Go.WideShapes Go.ChangeAt Go.RowKit
def ywb:List DS→List PV→Prop
 | [],az=>az=[]
 | d::l,az=>∃ x r,az=x::r∧x.isAgg=d.isA∧HasF d x.cells∧ywb l r
section
variable {H:Type} {enc:TypeId×Value→H} {P:Program}
theorem yMq (K:Kids P (·<P.types.size)) {w:World} {I:Nat→Prop} {base:Nat} {d:DS} {t:TypeId} {v:Value} {x:DataW H} {p:List MemPlace} (hrow:t<P.types.size) (hty:tyOk P d t=true)
  (hval:Value.okWide P w .any base t v) (h:DataW.Trod enc P w 0 (fun _=>true) true t v x p) (hI:∀ q∈p,I q.block) :
  ∃ y:PV,y.isAgg=d.isA∧HasF d y.cells∧VP1 I w y v:=by
 obtain ⟨n,hn⟩:=h
 obtain ⟨pcs,h1,h2⟩:=yIN (I:=I) K n d t _ _ hrow hty hn hI
 have single:∀ y:PV,pcs=[y]→y.isAgg=false→d.isA=false→v.cells.toList=[v]→∃ y:PV,y.isAgg=d.isA∧HasF d y.cells∧VP1 I w y v:=by
  intro y e hy hd hv
  subst e
  refine ⟨y,hy.trans hd.symm,?_,?_⟩
  ·have:y.cells=[y]:=by cases y <;> first | rfl | cases hy
   rw [this];exact h1
  ·rw [hv] at h2
   simp only [ybc] at h2
   obtain ⟨u,vr,e,_,h3,h4⟩:=h2
   simp only [qA1] at e
   obtain ⟨rfl,_⟩:=e
   cases y <;> first | exact h3 | (simp only [RC] at h3;done) | (simp only [VP1];exact h3) | cases hy
 cases d with
 | b =>
  unfold tyOk at hty
  split at hty
  ·rename_i ht
   obtain ⟨b,rfl⟩:=okWide_bool ht hval
   simp only [HasF] at h1
   obtain ⟨z,e⟩:=h1
   exact single _ e rfl rfl rfl
  ·cases hty
 | i k =>
  unfold tyOk at hty
  split at hty
  ·rename_i q ht
   obtain ⟨m,rfl⟩:=okWide_int ht hval
   simp only [HasF] at h1
   obtain ⟨z,e,_⟩:=h1
   exact single _ e rfl rfl rfl
  ·cases hty
 | s e =>
  unfold tyOk at hty
  split at hty
  ·rename_i u ht
   obtain ⟨a,len,cap,rfl⟩:=okWide_slice ht hval
   simp only [HasF] at h1
   obtain ⟨z,e,_⟩:=h1
   exact single _ e rfl rfl rfl
  ·cases hty
 | a l =>
  have key:∀ cs,v=.agg cs→∃ y:PV,y.isAgg=(DS.a l).isA∧HasF (DS.a l) y.cells∧VP1 I w y v:=by
   rintro cs rfl
   refine ⟨.agg pcs,rfl,h1,?_⟩
   simp only [VP1]
   exact ⟨cs.toList,rfl,h2⟩
  unfold tyOk at hty
  split at hty
  ·rename_i fs ht
   obtain ⟨cs,e,_⟩:=okWide_struct ht hval
   exact key cs e
  ·rename_i q u ht
   have hval2:=hval
   unfold Value.okWide at hval2
   rw [ht] at hval2
   obtain ⟨cs,e,_⟩:=hval2
   exact key cs e
  ·cases hty
theorem yED (K:Kids P (·<P.types.size)) {w:World} {I:Nat→Prop} {base:Nat}:∀ (ts:List TypeId) (dss:List DS) (vs:List Value) (xs:List (DataW H)) (p:List MemPlace),tyL P dss ts=true→(∀ t∈ts,t<P.types.size) →
  (∀ (j:Nat) t v,ts[j]?=some t→vs[j]?=some v→Value.okWide P w .any base t v)→DataW.TrodAll enc P w 0 (fun _=>true) true ts vs xs p→(∀ q∈p,I q.block)→∃ az,ywb dss az∧VPs I w az vs
 | [],[],[],[],p,_,_,_,_,_=>⟨[],by simp only [ywb],by simp only [VPs]⟩
 | t::ts,d::dss,v::vs,x::xs,p,hty,hrow,hval,h,hI=>by
  unfold tyL at hty
  simp only [qAb] at hty
  obtain ⟨p1,q,h1,h2,rfl⟩:=h
  obtain ⟨y,y1,y2,y3⟩:=yMq K (hrow t (qAg ..)) hty.1 (hval 0 t v rfl rfl) h1 (fun z hz=>hI z (List.mem_append_left _ hz))
  obtain ⟨az,a1,a2⟩:=yED K ts dss vs xs q hty.2 (fun u hu=>hrow u (qAf _ hu)) (fun j u z hj hz=>hval (j+1) u z hj hz) h2 (fun z hz=>hI z (List.mem_append_right _ hz))
  refine ⟨y::az,?_,?_⟩
  ·simp only [ywb];exact ⟨y,az,rfl,y1,y2,a1⟩
  ·simp only [VPs];exact ⟨v,vs,rfl,y3,a2⟩
 | [],_::_,_,_,_,hty,_,_,_,_=>by unfold tyL at hty;cases hty
 | _::_,[],_,_,_,hty,_,_,_,_=>by unfold tyL at hty;cases hty
 | [],[],_::_,_,_,_,_,_,h,_=>h.elim
 | [],[],[],_::_,_,_,_,_,h,_=>h.elim
 | _::_,_::_,[],_,_,_,_,_,h,_=>h.elim
 | _::_,_::_,_::_,[],_,_,_,_,h,_=>h.elim
theorem yK4 (K:Kids P (·<P.types.size)) {n:FuncId} {fn:Func} {G:Nat→Option PV} {dss:List DS} {ts:List TypeId} (hty:tyL P dss ts=true) (hrow:∀ t∈ts,t<P.types.size)
  (hf : P.funcs[n]? = some fn) (hn : (fn.name == "runtime.NumGoroutine") = false) (hb : fn.body.isSome = true) (hsum : ∀ az, ywb dss az → yok P G n az (.bool true))
  {W:World} {base:Nat} {args:Array Value} {ds:List (DataW H)} {p:List MemPlace} {I:Nat→Prop} (hval:∀ (j:Nat) t v,ts[j]?=some t→args.toList[j]?=some v→Value.okWide P W .any base t v)
  (hA:DataW.TrodAll enc P W 0 (fun _=>true) true ts args.toList ds p) (hI:∀ q∈p,I q.block) (himm:∀ b,I b→b<W.heap.size) (hG:yIn G I W) :
  Calls P n args W fun e W'=>e=.returned (.bool true)∧Below W.heap.size W W':=by
 obtain ⟨az,a1,a2⟩:=yED (I:=I) K ts dss args.toList ds p hty hrow hval hA hI
 have h:=hsum az a1 I W args.toList himm hG a2
 have e:(callFunc n (args.toList).toArray).run P W=.ok (.enter n args) W:=by
  have h1 : fn.name ≠ "runtime.NumGoroutine" := by simpa using hn
  obtain ⟨c,hc⟩:=Option.isSome_iff_exists.1 hb
  simp [callFunc,hf,h1,hc]
 unfold yko at h
 rw [e] at h
 refine Calls.mono h fun e w' he=>?_
 cases e with
 | returned v =>
  obtain ⟨h1,h2⟩:=he
  simp only [VP,VP1,RC,qA1,and_true] at h2
  exact ⟨by rw [h2],h1.toBelow⟩
 | panicked ch=>exact he.elim
 | outgrown=>exact he.elim
theorem yIO (K:Kids P (·<P.types.size)) (hz:∀ t e,t<P.types.size→P.underlying t=some (.slice e)→0<P.cellsOf e) {W W':World} (hb:Below W.heap.size W W') {sp:Nat→Bool} :
  ∀ {ts:List TypeId} {vs:List Value} {ds:List (DataW H)} {ps:List MemPlace},(∀ t∈ts,t<P.types.size)→DataW.TrodAll enc P W 0 (fun _=>true) true ts vs ds ps→(∀ p∈ps,p.block<W.heap.size)→(∀ p∈ps,sp p.block=true)→DataW.TrodAll enc P W' 0 sp true ts vs ds ps:=by
 intro ts vs ds ps hT h hlt hs
 have carry:∀ {ts:List TypeId} {vs:List Value} {ds:List (DataW H)} {ps:List MemPlace},DataW.TrodAll enc P W 0 (fun _=>true) true ts vs ds ps→(∀ p∈ps,p.block<W.heap.size)→DataW.TrodAll enc P W' 0 (fun _=>true) true ts vs ds ps:=by
  intro ts
  induction ts with
  | nil =>
   intro vs ds ps h _
   cases vs with
   | nil=>cases ds with
    | nil=>exact h
    | cons _ _=>exact h.elim
   | cons _ _=>exact h.elim
  | cons t ts ih =>
   intro vs ds ps h hlt
   cases vs with
   | nil=>exact h.elim
   | cons v vs=>cases ds with
    | nil=>exact h.elim
    | cons d ds =>
     obtain ⟨p,q,⟨n,h1⟩,h2,e⟩:=h
     subst e
     exact ⟨p,q,⟨n,DataW.trod_carry n _ _ _ h1 (fun x hx=>hb.same (hlt x (List.mem_append_left _ hx)))⟩,ih h2 (fun x hx=>hlt x (List.mem_append_right _ hx)),rfl⟩
 exact DataW.TrodAll.respare K hz hT (carry h hlt) hs
theorem yBN {f:Func} {s:ChangeSpec} {ylp fresh handsOn again:Bool} {W W':World} {args:Array Value} {v:Value} {ds gs:List (DataW H)} {before pa pv:List MemPlace}
  (hW:DataW.Whole enc P f.params.toList s.vars ylp W args.toList ds gs before)
  (hres:∀ (b:Nat) (sp:Nat→Bool) (hd:Bool),DataW.TrodAll enc P W' b sp hd f.resultTypes.toList (v.resultList f.resultTypes.size) (s.fn H (ds++gs)).results [])
  (hargs:∀ sp:Nat→Bool,(∀ p∈before,sp p.block=true)→DataW.TrodAll enc P W' 0 sp true f.params.toList args.toList (s.fn H (ds++gs)).args pa)
  (hvars:∀ sp:Nat→Bool,(∀ p∈before,sp p.block=true)→DataW.TrodVars enc P W' sp s.vars (s.fn H (ds++gs)).vars pv)
  (hps:before=pa++pv) (hb:Below W.heap.size W W')
  (hok:∀ (j:Nat) (t:TypeId) (r:Value),f.resultTypes[j]?=some t→(v.resultList f.resultTypes.size)[j]?=some r→Value.okWide P W' .any 0 t r) :
  s.post enc P f ylp fresh handsOn again W args v W':=by
 have hlt:∀ p∈before,p.block<W.heap.size:=fun p hp=>hW.lt p hp
 have hold:∀ p∈before,(fun b=>decide (b<W.heap.size)) p.block=true:=fun p hp=>by simpa using hlt p hp
 refine ⟨ds,gs,before,[],pa,pv,hW,hres _ _ _,hargs _ hold,hvars _ hold,World.keptBut_mono (fun p hp=>⟨hp,?_⟩) (hb.frame (·∈before)),fun _=>?_⟩
 ·rw [hps,qAy] at hp
  exact Or.inr hp
 ·obtain ⟨_,_,_,_,_,hz,hn⟩:=hW
  refine ⟨hok,_,_,([]++pa)++pv,⟨[]++pa,pv,trodAll_append (hargs _ (fun _ _=>rfl)) (hres _ _ _),hvars _ (fun _ _=>rfl),rfl,?_,?_⟩,?_⟩
  ·intro b off hp
   have hin:MemPlace.cell b off∈before:=by rw [hps];simpa using hp
   rw [hb.frozen (hlt _ hin)]
   exact hz b off hin
  ·intro ha
   have:=hn ha
   rw [hps] at this
   simpa using this
  ·intro p hp _
   rw [hps]
   simpa using hp
theorem yMr (K:Kids P (·<P.types.size)) (hz:∀ t e,t<P.types.size→P.underlying t=some (.slice e)→0<P.cellsOf e) {n:FuncId} {fn:Func} {G:Nat→Option PV} {dss:List DS} {s:ChangeSpec} {bt:TypeId}
  (hty : tyL P dss fn.params.toList = true) (hrow : ∀ t ∈ fn.params.toList, t < P.types.size) (hf : P.funcs[n]? = some fn) (hn : (fn.name == "runtime.NumGoroutine") = false) (hb : fn.body.isSome = true)
  (hvars:s.vars=[]) (hfn:∀ ds:List (DataW H),ds.length=fn.params.toList.length→s.fn H (ds++[])={ results:=[.lit (.bool true)],args:=ds })
  (hrt:fn.resultTypes.toList=[bt]) (hbt:P.underlying bt=some .bool) (hsum:∀ az,ywb dss az→yok P G n az (.bool true)) {ylp fresh handsOn again:Bool}
  {W:World} {base:Nat} {args:Array Value} {ds gs:List (DataW H)} {before:List MemPlace} (hval:∀ (j:Nat) t v,fn.params[j]?=some t→args[j]?=some v→Value.okWide P W .any base t v)
  (hW:DataW.Whole enc P fn.params.toList s.vars ylp W args.toList ds gs before) (J:Nat→Prop) (hJ:∀ b,J b→b<W.heap.size) (hG:yIn G (fun b=>(∃ p∈before,p.block=b)∨J b) W) :
  Calls P n args W fun e W'=>∃ v,e=.returned v∧s.post enc P fn ylp fresh handsOn again W args v W':=by
 have hW':=hW
 obtain ⟨p,q,hA,hV,hpq,hfz,hnd⟩:=hW
 have hlt:∀ x∈before,x.block<W.heap.size:=fun x hx=>hW'.lt x hx
 rw [hvars] at hV
 obtain ⟨hgs,hq⟩:=trodVars_none hV
 subst hgs;subst hq
 rw [qB3] at hpq
 subst hpq
 have hlen:ds.length=fn.params.toList.length:=by
  have len:∀ {ts:List TypeId} {vs:List Value} {xs:List (DataW H)} {ps:List MemPlace},DataW.TrodAll enc P W 0 (fun _=>true) true ts vs xs ps→xs.length=ts.length:=by
   intro ts
   induction ts with
   | nil =>
    intro vs xs ps h
    cases vs with
    | nil=>cases xs with
     | nil=>rfl
     | cons _ _=>exact h.elim
    | cons _ _=>exact h.elim
   | cons t ts ih =>
    intro vs xs ps h
    cases vs with
    | nil=>exact h.elim
    | cons v vs=>cases xs with
     | nil=>exact h.elim
     | cons x xs =>
      obtain ⟨_,_,_,h2,_⟩:=h
      simp [ih h2]
  exact len hA
 have hc:=yK4 (I:=fun b=>(∃ x∈before,x.block=b)∨J b) K hty hrow hf hn hb hsum (W:=W) (base:=base) (args:=args) (fun j t v h1 h2=>hval j t v (by simpa using h1) (by simpa using h2)) hA (fun x hx=>.inl ⟨x,hx,rfl⟩)
  (fun b hb=>by
   rcases hb with ⟨x,hx,rfl⟩ | hb
   ·exact hlt x hx
   ·exact hJ b hb) hG
 refine hc.mono fun e W' ⟨he,hg⟩=>?_
 subst he
 have hrs:fn.resultTypes=#[bt]:=by rw [← qBw];exact hrt
 refine ⟨_,rfl,yBN (pa:=before) (pv:=[]) hW' ?_ ?_ ?_ (by simp) hg ?_⟩
 ·intro b sp hd
  rw [hfn ds hlen,hrs]
  exact trodAll_mk1 (shut_bool hbt true)
 ·intro sp hs
  rw [hfn ds hlen]
  exact yIO K hz hg hrow hA hlt hs
 ·intro sp hs
  rw [hfn ds hlen,hvars];rfl
 ·intro j t r h1 h2
  rw [hrs] at h1 h2
  have hj:j=0:=by
   rcases j with _ | j
   ·rfl
   ·simp at h1
  subst hj
  simp at h1
  subst h1
  have:r=.bool true:=by
   have h3:((Value.bool true).resultList (#[bt]:Array TypeId).size)[0]?=some (.bool true):=rfl
   rw [h3] at h2
   exact (Option.some.inj h2).symm
  subst this
  exact okWide_bool_mk hbt true
end
end Go.Pf
namespace Go.Pf
open Go
def yEE:PV→Value
 | .int k n=>.int k n
 | _=>.bool false
def okL:List IntKind→List PV→Bool
 | [],[]=>true
 | k::ks,.int q n::r=>decide (q=k)&&(decide (k.min≤n)&&(decide (n≤k.max)&&okL ks r))
 | _,_=>false
def okI (ks:List IntKind):PV→Bool
 | .agg cs=>okL ks cs
 | _=>false
def encI (x:PV):List Value:=x.cells.map yEE
structure Srt where
 n:Nat
 g:Nat
 ks:List IntKind
 good:PV→Bool
 z:PV
def Srt.gd (s:Srt) (x:PV):Bool:=okI s.ks x&&s.good x
abbrev Srt.El (s:Srt):Type:={x:PV // s.gd x=true}
def Srt.enc (s:Srt) (x:s.El):List Value:=encI x.1
def Srt.rows? (s:Srt):List PV→Option (List s.El)
 | []=>some []
 | x::r=>if h:s.gd x=true then (match s.rows? r with | some l=>some (⟨x,h⟩::l) | none=>none) else none
theorem Srt.rows?_val {s:Srt}:∀ {l:List PV} {d:List s.El},s.rows? l=some d→d.map (·.1)=l
 | [],d,h=>by simp only [Srt.rows?] at h;cases h;rfl
 | x::r,d,h=>by
  simp only [Srt.rows?] at h
  split at h
  ·split at h
   ·rename_i l hl
    cases h
    rw [qBs,Srt.rows?_val hl]
   ·cases h
  ·cases h
def Srt.sorted (s:Srt) (srt:Array s.El→Array s.El) (l:List PV):List PV :=
 match s.rows? l with
 | some d=>(srt d.toArray).toList.map (·.1)
 | none=>l
def Srt.cond (s:Srt) (rows:List PV) (lo len ext esz:Nat) (fz:Bool):Bool :=
 decide (rows.length=ext)&&(decide (lo+len≤ext)&&(decide (0<len)&&(decide (esz=s.ks.length)&&(!fz&&(decide (len<4611686018427387904)&&(s.rows? ((rows.drop lo).take len)).isSome)))))
def yx2 (s:Srt) (srt:Array s.El→Array s.El) (n:Nat) (xs:List PV) (H:Hp):Option (Bool×Bool×(PV×Hp)×(PV×Hp)) :=
 bif Nat.beq n s.n then
  (match xs with
   | [.own id lo len ext _,.fn (.func g) [] []] =>
    bif Nat.beq g s.g then
     (match H[id]? with
      | some b=>some (s.cond b.rows lo len ext b.esz b.fz,true,(.tup [],H.set id { b with rows:=b.rows.take lo++(s.sorted srt ((b.rows.drop lo).take len)++b.rows.drop (lo+len)) }),(.nils,[]))
      | none=>none)
    else none
   | [.nils,.fn (.func g) [] []]=>bif Nat.beq g s.g then some (true,true,(.tup [],H),(.nils,[])) else none
   | [.emp,.fn (.func g) [] []]=>bif Nat.beq g s.g then some (true,true,(.tup [],H),(.nils,[])) else none
   | _=>none)
 else none
theorem yMs {s:Srt} {srt:Array s.El→Array s.El} {n:Nat} {xs:List PV} {H:Hp} {x:Bool×Bool×(PV×Hp)×(PV×Hp)} (h:yx2 s srt n xs H=some x):n=s.n:=by
 unfold yx2 at h
 cases hb:Nat.beq n s.n with
 | true=>exact qAh hb
 | false=>rw [hb] at h;cases h
structure Srts where
 s:Srt
 cf:s.El→s.El→Int
def Srts.srt (s:Srts) [Inhabited s.s.El] (d:Array s.s.El):Array s.s.El:=Go.Sort.pdq (fun x y=>decide (s.cf x y<0)) d 0 d.size (Go.Lib.bitLen d.size) true true
def yIP (k esz bytes n:Nat) (xs:List PV) (H:Hp):Option (Bool×Bool×(PV×Hp)×(PV×Hp)) :=
 bif Nat.beq n k then
  (match xs with
   | [.data rows]=>some (yfM esz bytes rows,List.isEmpty rows,(.emp,H),(.own H.length 0 (List.length rows) (List.length rows) none,H++[⟨false,true,esz,rows⟩]))
   | _=>none)
 else none
theorem yK5 {E:Env} {n esz bytes:Nat} {z:PV} (hf:E.fns n=some (ylF esz bytes z)) (he:∀ az H,E.eff n az H=none) (b:Bool) (H:Hp):ycp E 12 n [.mt b] H=some (bif b then .nils else .emp,H):=by
 cases b <;> simp [ycp,Env.effx,ymH,he,exec,hf,ylF,ynk,ygf,yjy,yex,yaB,evV,ev,ykC,fget,fset,fdels,fdel,ygr,yeC,outV,Option.map,yjz,yy8,yjA,appV,yhU,yd6,yp2]
theorem yHv {E:Env} {n esz bytes:Nat} {z:PV} (hf:E.fns n=some (ylF esz bytes z)) (he:∀ az H,E.eff n az H=none) {x:PV} {r:List PV} (h:yfM esz bytes (x::r)=true) (H:Hp) :
  ycp E 12 n [.data (x::r)] H=some (.own H.length 0 (x::r).length (x::r).length none,H++[⟨false,true,esz,x::r⟩]):=by
 simp only [yfM,qAb,decide_eq_true_eq,qAo] at h
 obtain ⟨h1,h2⟩:=h
 simp [ycp,Env.effx,ymH,he,exec,hf,ylF,ynk,ygf,yjy,yex,yaB,evV,ev,ykC,fget,fset,fdels,fdel,ygr,yeC,outV,Option.map,yjz,yy8,yjA,appV,yhU,h1,yp2,ydF,h2]
theorem yK6 {P:Program} {E:Env} {k esz bytes:Nat} {z:PV} (hf:E.fns k=some (ylF esz bytes z)) (he:∀ az H,E.eff k az H=none) (hcall:ybL P E (ycp E 12)) :
  ybL P E (fun n xs H=>ymH (yIP k esz bytes n xs H)):=by
 intro f args H r H' h nt g F tmps w vs hr hL hv
 dsimp only at h
 unfold ymH at h
 split at h
 case h_2=>cases h
 rename_i c t x y hc
 unfold yIP at hc
 cases hb:Nat.beq f k with
 | false=>rw [hb] at hc;cases hc
 | true =>
  rw [hb,cond_true] at hc
  obtain rfl:=qAh hb
  split at hc
  case h_2=>cases hc
  rename_i rows
  simp only [qAd,Prod.mk.injEq] at hc
  obtain ⟨hk,rfl,rfl,rfl⟩:=hc
  cases rows with
  | cons q l =>
   cases h
   exact hcall _ _ _ _ _ (yHv hf he hk H) nt g F tmps w vs hr hL hv
  | nil =>
   cases h
   simp only [VRs,VR,RC] at hv
   obtain ⟨v,_,rfl,⟨a,len,cap,hs,hl,h3,h4,_⟩,rfl⟩:=hv
   simp only [qA1,and_true] at hs
   subst hs
   simp only [List.length_nil] at hl
   subst hl
   have hv2:VRs g H w [.mt a.isNone] [.slice a 0 cap]:=by
    simp only [VRs,VR]
    exact ⟨_,_,rfl,⟨a,cap,rfl,h4,rfl⟩,rfl⟩
   refine (hcall _ _ _ _ _ (yK5 hf he a.isNone H) nt g F tmps w _ hr hL hv2).mono fun v w' ⟨g',h5,h6,h7⟩=>⟨g',h5,h6,?_⟩
   cases hn:a.isNone with
   | true =>
    rw [hn] at h7
    simp only [cond_true,VR] at h7
    simp only [VR]
    exact ⟨none,h7⟩
   | false =>
    rw [hn] at h7
    exact h7
abbrev EffF:Type:=Nat→List PV→Hp→Option (Bool×Bool×(PV×Hp)×(PV×Hp))
def ywc:List (Nat×EffF)→EffF
 | [],_,_,_=>none
 | (k,e)::r,n,xs,H=>bif Nat.beq n k then (match e n xs H with | some x=>some x | none=>ywc r n xs H) else ywc r n xs H
theorem yJT:∀ {l:List (Nat×EffF)} {n:Nat} {xs:List PV} {H:Hp} {x:Bool×Bool×(PV×Hp)×(PV×Hp)},ywc l n xs H=some x→∃ e∈l,n=e.1
 | [],_,_,_,_,h=>by cases h
 | (k,e)::r,n,xs,H,x,h=>by
  simp only [ywc] at h
  cases hb:Nat.beq n k with
  | true=>exact ⟨(k,e),qAg,qAh hb⟩
  | false =>
   rw [hb,cond_false] at h
   obtain ⟨e2,h1,h2⟩:=yJT h
   exact ⟨e2,qAf _ h1,h2⟩
theorem yq9 {P:Program} {E:Env}:∀ {l:List (Nat×EffF)},(∀ e∈l,ybL P E (fun n xs H=>ymH (e.2 n xs H)))→ybL P E (fun n xs H=>ymH (ywc l n xs H))
 | [],_=>fun _ _ _ _ _ h=>by cases h
 | (k,e)::r,h=>by
  intro f args H q H' hc
  dsimp only [ywc] at hc
  cases hb:Nat.beq f k with
  | false =>
   rw [hb,cond_false] at hc
   exact yq9 (fun e2 h2=>h e2 (qAf _ h2)) f args H q H' hc
  | true =>
   rw [hb,cond_true] at hc
   cases he:e f args H with
   | some x =>
    rw [he] at hc
    refine h (k,e) qAg f args H q H' ?_
    dsimp only
    rw [he]
    exact hc
   | none =>
    rw [he] at hc
    exact yq9 (fun e2 h2=>h e2 (qAf _ h2)) f args H q H' hc
def yqc (add sub:Nat) (tab:List (Nat×AFn)) (qui:List Nat) (cl:ygi) (gl:List (Nat×PV)) (ef:List (Nat×EffF)):Env:={ yqb add sub tab qui cl gl with eff:=ywc ef }
theorem yaN {add sub:Nat} {tab:List (Nat×AFn)} {qui:List Nat} {cl:ygi} {gl:List (Nat×PV)} {ef:List (Nat×EffF)} {n:Nat} (h:yv9 add sub cl n=false) (xs:List PV):(yqc add sub tab qui cl gl ef).sum n xs=none:=yIL (tab:=tab) (qui:=qui) (gl:=gl) h xs
theorem yK7 {add sub:Nat} {tab:List (Nat×AFn)} {qui:List Nat} {cl:ygi} {gl:List (Nat×PV)} {ef:List (Nat×EffF)} (h:(ef.all fun e=>!memN qui e.1&&(!yv9 add sub cl e.1&&!memN qui (e.1+3000000)))=true):yHt (yqc add sub tab qui cl gl ef):=by
 intro n xs H x hx
 obtain ⟨e,h1,rfl⟩:=yJT hx
 have h2:=qCa.1 h e h1
 simp only [qAb,qAx] at h2
 exact ⟨h2.1,rfl,fun xs=>yaN (tab:=tab) (qui:=qui) (gl:=gl) (ef:=ef) h2.2.1 xs,h2.2.2⟩
theorem yHw {P:Program} {add sub:Nat} {tab:List (Nat×AFn)} {qui:List Nat} {cl:ygi} {gl:List (Nat×PV)} {ef:List (Nat×EffF)} (h:EO P (yqb add sub tab qui cl gl))
  (hs:∀ e∈ef,∀ y,ybL P ((yqb add sub tab qui cl gl).ats y) (fun n xs H=>ymH (e.2 n xs H))):EO P (yqc add sub tab qui cl gl ef) where
 sum:=h.sum
 fns:=h.fns
 eff:=EO.eff' (E:=yqb add sub tab qui cl gl) (E':=yqc add sub tab qui cl gl ef) rfl rfl rfl fun y _=>yq9 fun e he=>hs e he y
 dn:=h.dn
 top:=h.top
 yl:=h.yl' (E':=yqc add sub tab qui cl gl ef) rfl rfl rfl rfl
end Go.Pf
namespace Go.Pf
abbrev lt {α:Type} (x:α) (f:α→Prop):Prop:=f x
abbrev jn {α:Type} (f:α→Prop) (k:α):Prop:=f k
def rvB (n d:Int):Bool:=decide (1≤d)&&(decide (d≤1000000000000000000)&&(decide (-1000000000000000000≤n)&&(decide (n≤1000000000000000000)&&decide (Nat.gcd n.natAbs d.natAbs=1))))
def cmpI (a b c d:Int):Int:=if a*d<c*b then -1 else if c*b<a*d then 1 else 0
def yum:PV→Bool
 | .agg [.int _ a,.int _ b,_,_]=>rvB a b
 | _=>false
def yPd:PV→Bool
 | .agg [.int _ a,.int _ b]=>rvB a b
 | _=>false
def yon:PV→PV→Int
 | .agg [.int _ a,.int _ b,_,_],.agg [.int _ c,.int _ d,_,_]=>cmpI a b c d
 | _,_=>0
def yPM:PV→PV→Int
 | .agg [.int _ a,.int _ b],.agg [.int _ c,.int _ d]=>cmpI a b c d
 | _,_=>0
def ykq (n g:Nat):Srts:=⟨⟨n,g,[.i64,.i64,.i64,.i64],yum,.agg [.int .i64 0,.int .i64 1,.int .i64 0,.int .i64 1]⟩,fun x y=>yon x.1 y.1⟩
def yPN (n g:Nat):Srts:=⟨⟨n,g,[.i64,.i64],yPd,.agg [.int .i64 0,.int .i64 1]⟩,fun x y=>yPM x.1 y.1⟩
instance (n g:Nat):Inhabited (ykq n g).s.El:=⟨⟨.agg [.int .i64 0,.int .i64 1,.int .i64 0,.int .i64 1],rfl⟩⟩
instance (n g:Nat):Inhabited (yPN n g).s.El:=⟨⟨.agg [.int .i64 0,.int .i64 1],rfl⟩⟩
theorem yBO {n:Nat} {xs:List PV} {H:Hp}:∀ {l:List (Nat×EffF)},memN (l.map (·.1)) n=false→ywc l n xs H=none
 | [],_=>rfl
 | (k,e)::r,h=>by
  simp only [qBs,memN] at h
  simp only [ywc]
  cases hb:Nat.beq k n with
  | true=>rw [hb] at h;cases h
  | false =>
   rw [hb,cond_false] at h
   have hb2:Nat.beq n k=false:=by
    cases hc:Nat.beq n k with
    | false=>rfl
    | true =>
     have:=qAh hc
     subst this
     rw [Nat.beq_refl] at hb
     cases hb
   rw [hb2,cond_false]
   exact yBO h
structure EffG (E:List (Nat×EffF)→Env) (nums:List Nat) (e:List (Nat×EffF)):Prop where
 ok:yHt (E e)
 num:∀ n,memN nums n=false→∀ xs H,(E e).eff n xs H=none
theorem yK8 {add sub:Nat} {tab:List (Nat×AFn)} {qui:List Nat} {cl:ygi} {gl:List (Nat×PV)} {ef:List (Nat×EffF)} {n esz bytes:Nat} (h1:Nat.beq n add=false) (h2:Nat.beq n sub=false) (hc:ywa cl n=some (esz,bytes)) :
  ∀ az K,yBL esz bytes az K→∃ r,K r∧Ans (yqc add sub tab qui cl gl ef) n az r:=by
 intro az K h
 unfold yBL yBK at h
 split at h
 ·rename_i rows
  obtain ⟨hk,h⟩:=yaG.1 h
  refine ⟨_,h,0,fun k e m _ hl _=>?_⟩
  have hl:=(yhE hl).2.1
  simp only [yeM,hl,yqc,yqb,yEC h1 h2,yzq cl hc hk]
 ·exact h.elim
theorem yK9 {add sub:Nat} {tab:List (Nat×AFn)} {qui:List Nat} {cl:ygi} {gl:List (Nat×PV)} {ef:List (Nat×EffF)}:∀ az K,yuj az K→∃ r,K r∧Ans (yqc add sub tab qui cl gl ef) add az r:=by
 intro az K h
 unfold yuj yui at h
 split at h
 ·rename_i a b c
  obtain ⟨h1,h⟩:=yaG.1 h
  have h1:c.toNat≤1:=by simpa using h1
  refine ⟨_,h,0,fun k e m _ hl _=>?_⟩
  have hl:=(yhE hl).2.1
  have e0:sumC add sub add [.int .u64 a,.int .u64 b,.int .u64 c]=some (.tup [u64 ((a.toNat+b.toNat+c.toNat) % 18446744073709551616),u64 ((a.toNat+b.toNat+c.toNat) / 18446744073709551616)]):=by
   simp only [sumC,Nat.beq_refl,qAz,Nat.ble_eq_true_of_le h1,cond_true]
  simp only [yeM,hl,yqc,yqb,e0,u64]
 ·exact h.elim
theorem yLa {add sub:Nat} (hne:Nat.beq sub add=false) {tab:List (Nat×AFn)} {qui:List Nat} {cl:ygi} {gl:List (Nat×PV)} {ef:List (Nat×EffF)}:∀ az K,yul az K→∃ r,K r∧Ans (yqc add sub tab qui cl gl ef) sub az r:=by
 intro az K h
 unfold yul yuk at h
 split at h
 ·rename_i a b c
  obtain ⟨h1,h⟩:=yaG.1 h
  have h1:c.toNat≤1:=by simpa using h1
  refine ⟨_,h,0,fun k e m _ hl _=>?_⟩
  have hl:=(yhE hl).2.1
  have e0:sumC add sub sub [.int .u64 a,.int .u64 b,.int .u64 c]=some (.tup [u64 ((a.toNat+18446744073709551616-b.toNat-c.toNat) % 18446744073709551616),u64 (bif Nat.ble (b.toNat+c.toNat) a.toNat then 0 else 1)]):=by
   simp only [sumC,hne,Nat.beq_refl,qAz,qBb,Nat.ble_eq_true_of_le h1,cond_true,cond_false]
  simp only [yeM,hl,yqc,yqb,e0,u64]
 ·exact h.elim
end Go.Pf
namespace Go.Pf
open Go Go.Sort
theorem Srts.sorted_is (S:Srts) [Inhabited S.s.El] (h:SWO (fun x y=>decide (S.cf x y<0))) {rows:List PV} {d:List S.s.El} (hd:S.s.rows? rows=some d) :
  ∃ d':List S.s.El,d'.Perm d∧d'.Pairwise (fun x y=>¬S.cf y x<0)∧Srt.sorted S.s S.srt rows=d'.map (·.1):=by
 have e:Srt.sorted S.s S.srt rows=(S.srt d.toArray).toList.map (·.1):=by unfold Srt.sorted;rw [hd]
 obtain ⟨⟨h1,_,h3⟩,h4⟩:=pdq_sorts _ h d.toArray 0 d.toArray.size (Go.Lib.bitLen d.toArray.size) true true (qBf _) (qAm _) (Or.inl rfl)
 refine ⟨(S.srt d.toArray).toList,?_,?_,e⟩
 ·have h5:(S.srt d.toArray).size=d.toArray.size:=h1
  have e1:(S.srt d.toArray).extract 0 d.toArray.size=S.srt d.toArray:=by rw [← h5];exact Array.extract_size
  have e2:d.toArray.extract 0 d.toArray.size=d.toArray:=Array.extract_size
  have h6:((S.srt d.toArray).extract 0 d.toArray.size).toList.Perm (d.toArray.extract 0 d.toArray.size).toList:=h3
  rw [e1,e2] at h6
  simpa using h6
 ·have h5:(S.srt d.toArray).size=d.toArray.size:=h1
  rw [List.pairwise_iff_getElem]
  intro i j hi hj hij hlt
  rw [qCc] at hi hj
  have h6:SortedIn (fun x y=>decide (S.cf x y<0)) 0 d.toArray.size (S.srt d.toArray):=h4
  have:=h6 i j (qBf _) hij (by rw [← h5];exact hj)
  rw [getElem!_pos (S.srt d.toArray) i hi,getElem!_pos (S.srt d.toArray) j hj] at this
  simp only [Array.getElem_toList] at hlt
  simp [hlt] at this
end Go.Pf
namespace Go.Pf
abbrev Es:Type:=List (Nat×EffF)
def okB:Option Bool→Prop | none=>True | some b=>b=true
def asB:Option Bool→Prop→Prop | none,x=>x | some b,x=>asr b x
theorem yAG {g:Option Bool} {x:Prop}:asB g x↔okB g∧x:=by cases g <;> simp [asB,okB,yaG]
def blen (H:Hp) (id:Nat):Nat:=match H[id]? with | some b=>b.rows.length | none=>0
structure Pat (α:Type) where
 T:Type
 A:Type→Type
 app:{R:Type}→A R→T→R
 of:(Nat→Nat)→T→α
 get:(Nat→Nat)→α→Option Bool→Option (T×Option Bool)
 inv:∀ {H x g t g'},get H x g=some (t,g')→okB g'→okB g∧x=of H t
section
variable {α β:Type}
def pAt:Pat α:=⟨α,fun R=>α→R,fun g t=>g t,fun _ t=>t,fun _ x g=>some (x,g),fun h k=>by cases h;exact ⟨k,rfl⟩⟩
def pCst (c:α) (f:α→Bool) (h:∀ x,f x=true→x=c):Pat α :=
 ⟨Unit,fun R=>R,fun g _=>g,fun _ _=>c,fun _ x g=>bif f x then some ((),g) else none,fun {H x g t g'} e k=>by
  cases hf:f x with
  | true=>rw [hf] at e;cases e;exact ⟨k,h _ hf⟩
  | false=>rw [hf] at e;cases e⟩
def pSub (m:β→α) (s:α→Option β) (h:∀ x b,s x=some b→x=m b) (p:Pat β):Pat α :=
 ⟨p.T,p.A,p.app,fun H t=>m (p.of H t),fun H x g=>match s x with | none=>none | some b=>p.get H b g,fun {H x g t g'} e k=>by
  cases hs:s x with
  | none=>rw [hs] at e;cases e
  | some b =>
   rw [hs] at e
   obtain ⟨h1,h2⟩:=p.inv e k
   exact ⟨h1,by rw [h _ _ hs,h2]⟩⟩
def pPr (p:Pat α) (q:Pat β):Pat (α×β) :=
 ⟨p.T×q.T,fun R=>p.A (q.A R),fun g t=>q.app (p.app g t.1) t.2,fun H t=>(p.of H t.1,q.of H t.2),
  fun H x g=>match p.get H x.1 g with | none=>none | some (a,g1)=>(match q.get H x.2 g1 with | none=>none | some (b,g2)=>some ((a,b),g2)),fun {H x g t g'} e k=>by
   cases h1:p.get H x.1 g with
   | none=>rw [h1] at e;cases e
   | some y =>
    obtain ⟨a,g1⟩:=y
    rw [h1] at e
    simp only at e
    cases h2:q.get H x.2 g1 with
    | none=>rw [h2] at e;cases e
    | some z =>
     obtain ⟨b,g2⟩:=z
     rw [h2] at e
     cases e
     obtain ⟨k2,e2⟩:=q.inv h2 k
     obtain ⟨k1,e1⟩:=p.inv h1 k2
     exact ⟨k1,Prod.ext e1 e2⟩⟩
end
def nK (n:Nat):Pat Nat:=pCst n (fun x=>Nat.beq x n) fun _ h=>qAh h
def nT (id:Nat):Pat Nat :=
 ⟨Unit,fun R=>R,fun g _=>g,fun H _=>H id,fun H x g=>some ((),match g with | none=>some (decide (x=H id)) | some b=>some (b&&decide (x=H id))),fun {H x g t g'} e k=>by
  cases e
  cases g with
  | none=>exact ⟨trivial,of_decide_eq_true k⟩
  | some b =>
   have k:(b&&decide (x=H id))=true:=k
   simp only [qAb,decide_eq_true_eq] at k
   exact ⟨k.1,k.2⟩⟩
abbrev nV:Pat Nat:=pAt
abbrev LPt:Type 1:=Pat (List PV)
abbrev VPt:Type 1:=Pat PV
def vI (k:IntKind):VPt:=pSub (.int k) (fun x=>match x with | .int q n=>bif decide (q=k) then some n else none | _=>none) (fun x b h=>by
 split at h
 ·rename_i q n
  by_cases e:q=k
  ·subst e;rw [decide_eq_true rfl] at h;cases h;rfl
  ·rw [decide_eq_false e] at h;cases h
 ·cases h) pAt
def vB:VPt:=pSub .bool (fun x=>match x with | .bool b=>some b | _=>none) (fun x b h=>by cases x <;> cases h;rfl) pAt
def vDl (p:LPt):VPt:=pSub .data (fun x=>match x with | .data b=>some b | _=>none) (fun x b h=>by cases x <;> cases h;rfl) p
def vD:VPt:=vDl pAt
def vA (p:LPt):VPt:=pSub .agg (fun x=>match x with | .agg b=>some b | _=>none) (fun x b h=>by cases x <;> cases h;rfl) p
def vNs:VPt:=pCst .nils (fun x=>match x with | .nils=>true | _=>false) fun x h=>by cases x <;> cases h;rfl
def vE:VPt:=pCst .emp (fun x=>match x with | .emp=>true | _=>false) fun x h=>by cases x <;> cases h;rfl
def vP (id o:Nat) (e i:Pat Nat):VPt:=pSub (fun b=>.ptr id b.1 b.2 o) (fun x=>match x with | .ptr a e i f=>bif Nat.beq a id&&Nat.beq f o then some (e,i) else none | _=>none) (fun x b h=>by
 split at h
 ·rename_i a e i f
  cases hc:(Nat.beq a id&&Nat.beq f o) with
  | false=>rw [hc] at h;cases h
  | true =>
   rw [hc] at h
   simp only [qAb] at hc
   cases h
   rw [qAh hc.1,qAh hc.2]
 ·cases h) (pPr e i)
def vSub (id o n z:Nat) (e i:Pat Nat):VPt:=pSub (fun b=>.sub id b.1 b.2 o n z) (fun x=>match x with | .sub a e i f m y=>bif Nat.beq a id&&(Nat.beq f o&&(Nat.beq m n&&Nat.beq y z)) then some (e,i) else none | _=>none) (fun x b h=>by
 split at h
 ·rename_i a e i f m y
  cases hc:(Nat.beq a id&&(Nat.beq f o&&(Nat.beq m n&&Nat.beq y z))) with
  | false=>rw [hc] at h;cases h
  | true =>
   rw [hc] at h
   simp only [qAb] at hc
   cases h
   rw [qAh hc.1,qAh hc.2.1,qAh hc.2.2.1,qAh hc.2.2.2]
 ·cases h) (pPr e i)
def vX (o:Nat) (p:VPt):VPt:=pSub (fun b=>.eptr [b] 0 o) (fun x=>match x with | .eptr [y] i f=>bif Nat.beq i 0&&Nat.beq f o then some y else none | _=>none) (fun x b h=>by
 split at h
 ·rename_i y i f
  cases hc:(Nat.beq i 0&&Nat.beq f o) with
  | false=>rw [hc] at h;cases h
  | true =>
   rw [hc] at h
   simp only [qAb] at hc
   cases h
   rw [qAh hc.1,qAh hc.2]
 ·cases h) p
def vO (id:Nat) (lo len ext c:Pat Nat):VPt:=pSub (fun b=>.own id b.1 b.2.1 b.2.2.1 (some b.2.2.2)) (fun x=>match x with | .own a lo len ext (some c)=>bif Nat.beq a id then some (lo,len,ext,c) else none | _=>none) (fun x b h=>by
 split at h
 ·rename_i a lo len ext c
  cases hc:Nat.beq a id with
  | false=>rw [hc] at h;cases h
  | true=>rw [hc] at h;cases h;rw [qAh hc]
 ·cases h) (pPr lo (pPr len (pPr ext c)))
def vW (id:Nat) (lo len ext:Pat Nat):VPt:=pSub (fun b=>.own id b.1 b.2.1 b.2.2 none) (fun x=>match x with | .own a lo len ext none=>bif Nat.beq a id then some (lo,len,ext) else none | _=>none) (fun x b h=>by
 split at h
 ·rename_i a lo len ext
  cases hc:Nat.beq a id with
  | false=>rw [hc] at h;cases h
  | true=>rw [hc] at h;cases h;rw [qAh hc]
 ·cases h) (pPr lo (pPr len ext))
def vF (n:Nat) (p q:LPt):VPt:=pSub (fun b=>.fn (.func n) b.1 b.2) (fun x=>match x with | .fn (.func k) a b=>bif Nat.beq k n then some (a,b) else none | _=>none) (fun x b h=>by
 split at h
 ·rename_i k a b
  cases hc:Nat.beq k n with
  | false=>rw [hc] at h;cases h
  | true=>rw [hc] at h;cases h;rw [qAh hc]
 ·cases h) (pPr p q)
def lN:LPt:=pCst [] (fun x=>match x with | []=>true | _::_=>false) fun x h=>by cases x <;> cases h;rfl
def lC (p:VPt) (q:LPt):LPt:=pSub (fun b=>b.1::b.2) (fun x=>match x with | y::r=>some (y,r) | []=>none) (fun x b h=>by cases x <;> cases h;rfl) (pPr p q)
def fN:Pat Frm:=pCst [] (fun x=>match x with | []=>true | _::_=>false) fun x h=>by cases x <;> cases h;rfl
def fV (s:Nat) (p:VPt) (q:Pat Frm):Pat Frm:=pSub (fun b=>(s,.v b.1)::b.2) (fun x=>match x with | (k,.v y)::r=>bif Nat.beq k s then some (y,r) else none | _=>none) (fun x b h=>by
 split at h
 ·rename_i k y r
  cases hc:Nat.beq k s with
  | false=>rw [hc] at h;cases h
  | true=>rw [hc] at h;cases h;rw [qAh hc]
 ·cases h) (pPr p q)
def fX (s:Nat) (p:VPt) (q:Pat Frm):Pat Frm:=pSub (fun b=>(s,.box b.1)::b.2) (fun x=>match x with | (k,.box y)::r=>bif Nat.beq k s then some (y,r) else none | _=>none) (fun x b h=>by
 split at h
 ·rename_i k y r
  cases hc:Nat.beq k s with
  | false=>rw [hc] at h;cases h
  | true=>rw [hc] at h;cases h;rw [qAh hc]
 ·cases h) (pPr p q)
def rhN:Pat Hp:=pCst [] (fun x=>match x with | []=>true | _::_=>false) fun x h=>by cases x <;> cases h;rfl
def rhB (fz pu:Bool) (esz:Nat) (p:LPt) (q:Pat Hp):Pat Hp:=pSub (fun b=>⟨fz,pu,esz,b.1⟩::b.2) (fun x=>match x with | ⟨a,b,c,rows⟩::r=>bif (a == fz)&&((b == pu)&&Nat.beq c esz) then some (rows,r) else none | []=>none) (fun x b h=>by
 split at h
 ·rename_i a b c rows r
  cases hc:((a == fz)&&((b == pu)&&Nat.beq c esz)) with
  | false=>rw [hc] at h;cases h
  | true =>
   rw [hc] at h
   simp only [qAb,beq_iff_eq] at hc
   cases h
   rw [hc.1,hc.2.1,qAh hc.2.2]
 ·cases h) (pPr p q)
structure RPt where
 p:LPt
 n:∀ r r' t,(p.of r t).length=(p.of r' t).length
structure HPt where
 p:Pat Hp
 n:∀ r r' t id,blen (p.of r t) id=blen (p.of r' t) id
def rA:RPt:=⟨pAt,fun _ _ _=>rfl⟩
def rN:RPt:=⟨lN,fun _ _ _=>rfl⟩
def rC (p:VPt) (q:RPt):RPt:=⟨lC p q.p,fun r r' t=>congrArg (·+1) (q.n r r' t.2)⟩
def hN:HPt:=⟨rhN,fun _ _ _ _=>rfl⟩
def hB (fz pu:Bool) (esz:Nat) (p:RPt) (q:HPt):HPt:=⟨rhB fz pu esz p.p q.p,fun r r' t id=>by
 cases id with
 | zero=>exact p.n r r' t.1
 | succ k=>exact q.n r r' t.2 k⟩
abbrev Sta:Type:=Hp×Frm×Frm
abbrev r0:Nat→Nat:=fun _=>0
def pS (h:HPt) (p o:Pat Frm):Pat Sta :=
 ⟨h.p.T×p.T×o.T,fun R=>h.p.A (p.A (o.A R)),fun g t=>o.app (p.app (h.p.app g t.1) t.2.1) t.2.2,fun _ t=>(h.p.of (blen (h.p.of r0 t.1)) t.1,p.of (blen (h.p.of r0 t.1)) t.2.1,o.of (blen (h.p.of r0 t.1)) t.2.2),
  fun _ x g=>match h.p.get (blen x.1) x.1 g with | none=>none | some (a,g1)=>(match p.get (blen x.1) x.2.1 g1 with | none=>none | some (b,g2)=>(match o.get (blen x.1) x.2.2 g2 with | none=>none | some (c,g3)=>some ((a,b,c),g3))),fun {H x g t g'} e k=>by
   obtain ⟨X,Y,Z⟩:=x
   cases h1:h.p.get (blen X) X g with
   | none=>simp only [h1] at e;cases e
   | some y =>
    obtain ⟨a,g1⟩:=y
    simp only [h1] at e
    cases h2:p.get (blen X) Y g1 with
    | none=>rw [h2] at e;cases e
    | some z =>
     obtain ⟨b,g2⟩:=z
     rw [h2] at e
     simp only at e
     cases h3:o.get (blen X) Z g2 with
     | none=>rw [h3] at e;cases e
     | some w =>
      obtain ⟨c,g3⟩:=w
      rw [h3] at e
      cases e
      obtain ⟨k3,e3⟩:=o.inv h3 k
      obtain ⟨k2,e2⟩:=p.inv h2 k3
      obtain ⟨k1,e1⟩:=h.p.inv h1 k2
      refine ⟨k1,?_⟩
      show (X,Y,Z)=(h.p.of (blen (h.p.of r0 a)) a,p.of (blen (h.p.of r0 a)) b,o.of (blen (h.p.of r0 a)) c)
      have e4:blen (h.p.of r0 a)=blen X:=funext fun id=>by
       rw [h.n r0 (blen X) a id,← e1]
      rw [e4,← e1,← e2,← e3]⟩
structure St where
 p:Pat Sta
 g:Nat→p.A Prop
def runS:List St→Nat→Sta→Prop
 | [],_,_=>False
 | s::r,n,x=>match s.p.get r0 x none with | some (t,b)=>asB b (s.p.app (s.g n) t) | none=>runS r n x
def runE:List St→Sta→Prop
 | [],_=>False
 | s::r,x=>match s.p.get r0 x none with | some (t,b)=>asB b (∃ n,s.p.app (s.g n) t) | none=>runE r x
theorem yIQ {x:Sta}:∀ {L:List St},runE L x→∃ n,runS L n x
 | [],h=>h.elim
 | s::r,h=>by
  unfold runE at h
  unfold runS
  split at h
  ·rename_i t b e
   obtain ⟨hb,n,h⟩:=yAG.1 h
   exact ⟨n,yAG.2 ⟨hb,h⟩⟩
  ·obtain ⟨n,h⟩:=yIQ h
   exact ⟨n,h⟩
theorem yra {x:Sta} {n:Nat}:∀ {L:List St},runS L n x→∃ s,s∈L∧∃ t,x=s.p.of r0 t∧s.p.app (s.g n) t
 | [],h=>h.elim
 | s::r,h=>by
  unfold runS at h
  split at h
  ·rename_i t b e
   obtain ⟨hb,h⟩:=yAG.1 h
   exact ⟨s,qAg,t,(s.p.inv e hb).2,h⟩
  ·obtain ⟨s',h1,h2⟩:=yra h
   exact ⟨s',qAf _ h1,h2⟩
def bodS (gc:Bool) (L:List St) (n:Nat) (G:Frm) (k:Nat) (F':Frm) (H':Hp):Prop:=runS L n (bif gc then gcH F' k H' else H',F',G)
def AllB (E:Env) (callK:CK) (lp:LP) (yk:Frm→YK) (b:TC) (gc:Bool) (Q:Qx) (L:List St):List St→Prop
 | []=>True
 | s::r=>(∀ t,s.p.app (s.g 0) t=False)∧(∀ n t,WC E callK lp (s.p.of r0 t).2.2 (yk (s.p.of r0 t).2.2) b (s.p.of r0 t).2.1 (s.p.of r0 t).1 (exQ (bodS gc L n (s.p.of r0 t).2.2 (s.p.of r0 t).1.length) Q)=s.p.app (s.g (n+1)) t)∧AllB E callK lp yk b gc Q L r
theorem AllB.mem {E:Env} {callK:CK} {lp:LP} {yk:Frm→YK} {b:TC} {gc:Bool} {Q:Qx} {L:List St}:∀ {l:List St},AllB E callK lp yk b gc Q L l→∀ s∈l,(∀ t,s.p.app (s.g 0) t=False)∧(∀ n t,WC E callK lp (s.p.of r0 t).2.2 (yk (s.p.of r0 t).2.2) b (s.p.of r0 t).2.1 (s.p.of r0 t).1 (exQ (bodS gc L n (s.p.of r0 t).2.2 (s.p.of r0 t).1.length) Q)=s.p.app (s.g (n+1)) t)
 | [],_,s,h=>by cases h
 | x::r,h,s,hs=>by
  rcases qAk.1 hs with rfl | hs
  ·exact ⟨h.1,h.2.1⟩
  ·exact AllB.mem h.2.2 s hs
section
variable {E:Env} {callK:CK} {P:EP} {lp:LP} {yk:Frm→YK} {b:TC} {Q:Qx} {L:List St} {id:Nat} {F G:Frm} {H:Hp}
theorem yp8.st (hP:Sub P E) (hG:Good P callK) (hY:YOk P E (yk G)) (hl:LpOk P E lp G b) (hb:AllB E callK lp yk b false Q L L) (h:runE L (H,F,G)) (hf:yeB b=true:=by kernel_rfl):yp8 P (.loop id b) F H Q:=by
 obtain ⟨n,h⟩:=yIQ h
 refine yp8.intro (id:=id) hP hG hf hY hl (fun n F H=>runS L n (H,F,G)) (fun F H h=>?_) (fun n F H h=>?_) n F H h
 ·obtain ⟨s,hs,t,_,h⟩:=yra h
  rw [(hb.mem s hs).1 t] at h
  exact h
 ·obtain ⟨s,hs,t,e,h⟩:=yra h
  rw [← (hb.mem s hs).2 n t,← e] at h
  exact h
theorem yp8.stG (hP:Sub P E) (hG:Good P callK) (hY:YOk P E (yk G)) (hl:LpOk P E lp G b) (hb:AllB E callK lp yk b true Q L L) (h:runE L (H,F,G)) (hf:yeB b=true:=by kernel_rfl):yp8 P (.lG id b) F H Q:=by
 obtain ⟨n,h⟩:=yIQ h
 refine yp8.introG (id:=id) hP hG hf hY hl (fun n F H=>runS L n (H,F,G)) (fun F H h=>?_) (fun n F H h=>?_) n F H h
 ·obtain ⟨s,hs,t,_,h⟩:=yra h
  rw [(hb.mem s hs).1 t] at h
  exact h
 ·obtain ⟨s,hs,t,e,h⟩:=yra h
  rw [← (hb.mem s hs).2 n t,← e] at h
  exact h
end
abbrev ycr (S:SE) (d:Nat) (yk:Frm→YK) (b:TC) (gc:Bool) (L:Qx→List St):Prop:=∀ Q,AllB S.E (ylD S d) S.lp yk b gc Q (L Q) (L Q)
abbrev a:Frm→YK:=fun _=>noYK
abbrev LpT (P:EP) (lp:LP) (G:Frm) (id:Nat) (c:TC):Prop:=∀ F H Q,lp id G F H Q→yp8 P c F H Q
def lpS:List (Nat×(Qx→List St))→LP
 | [],_,_,_,_,_=>False
 | p::r,id,G,F,H,Q=>bif Nat.beq id p.1 then runE (p.2 Q) (H,F,G) else lpS r id G F H Q
structure Sg where
 p:LPt
 R:Type
 k:(PV→Prop)→R
abbrev Sg.W (s:Sg):Type:=s.p.A (s.R→Prop)
def Sg.pw (s:Sg) (w:s.W) (az:List PV) (K:PV→Prop):Prop:=match s.p.get r0 az none with | some (t,b)=>asB b (s.p.app w t (s.k K)) | none=>False
def sE (E:Env) (l:List (Nat×(List PV→(PV→Prop)→Prop))) (lp:LP):SE:=⟨E,ydO l,ydP [],lp,fun _=>none⟩
def lp0:LP:=fun _ _ _ _ _=>False
def EqW (S:SE) (d:Nat) (t:TFn) (s:Sg) (w:s.W):Prop:=∀ a K,WP S d t (s.p.of r0 a) K=s.p.app w a (s.k K)
theorem Sg.inv {s:Sg} {w:s.W} {az:List PV} {K:PV→Prop} (h:s.pw w az K):∃ a,az=s.p.of r0 a∧s.p.app w a (s.k K):=by
 unfold Sg.pw at h
 split at h
 ·rename_i t b e
  obtain ⟨hb,h⟩:=yAG.1 h
  exact ⟨t,(s.p.inv e hb).2,h⟩
 ·exact h.elim
theorem okW {P:EP} {S:SE} {d n:Nat} {t:TFn} {s:Sg} {w:s.W} (hq:EqW S d t s w) (hS:SEOk P S) (hR:yp9 P S.E (ylD S d) t.body) (hl:LpOk P S.E S.lp [] t.body) (hs:∀ az,S.E.sum n az=none) (he:∀ az H,S.E.eff n az H=none) (hf:S.E.fns n=some t.fn) (hu:S.E.qui n=true) (hn:S.E.nl n=false):∀ az K,s.pw w az K→∃ r,K r∧AnsP P n az r:=fun az K h=>by
 obtain ⟨a,e,k⟩:=Sg.inv h
 subst e
 rw [← hq a K] at k
 exact yPL hS hR hl hf hu hs he k hn
end Go.Pf
namespace Go.Pf.Vc
open Go Go.Pf
def ymR:Nat:=45
def yg2:Nat:=15
def ymS:Nat:=62
def ymT:Nat:=53
def ysJ:Nat:=20
def ymU:Nat:=54
def yhQ:Nat:=162
def yhR:Nat:=163
def ydA:Nat:=129
def yeO:Nat:=81
def yf5:Nat:=38
def ykG:Nat:=40
def yfp:Nat:=85
def yds:Nat:=84
def ydB:Nat:=116
def ymV:Nat:=134
def ygu:Nat:=133
def ydH:Nat:=87
def yeP:Nat:=159
def ygB:Nat:=160
def ye5:Nat:=167
def yfN:Nat:=172
def yeb:Nat:=136
def ylk:Nat:=170
def yfq:Nat:=161
def yfF:Nat:=132
def ybA:Nat:=89
def yfO:Nat:=166
def ygv:Nat:=188
def yfg:Nat:=177
def yfP:Nat:=189
def yeQ:Nat:=179
def yk6:Nat:=178
def yeR:Nat:=138
def ygC:Nat:=165
def yg3:Nat:=164
def yjF:Nat:=173
def yjG:Nat:=174
def ysK:Nat:=201
def yfQ:Nat:=187
def yoo:Nat:=176
def ysL:Nat:=175
def yeS:Nat:=137
def yfG:Nat:=90
def yeT:Nat:=117
def yhF:Nat:=169
def yzr:Nat:=168
def ymW:Nat:=131
def yeU:Nat:=83
def yeV:Nat:=202
def yiy:Nat:=186
def yjH:Nat:=171
def ypc:Nat:=140
def yc8:Nat:=93
def ycl:Nat:=86
def yg4:Nat:=130
def yer:Nat:=82
def ygD:Nat:=135
def ygE:Nat:=88
def ye6:Nat:=91
def ymX:Nat:=139
def ydY:Nat:=92
def ydI:Nat:=41
def ydp:Nat:=47
def ykc:Nat:=143
def ykr:Nat:=100
def ycZ:Nat:=144
def yEF:Nat:=200
def yJU:Nat:=182
def ygF:Nat:=192
def yiz:Nat:=181
def ya1:Nat:=145
def yec:Nat:=147
def yej:Nat:=146
def yiA:Nat:=101
def yiB:Nat:=49
def yc2:Nat:=48
def yrb:Nat:=46
def yiC:Nat:=16
def ywd:Nat:=55
def ywe:Nat:=22
def ypd:Nat:=52
def ype:Nat:=18
def ymY:Nat:=21
def yk7:Nat:=36
def ygd:Nat:=151
def yc0:Nat:=118
def ydC:Nat:=125
def ye7:Nat:=114
def yf6:Nat:=153
def yzs:Nat:=152
def ycL:Nat:=115
def ybE:Nat:=71
def yfr:Nat:=75
def yhV:Nat:=76
def yeW:Nat:=156
def ydk:Nat:=184
def ybH:Nat:=154
def ydg:Nat:=155
def yhG:Nat:=121
def ycw:Nat:=120
def ykT:Nat:=119
def yet:Nat:=185
def yf7:Nat:=157
def yc9:Nat:=158
def ydQ:Nat:=122
def yiD:Nat:=124
def ycx:Nat:=123
def ycy:Nat:=126
def ycz:Nat:=127
def ycA:Nat:=128
def ybT:Nat:=77
def yk8:Nat:=32
def yiE:Nat:=13
def ych:Nat:=78
def ybx:Nat:=79
def yiF:Nat:=33
def yjI:Nat:=8
abbrev zI:Sh:=.one (.i .i64)
abbrev zD:Sh:=.one .d
abbrev z2:Sh:=.agg [.i .i64,.i .i64]
abbrev z4:Sh:=.agg [.i .i64,.i .i64,.i .i64,.i .i64]
abbrev zK:Sh:=.agg [.i .i64,.d,.d]
abbrev zE:Sh:=.agg [.d,.d]
def yPO (o:AO):Nat :=
 match o.dst with
 | some d=>d
 | none=>(match o.op with | .store _ (.t a) _=>a+100000 | _=>999999)
def anF:List (Sh×Nat×List Nat)→Nat→Option (Sh×Nat)
 | [],_=>none
 | (s,m,l)::r,k=>bif memN l k then some (s,m) else anF r k
def anL (tb:List (Sh×Nat×List Nat)):Nat→List AO→List An
 | _,[]=>[]
 | i,o::r=>(match anF tb (yPO o) with | some (s,m)=>⟨i,s,m⟩::anL tb (i+1) r | none=>anL tb (i+1) r)
def annT (tb:List (Sh×Nat×List Nat)) (lps:List (Nat×Nat)):Nat→AC→TC
 | _,.skip=>.skip
 | _,.ops l ps fg=>.ops l (anL tb 0 l) ps fg
 | k,.seq a b=>.seq (annT tb lps k a) (annT tb lps k b)
 | k,.cond c a b=>.cond c (annT tb lps k a) (annT tb lps k b)
 | _,.block id b=>.block id (annT tb lps id b)
 | k,.loop b=>.loop ((lps.lookup k).getD 0) (annT tb lps k b)
 | k,.lG b=>.lG ((lps.lookup k).getD 0) (annT tb lps k b)
 | _,.exit id=>.exit id
 | _,.ret=>.ret
 | _,.bad=>.bad
 | _,.rangeF g ps az bd=>.cut (.rangeF g ps az bd)
 | _,.yret c pre d y args e fgt=>.cut (.yret c pre d y args e fgt)
theorem ygG (tb:List (Sh×Nat×List Nat)) (lps:List (Nat×Nat)):∀ (c:AC) (k:Nat),ycq (annT tb lps k c)=c
 | .skip,_=>rfl
 | .ops _ _ _,_=>rfl
 | .seq a b,k=>by simp only [annT,ycq,ygG tb lps a,ygG tb lps b]
 | .cond _ a b,k=>by simp only [annT,ycq,ygG tb lps a,ygG tb lps b]
 | .block _ b,k=>by simp only [annT,ycq,ygG tb lps b]
 | .loop b,k=>by simp only [annT,ycq,ygG tb lps b]
 | .lG b,k=>by simp only [annT,ycq,ygG tb lps b]
 | .exit _,_=>rfl
 | .ret,_=>rfl
 | .bad,_=>rfl
 | .rangeF ..,_=>rfl
 | .yret ..,_=>rfl
def tfn (tb:List (Sh×Nat×List Nat)) (lps:List (Nat×Nat)):Option AFn→TFn
 | some f=>⟨f.nparams,f.results,annT tb lps 999999 f.body⟩
 | none=>⟨0,[],.bad⟩
theorem yPe {tb:List (Sh×Nat×List Nat)} {lps:List (Nat×Nat)} {o:Option AFn} (h:o.isSome=true):o=some (tfn tb lps o).fn:=by
 cases o with
 | none=>cases h
 | some f=>simp only [tfn,TFn.fn,ygG]
def yci (t:TFn) (id:Nat):TC :=
 match (ydN t.body).lookup id with
 | some (.loop _ b)=>b
 | some (.lG _ b)=>b
 | _=>.skip
def rg:Nat→Nat→List Nat
 | a,0=>[a]
 | a,n+1=>a::rg (a+1) n
def xp:List Nat→List Nat
 | a::b::r=>bif Nat.blt 5000 b then rg a (b-5000)++xp r else a::xp (b::r)
 | l=>l
def tl (tb:List (Sh×Nat×List Nat)) (lps:List (Nat×Nat)) (loc:List Nat) (fg:List (Nat×List Nat)) (f:Func):TFn:=tfn tb lps (yub Proofs.Tryz.prog loc (fun i=>xp ((fg.lookup i).getD [])) f)
theorem yaS {tb:List (Sh×Nat×List Nat)} {lps:List (Nat×Nat)} {loc:List Nat} {fg:List (Nat×List Nat)} {f:Func} (h:(yub Proofs.Tryz.prog loc (fun i=>xp ((fg.lookup i).getD [])) f).isSome=true):yub Proofs.Tryz.prog loc (fun i=>xp ((fg.lookup i).getD [])) f=some (tl tb lps loc fg f).fn:=yPe h
def yHx:TFn:=tl [(zK,0,[4,9])] [] [1] [(1,[1,3,5009]),(0,[0,2])] Proofs.Tryz.f45
def yop:TFn:=tl [(zK,0,[12,13])] [(0,4277600)] [] [(6,[0,3,7,15,16,17]),(3,[8,9,14]),(5,[0,3,14]),(4,[7,10,5003]),(2,[4,5,6]),(0,[2])] Proofs.Tryz.f15
def yx3:TC:=yci yop 4277600
def yzt:TFn:=tl [(zK,0,[6,10,15,19,25,28,35,42,44,50,55,61,67,74,82,91]),(zI,0,[36,37,47,48,64,65,69,70,76,77,84,85,93,94])] [(0,94526800)] [1] [(14,[98]),(13,[98]),(12,[1,3,4,57,97]),(8,[58,59]),(11,[87,5009]),(10,[1,3,4,87]),(9,[57,60,5026]),(7,[53,5003]),(5,[52]),(4,[1,52]),(3,[13,5038]),(2,[1,13]),(1,[5,5007]),(0,[0,2])] Proofs.Tryz.f62
def yun:TC:=yci yzt 94526800
def yrc:TFn:=tl [(zE,0,[6,11,16,21,27,34,41,47,53]),(zK,0,[29,30,36,37,49,51,54,56])] [(0,6981300),(2,6981301)] [1] [(15,[1,4,43]),(12,[44,45,57]),(14,[1,4,57]),(13,[43,46,5010]),(11,[39,5003]),(10,[3,23]),(7,[24,25,32]),(9,[1,3,32,5006]),(8,[23,26,5005]),(6,[19,5003]),(5,[18]),(4,[1,18]),(3,[14,5003]),(2,[1,14]),(1,[5,5008]),(0,[0,2])] Proofs.Tryz.f53
def yx4:TC:=yci yrc 6981300
def yx5:TC:=yci yrc 6981301
def yLb:TFn:=tl [] [] [] [(1,[0,3,5013]),(0,[2])] Proofs.Tryz.f20
def yHy:TFn:=tl [] [] [1,2,4,5,7,8] [(1,[1,5009]),(0,[0])] Proofs.Tryz.f54
def yqd:TFn:=tl [(zI,0,[10,11,21,22])] [(0,10434000)] [] [(8,[0,3,4,15,24]),(6,[16,17]),(7,[15,18,5005]),(5,[12,13,14]),(3,[7,9,10,11]),(2,[7,8]),(1,[5,6]),(0,[2])] Proofs.Tryz.f162
def yuo:TC:=yci yqd 10434000
def yqe:TFn:=tl [(zI,0,[10,11,21,22])] [(0,64079100)] [] [(8,[0,3,4,15,24]),(6,[16,17]),(7,[15,18,5005]),(5,[12,13,14]),(3,[7,9,10,11]),(2,[7,8]),(1,[5,6]),(0,[2])] Proofs.Tryz.f163
def yup:TC:=yci yqe 64079100
def ywf:TFn:=tl [(zK,0,[6,9,16,24,32,39,45,54,59,67,72,78]),(zI,0,[33,34,42,43,56,57,62,63])] [(0,87419700)] [1] [(14,[81]),(13,[81]),(12,[1,49,50,51,66,5014]),(11,[64,65]),(10,[1,49,50,64]),(9,[4,53,5010]),(8,[51,52]),(6,[3,47,48]),(5,[1,3,47]),(4,[14,5032]),(3,[1,3,14]),(2,[8,5005]),(1,[5,6,7]),(0,[0,2])] Proofs.Tryz.f129
def yuq:TC:=yci ywf 87419700
def yrd:TFn:=tl [(zE,0,[9,14,19,23,36,45]),(zK,0,[27,28,40,41,43,46,48])] [(0,12157600),(2,12157601)] [1,4,7] [(18,[1,36,5003]),(17,[49,50]),(16,[1,36,37,38,49]),(15,[7,42,5006]),(14,[39,40,41]),(12,[23,5003,35]),(11,[5,32,34]),(10,[1,5,23,24,25,32,33]),(9,[31]),(8,[4,29,30]),(7,[26,27,28]),(5,[21,22]),(4,[1,21]),(3,[17,5003]),(2,[1,17]),(1,[8,5008]),(0,[0,2])] Proofs.Tryz.f81
def yur:TC:=yci yrd 12157600
def yus:TC:=yci yrd 12157601
def yzS:TFn:=tl [(zE,0,[10])] [] [1] [(6,[12]),(5,[12]),(4,[1,3,7,9,10,11]),(3,[1,3,7,8]),(2,[6]),(1,[4,5]),(0,[0,2])] Proofs.Tryz.f38
def yLO:TFn:=tl [(zI,0,[100018])] [] [] [(5,[0,2,3,14,16,17,18]),(4,[2,14,15]),(3,[4,13]),(2,[7,5005]),(1,[6]),(0,[5])] Proofs.Tryz.f40
def yBP:TFn:=tl [] [] [2] [(1,[0,3,4])] Proofs.Tryz.f85
def yx6:TFn:=tl [(zE,0,[11])] [] [2] [(1,[1,2,5,5009]),(0,[0,4])] Proofs.Tryz.f84
def ywg:TFn:=tl [(zK,0,[14,24,30]),(zI,0,[19,20,27,28,32,33])] [(0,45203600)] [1] [(10,[1,5,14,5003,38]),(9,[37]),(8,[6,7,21,5015]),(7,[17,5003]),(5,[13]),(4,[4,11]),(3,[1,4,11,12]),(2,[10]),(1,[8,9]),(0,[0,2,3])] Proofs.Tryz.f116
def yut:TC:=yci ywg 45203600
def yHz:TFn:=tl [(zE,0,[18]),(zK,0,[20,21])] [] [2] [(6,[1,2,16,5008]),(5,[1,2,16]),(4,[6,10,12,5003]),(3,[1,2,6,10,11]),(2,[9]),(1,[7,8]),(0,[0,4,5])] Proofs.Tryz.f134
def ywh:TFn:=tl [] [] [] [(3,[0,1,6,9]),(2,[1,6,7,8]),(1,[5]),(0,[4])] Proofs.Tryz.f133
def yre:TFn:=tl [(zE,0,[8])] [] [4] [(1,[0,1,5,5009])] Proofs.Tryz.f87
def yFL:TFn:=tl [] [] [] [(3,[0,4,8,9]),(2,[0,4,5003]),(1,[3]),(0,[2])] Proofs.Tryz.f159
def yzu:TFn:=tl [] [(0,32725300)] [] [(3,[0,1,6,11]),(2,[6,5004]),(1,[5]),(0,[4])] Proofs.Tryz.f160
def yuu:TC:=yci yzu 32725300
def yDm:TFn:=tl [(z2,0,[4,8,11,18,21])] [] [1] [(3,[25]),(2,[25]),(1,[1,3,5021]),(0,[0,2])] Proofs.Tryz.f167
def ylG:TFn:=tl [(zI,0,[10,11])] [(0,38508400)] [] [(8,[3,6,5003,17]),(7,[5,14,16]),(6,[3,5,5003,14,15]),(5,[12,13]),(4,[9,10,11]),(2,[0]),(0,[2])] Proofs.Tryz.f172
def yuv:TC:=yci ylG 38508400
def yDn:TFn:=tl [] [] [9,2,3] [(1,[2,3,5,5005]),(0,[0,1,4])] Proofs.Tryz.f136
def yLc:TFn:=tl [] [] [] [(11,[0,1,48,49,50]),(10,[7,9,12,13,40,5007]),(9,[6,35,5004]),(8,[11,33,34]),(7,[31,32]),(6,[8,10,25,5005]),(5,[22,23,24]),(4,[20,21]),(3,[18,19]),(2,[16,17]),(1,[14,15]),(0,[4,5])] Proofs.Tryz.f170
def yBQ:TFn:=tl [] [] [6] [(5,[1,2,13,20,5004]),(4,[1,2,13,5006]),(3,[0,11]),(2,[0,1,2,11,12]),(1,[8,9,10]),(0,[7])] Proofs.Tryz.f161
def yHA:TFn:=tl [(z2,0,[25,28,31,34,71,74])] [] [2,3,4] [(10,[2,3,14,16,65,67,5015]),(9,[2,3,14,16,65,66]),(8,[13,15,62,63,64]),(7,[8,10,11,12,52,5009]),(6,[7,9,42,5009]),(5,[36,5005]),(4,[6,21,24,5011]),(3,[2,3,6,21,22,23]),(2,[20]),(1,[17,18,19]),(0,[0,1,5])] Proofs.Tryz.f132
def yoq:TFn:=tl [] [] [2,4] [(3,[1,2,6,9]),(2,[1,6,7,8]),(1,[5]),(0,[0])] Proofs.Tryz.f89
def yFM:TFn:=tl [] [] [2] [(1,[0,3,4])] Proofs.Tryz.f166
def ywi:TFn:=tl [] [] [] [(1,[0,3,4,5]),(0,[2])] Proofs.Tryz.f188
def ysT:TFn:=tl [] [] [] [(13,[19]),(12,[19]),(11,[0,1,16,17,18]),(10,[0,1,16]),(9,[13,14,15]),(8,[0,1,13]),(7,[6,11]),(6,[12]),(5,[12]),(4,[0,1,6,11]),(3,[5]),(2,[9,10]),(1,[7,8]),(0,[4])] Proofs.Tryz.f177
def yuw:TFn:=tl [] [] [] [(1,[0,3,4,5]),(0,[2])] Proofs.Tryz.f189
def yrf:TFn:=tl [] [] [] [(13,[19]),(12,[19]),(11,[0,1,16,17,18]),(10,[0,1,16]),(9,[13,14,15]),(8,[0,1,13]),(7,[6,11]),(6,[12]),(5,[12]),(4,[0,1,6,11]),(3,[5]),(2,[9,10]),(1,[7,8]),(0,[4])] Proofs.Tryz.f179
def ywj:TFn:=tl [(zI,0,[10,11])] [(0,53260600)] [] [(8,[3,6,5003,17]),(7,[5,14,16]),(6,[3,5,5003,14,15]),(5,[12,13]),(4,[9,10,11]),(2,[0]),(0,[2])] Proofs.Tryz.f178
def yux:TC:=yci ywj 53260600
def yHB:TFn:=tl [(z2,0,[19,22,26,28,32,35,42,45,59])] [] [56,2,3] [(11,[11,60,63]),(10,[60,61,62]),(9,[2,58,59]),(8,[7,5003,50,5007]),(7,[3,40,5009]),(6,[24,30,5009]),(5,[2,3,24,5005]),(4,[6,16,18,5005]),(3,[2,3,6,16,17]),(2,[15]),(1,[12,13,14]),(0,[0,1,4,5])] Proofs.Tryz.f138
def yHC:TFn:=tl [] [] [2,3] [(2,[5,13,14]),(1,[2,3,6,5006]),(0,[0,1,4])] Proofs.Tryz.f165
def yFN:TFn:=tl [(z2,0,[10]),(zK,0,[15])] [] [2,3] [(1,[2,3,5,5015]),(0,[0,1,4])] Proofs.Tryz.f164
def yLd:TFn:=tl [] [] [] [(10,[0,14,19,5005]),(9,[17,18]),(8,[14,15,16]),(7,[8,13]),(6,[11,12]),(5,[8,9,10]),(4,[4,7]),(2,[2,4,5,6]),(1,[3])] Proofs.Tryz.f201
def yuy:TFn:=tl [] [] [] [(1,[0,3,4,5]),(0,[2])] Proofs.Tryz.f187
def yx7:TFn:=tl [] [(0,60530100),(2,60530101)] [] [(28,[2,8,9,10,14,5004,113,120,5014]),(27,[119]),(26,[116,117,118]),(25,[113,114,115]),(24,[102,5010,120]),(23,[97,5004]),(22,[94,95,96]),(21,[11,13,16,78,85,5008]),(20,[84]),(19,[81,82,83]),(18,[78,79,80]),(17,[67,5010,85]),(16,[62,5004]),(15,[59,60,61]),(14,[12,57,58]),(13,[55,56]),(12,[1,52,53,54]),(11,[0,44,5007]),(10,[42,43]),(9,[40,41]),(8,[37,38,39]),(7,[27,34,35,36]),(6,[0,1,2,27,5006]),(5,[24,26]),(4,[24,25]),(3,[20,22,23]),(2,[20,21]),(1,[19]),(0,[6,7])] Proofs.Tryz.f176
def yuz:TC:=yci yx7 60530100
def yuA:TC:=yci yx7 60530101
def yLe:TFn:=tl [] [] [] [(2,[8,18]),(1,[0,1,2,7,9,5008]),(0,[6])] Proofs.Tryz.f175
def yHD:TFn:=tl [(z2,0,[29,32,37,40,49,52,60,63,66,140,145])] [] [2,3,4] [(26,[12,17,20,153,155,5005]),(25,[12,17,20,153,154]),(24,[19,152]),(23,[2,3,7,16,138,5013]),(22,[13,14,18,129,131,5006]),(21,[2,3,7,12,13,14,16,129,130]),(20,[127,128]),(19,[119,121,5005]),(18,[2,3,7,12,13,14,119,120]),(17,[114,5004]),(16,[8,10,15,107,5006]),(15,[9,11,94,101,5005]),(14,[99,100]),(13,[94,5004]),(12,[68,82,5011]),(11,[8,10,15,75,5006]),(10,[9,11,68,5006]),(9,[62,5005]),(8,[13,14,15]),(7,[59,60,61]),(6,[47,5011]),(5,[35,5011]),(4,[6,25,28,5006]),(3,[2,3,6,25,26,27]),(2,[24]),(1,[21,22,23]),(0,[0,1,5])] Proofs.Tryz.f137
def yHE:TFn:=tl [(z2,0,[15,100017])] [] [2,3,4] [(5,[2,3,18,5004]),(4,[6,11,14,5003]),(3,[2,3,6,11,12,13]),(2,[10]),(1,[7,8,9]),(0,[0,1,5])] Proofs.Tryz.f90
def yHF:TFn:=tl [(z2,0,[16,21,25,28,36,38])] [] [2,3,4] [(8,[2,3,19,34,5008]),(7,[2,3,19,23,5010]),(6,[14,20,21,22]),(5,[2,3,14,18]),(4,[6,11,15,16,17]),(3,[2,3,6,11,12,13]),(2,[10]),(1,[7,8,9]),(0,[0,1,5])] Proofs.Tryz.f117
def ytE:TFn:=tl [] [] [7,8,9,12,14] [(12,[5,6,7,14,15,41,48]),(11,[6,7,14,41,5006]),(10,[40]),(9,[3,4,9,20,33,5006]),(8,[5,13,29,31,32]),(7,[5,29,30]),(6,[28]),(5,[4,12,27]),(4,[3,6,7,9,20,5006]),(3,[17,18,19]),(2,[3,5004,9,17]),(1,[16]),(0,[0,1,2,8,11])] Proofs.Tryz.f169
def yzv:TFn:=tl [(zK,0,[14,22]),(zI,0,[19,20,25,26])] [(0,41613500)] [3,4,9,10,11] [(18,[2,3,4,14,5003]),(17,[8,9,31,61]),(16,[9,59,60]),(15,[2,3,4,9,14,15,16,59]),(14,[8,10,12,34,52,54,5004]),(13,[2,3,4,8,9,10,12,14,15,16,52,53]),(12,[51]),(11,[11,42,44,5006]),(10,[2,3,4,8,5004,14,15,16,42,43]),(9,[41]),(8,[34,5006]),(7,[33]),(6,[31,32]),(5,[28,29,30]),(4,[7,21,5006]),(3,[17,5003]),(1,[13]),(0,[0,1,6])] Proofs.Tryz.f168
def yuB:TC:=yci yzv 41613500
def yHG:TFn:=tl [(z2,0,[23,29,34,48]),(zI,0,[44,47,100010])] [] [3,4,6] [(15,[9,10,45,48]),(14,[9,10,45,46,47]),(13,[11,42,44]),(12,[11,42,43]),(11,[41]),(10,[3,4,5,37,5003]),(8,[35]),(7,[3,4,5,35,36]),(6,[31,33,34]),(5,[3,4,5,31,32]),(4,[8,15,18,5012]),(3,[3,4,5,8,15,16,17]),(2,[14]),(1,[12,13]),(0,[0,1,2,7])] Proofs.Tryz.f131
def ywk:TFn:=tl [(zE,0,[12]),(zK,0,[14,15])] [] [4,6,7,8] [(1,[1,4,6,7,10,5010]),(0,[0,2,3,9])] Proofs.Tryz.f83
def yJV:TFn:=tl [] [] [] [(3,[0,4,5003]),(2,[0,4]),(1,[3]),(0,[2])] Proofs.Tryz.f202
def ywl:TFn:=tl [(zK,0,[10,11,14,16,19])] [(0,94933800)] [22,5] [(7,[3,6,5003,25]),(6,[24]),(5,[5,12,5011]),(4,[9,10,11]),(2,[0]),(0,[2])] Proofs.Tryz.f186
def yuC:TC:=yci ywl 94933800
def yor:TFn:=tl [(zE,0,[14,46,55,61,66]),((.agg [.i .i64,.i .u8,.i .i64,.i .i64,.i .i64,.i .i64,.i .i64,.i .i64]),0,[23,31,33,35,100052])] [] [69,3,4,6,7,10] [(13,[3,4,10,12,59,5013]),(12,[53,5005]),(11,[48,51,52]),(10,[3,4,10,48,49,50]),(9,[11,40,44,5003]),(8,[3,4,10,11,40,5003]),(7,[39]),(6,[2,25,28,5010]),(5,[2,3,4,25,26,27]),(4,[9,17,21,5003]),(3,[2,3,4,9,17,5003]),(2,[16]),(1,[13,14,15]),(0,[0,1,8])] Proofs.Tryz.f171
def yIR:TFn:=tl [] [] [4,6,7,8,9,11] [(2,[1,6,7,11,14,5010]),(1,[4,12,13]),(0,[0,2,3,10])] Proofs.Tryz.f140
def ysU:TFn:=tl [(zE,0,[16,100030])] [] [6,7,8,9,10] [(4,[10,31]),(3,[0,9,27,5003]),(2,[11,24,25,26]),(1,[1,6,7,12,5011]),(0,[2,3])] Proofs.Tryz.f93
def yqD:TFn:=tl [] [] [6,7,8,9,10] [(2,[0,1,6,7,10,21,5010]),(1,[11,5009]),(0,[2,3])] Proofs.Tryz.f86
def ywm:TFn:=tl [(zK,0,[42,50]),(zI,0,[47,48,53,54])] [(0,85339800)] [3,4,5,6,9,10,13,14,16] [(28,[3,5,9,10,42,5003,105]),(27,[13,70,104]),(26,[13,15,100,103]),(25,[3,5,9,10,13,15,42,43,44,100,101,102]),(24,[99]),(23,[16,90,93,5005]),(22,[3,5,9,10,13,15,16,42,43,44,90,91,92]),(21,[89]),(20,[12,14,79,82,5006]),(19,[3,5,9,10,12,5003,42,43,44,79,80,81]),(18,[78]),(17,[67,72,5005]),(16,[13,70,71]),(15,[12,67,68,69]),(14,[58,60,5006]),(13,[58,59]),(12,[56,57]),(11,[11,49,5006]),(10,[45,5003]),(8,[41]),(7,[4,40]),(6,[37,39]),(5,[3,4,5,37,38]),(4,[8,20,23,5013]),(3,[3,4,5,8,20,21,22]),(2,[19]),(1,[17,18]),(0,[0,1,2,7])] Proofs.Tryz.f130
def yuD:TC:=yci ywm 85339800
def yuE:TFn:=tl [(zE,0,[12]),(zK,0,[14,15])] [] [4,6,7,8] [(1,[1,4,6,7,10,5010]),(0,[0,2,3,9])] Proofs.Tryz.f82
def yHH:TFn:=tl [] [] [4,6,7,8,9,11] [(2,[1,6,7,11,14,5010]),(1,[4,12,13]),(0,[0,2,3,10])] Proofs.Tryz.f135
def ygH:TFn:=tl [(z4,0,[17,18,26,28]),(zE,0,[23,100042])] [(0,38310000)] [37,9,10,11] [(9,[0,1,7,13,5003,44]),(8,[43]),(7,[10,39,5003]),(6,[11,12,33,5005]),(5,[9,19,5013]),(4,[16,17,18]),(2,[2]),(0,[6])] Proofs.Tryz.f88
def yjJ:TC:=yci ygH 38310000
def ytF:TFn:=tl [(zI,0,[11,12,17,18]),(z2,0,[22,23,26,27])] [(0,12610200)] [] [(9,[0,5,13,5003,35]),(8,[7,32,34]),(7,[7,32,33]),(6,[8,31]),(5,[9,19,5011]),(4,[16,17,18]),(2,[1]),(1,[10,11,12]),(0,[4])] Proofs.Tryz.f91
def yuF:TC:=yci ytF 12610200
def ymZ:TFn:=tl [(zI,0,[9,10])] [(0,86939300)] [] [(7,[1,5,5003]),(6,[13,14]),(5,[1,5,6,7,13]),(4,[4,11,12]),(3,[8,9,10]),(1,[0]),(0,[2])] Proofs.Tryz.f139
def yuG:TC:=yci ymZ 86939300
def yqf:TFn:=tl [(zI,0,[14,100004])] [(0,63461800)] [15] [(9,[1,3,6,7,18]),(8,[4,12,17]),(7,[4,12,5004]),(6,[5,10,11]),(5,[9]),(4,[7,8]),(0,[0,2]),(999999,[1])] Proofs.Tryz.f92
def yuH:TC:=yci yqf 63461800
def yrg:TFn:=tl [(zE,0,[17]),(zK,0,[18,20]),((.agg [.i .i64,.i .i64,.i .i64,.i .i64,.i .i64,.i .i64,.i .i64,.i .i64,.i .i64,.i .i64,.i .i64,.i .i64,.i .i64,.i .i64,.i .i64,.i .i64,.i .i64,.i .i64,.i .i64,.i .i64]),0,[44,47,102,108,119,140,147,151,154,158,163,166,173,100007,100112,100124,100127,100136,100145,100160,100172]),(z2,0,[54,55,61,62,79,80,83,84,88,89,92,93,122,123,128,100128]),(zI,0,[169,170])] [] [48,67,70,74,133,141,167,2,3,4,5,6,11] [(17,[7,173]),(16,[156,161,5011]),(15,[156,5004]),(14,[146,5009]),(13,[8,137,5008]),(12,[0,9,10,85,129,5007]),(11,[9,10,113,5015]),(10,[11,98,5014]),(9,[85,5012]),(8,[77,5007]),(7,[72,5004]),(6,[69,70,71]),(5,[50,5018]),(4,[41,5008]),(3,[3,5003,30,5010]),(2,[22,5007]),(1,[12,5009])] Proofs.Tryz.f41
def yqE:TFn:=tl [((.agg [.i .i64,.i .i64,.i .i64,.i .i64,.i .i64,.i .i64,.i .i64,.i .i64,.i .i64,.i .i64,.i .i64,.i .i64,.i .i64,.i .i64,.i .i64,.i .i64,.i .i64,.i .i64,.i .i64,.i .i64]),0,[17,19,28,32,42,51]),(z2,0,[35,36]),(zI,0,[66,67,72,73,90,91,98,99]),(z4,0,[68,69,74,75,85,86,92,93,100,101]),((.agg [.i .i64,.i .i64,.i .i64,.i .i64,.i .i64,.i .i64,.i .i64,.i .i64,.i .i64,.i .i64,.i .i64,.i .i64]),0,[100102,100103,100104])] [] [33,58,61,76,79,3,4,7,8,10] [(12,[10,105]),(11,[5,6,9,11,12,14,81,5023]),(10,[13,78,79,80]),(9,[0,63,5014]),(8,[60,61,62]),(7,[54,5005]),(5,[3,7,8,40,5013]),(4,[20,23,5016]),(3,[20,21,22]),(2,[15,5004]),(0,[1])] Proofs.Tryz.f47
def yDo:TFn:=tl [(z4,0,[7,9])] [] [1] [(2,[3,4,13,5005]),(1,[1,5,5007]),(0,[0,2])] Proofs.Tryz.f143
def yzw:TFn:=tl [(z4,0,[12,13])] [(0,56157900)] [4] [(9,[8,5003]),(8,[16,17]),(7,[8,9,10,16]),(6,[4,14,15]),(5,[11,12,13]),(3,[0,7]),(2,[0,7]),(1,[5,6]),(0,[2])] Proofs.Tryz.f100
def yuI:TC:=yci yzw 56157900
def yAH:TFn:=tl [] [] [] [(3,[0,4,5003]),(2,[0,4]),(1,[3]),(0,[2])] Proofs.Tryz.f144
def yPG:TFn:=tl [] [] [] [(7,[0,8,13,5005]),(6,[11,12]),(5,[8,9,10]),(4,[4,7]),(2,[2,4,5,6]),(1,[3])] Proofs.Tryz.f200
def yQV:TFn:=tl [] [] [] [(2,[0,6,7]),(1,[0,3,4,5]),(0,[2])] Proofs.Tryz.f182
def ydJ:TFn:=tl [(z4,0,[25,26,30,31,45,46,49,50,51,52,100051,100052])] [(0,53122801),(2,53122800)] [] [(2,[9,15,16,34]),(5,[35,36]),(6,[34,37,5015]),(4,[18,5015]),(3,[14,17]),(1,[12,13]),(0,[10,11])] Proofs.Tryz.f192
def yPf:TC:=yci ydJ 53122800
def yPg:TC:=yci ydJ 53122801
def yiG:TFn:=tl [(z4,0,[88,89,92,93])] [(0,92709400)] [] [(30,[16,147]),(29,[2,140,5006]),(28,[18,19,20,125,137,138,139]),(27,[16,135,136]),(26,[1,129,5005]),(25,[18,19,20,125,5003]),(24,[123,124]),(23,[12,121,122]),(22,[115,5005]),(21,[17,114]),(20,[10,11,13,97,105,5008]),(19,[15,104]),(18,[1,12,13,97,5006]),(17,[75,80,5016]),(16,[75,5004]),(15,[14,56,68,5006]),(13,[62,5005]),(12,[14,56,5005]),(11,[55]),(10,[39,47,5007]),(9,[45,46]),(8,[39,5005]),(7,[32,38]),(6,[0,5004,10,11,12,32,5005]),(5,[25,31]),(4,[0,5004,10,11,12,25,5005]),(3,[24]),(2,[21,22,23])] Proofs.Tryz.f181
def yPh:TC:=yci yiG 92709400
def yx8:TFn:=tl [] [] [] [(1,[0,1,4,7,5006]),(0,[5,6])] Proofs.Tryz.f145
def yDp:TFn:=tl [] [] [2,3] [(2,[5,13]),(1,[2,3,6,5006]),(0,[0,1,4])] Proofs.Tryz.f147
def yx9:TFn:=tl [(z4,0,[6,8])] [] [2,3] [(1,[2,3,5,5004]),(0,[0,1,4])] Proofs.Tryz.f146
def yrh:TFn:=tl [(z4,0,[15,16,23,27,29,34,38,40,47,48,100049])] [(0,63960300)] [52,5] [(13,[3,11,5003,55]),(12,[5,6,42,54]),(11,[5,6,32,50,5003]),(10,[5,6,42,5007]),(9,[32,5009]),(8,[19,5012]),(7,[17,18]),(6,[14,15,16]),(4,[0]),(2,[9,10]),(1,[7,8]),(0,[2])] Proofs.Tryz.f101
def yuJ:TC:=yci yrh 63960300
def yFO:TFn:=tl [] [] [] [(4,[0,4,8,10,11]),(3,[0,4,8,9]),(2,[7]),(1,[5,6]),(0,[2,3])] Proofs.Tryz.f49
def ypf:TFn:=tl [] [] [] [(3,[0,1,6,9]),(2,[1,6,7,8]),(1,[5]),(0,[4])] Proofs.Tryz.f48
def ylH:TFn:=tl [((.agg [.i .i64,.i .i64,.i .i64,.i .i64,.i .i64,.i .i64,.i .i64,.i .i64,.i .i64,.i .i64,.i .i64,.i .i64]),0,[27]),(z4,0,[32,33,35,37])] [(0,52887901),(2,52887900)] [28,41,51,4,8] [(16,[54]),(15,[6,28,5003,44,5009]),(14,[8,38,43]),(13,[8,38,5004]),(12,[34,5003]),(11,[31,32,33]),(9,[5,18,5009]),(7,[16,17]),(5,[1,12]),(4,[1,12,13,14]),(3,[10,11]),(1,[9]),(0,[0]),(999999,[1])] Proofs.Tryz.f46
def ypg:TC:=yci ylH 52887900
def yuK:TC:=yci ylH 52887901
def yFP:TFn:=tl [(zI,0,[21,25,100005]),((.agg [.d]),0,[26,100002]),((.agg [.i .i64,.i .i64,.i .i64,.i .i64,.i .i64,.i .i64,.i .i64,.i .i64,.i .i64,.i .i64,.i .i64,.i .i64,.i .i64,.i .i64,.i .i64,.i .i64,.i .i64,.i .i64,.i .i64,.i .i64]),0,[27,100003]),(zE,0,[30,100007])] [] [1000002] [(8,[7,22,26,5004]),(7,[7,22,5003]),(6,[21]),(5,[19,20]),(4,[0,6,12,16,17,18]),(3,[0,6,12,5003]),(2,[11]),(1,[8,9,10]),(0,[4])] Proofs.Tryz.f16
def yMt:TFn:=tl [] [] [2] [(1,[0,3,4])] Proofs.Tryz.f55
def yMu:TFn:=tl [] [] [2] [(1,[0,3,4])] Proofs.Tryz.f22
def yBR:TFn:=tl [(z4,0,[19,20,23,24])] [(0,27088800)] [] [(8,[0,1,5,14]),(5,[15,16,25]),(7,[0,1,5,25]),(6,[14,17,5007]),(4,[11,12,13]),(3,[10]),(2,[0,1,10]),(1,[6,5003]),(0,[4])] Proofs.Tryz.f52
def yuL:TC:=yci yBR 27088800
def yBS:TFn:=tl [((.agg [.d]),0,[7,10,15,21,26]),(zD,0,[23,24,28,29])] [(0,70742100)] [2,3] [(8,[2,3,5,17]),(5,[18,19,31]),(7,[2,3,5,31]),(6,[17,20,5010]),(4,[13,5003]),(3,[12]),(2,[2,3,12]),(1,[6,5005]),(0,[0,1,4])] Proofs.Tryz.f18
def yuM:TC:=yci yBS 70742100
def yHI:TFn:=tl [] [] [47,51,55,56,1,2,5,6] [(4,[1,5003,6,30,5029]),(3,[5,15,5014]),(2,[14]),(1,[7,5006]),(0,[0])] Proofs.Tryz.f21
def ywn:TFn:=tl [(zE,0,[18,25]),((.agg [.i .i64,.i .u8,.i .i64,.i .i64,.i .i64,.i .i64,.i .i64,.i .i64]),0,[30,31,35,41,46,51,58,60,62,71])] [(0,47732200)] [6,9,11] [(17,[1,6,25,5003,76,77]),(16,[8,73,75]),(15,[1,6,8,25,26,27,73,74]),(14,[9,11,12,66,5006]),(13,[10,53,55,5010]),(12,[1,6,8,9,10,25,26,27,53,54]),(11,[36,39,5013]),(10,[36,37,38]),(9,[34,35]),(8,[32,33]),(7,[28,5003]),(5,[7,21,23,24]),(4,[1,6,7,21,22]),(3,[20]),(2,[17,18,19]),(1,[0,13,5003]),(0,[4,5])] Proofs.Tryz.f36
def yuN:TC:=yci ywn 47732200
def ytG:TFn:=tl [(z4,0,[19,21,24,26])] [(0,17365500)] [] [(9,[0,4,13]),(6,[14,15,28]),(8,[0,4,28]),(7,[13,16,5011]),(5,[10,11,12]),(4,[3,8]),(3,[0,3,8,9]),(2,[7]),(1,[5,6]),(0,[2])] Proofs.Tryz.f151
def yuO:TC:=yci ytG 17365500
def yDq:TFn:=tl [] [] [2,1000002] [(1,[0,3,4])] Proofs.Tryz.f118
def yFQ:TFn:=tl [] [] [2,3,1000002,1000003] [(2,[5,13,14]),(1,[2,3,6,5006]),(0,[0,1,4])] Proofs.Tryz.f125
def ynp:TFn:=tl [((.agg [.d]),0,[19,25,38]),(zD,0,[29,30,42,43]),(z4,0,[50,53,64,66]),(zK,0,[57,59])] [(0,8206000),(2,8206001)] [3,1000003] [(20,[0,38,5003]),(19,[69,70]),(18,[0,38,39,40,69]),(17,[10,11,46,5022]),(16,[44,45]),(15,[41,42,43]),(13,[3,25,5003,37]),(12,[8,34,36]),(11,[0,3,8,25,26,27,34,35]),(10,[33]),(9,[7,31,32]),(8,[28,29,30]),(6,[23,24]),(5,[0,3,23]),(4,[5,16,18,5004]),(3,[0,3,5,16,17]),(2,[15]),(1,[12,13,14]),(0,[1,4])] Proofs.Tryz.f114
def yya:TC:=yci ynp 8206000
def yyb:TC:=yci ynp 8206001
def yqg:TFn:=tl [(z4,0,[7,9])] [] [2,3] [(1,[1,2,5,5007]),(0,[0,4])] Proofs.Tryz.f153
def yzx:TFn:=tl [(z4,0,[16,17])] [(0,87165700)] [4,6,8,9] [(12,[1,6,12,5003,39]),(11,[10,35,38]),(10,[1,6,10,12,13,14,35,36,37]),(9,[34]),(8,[9,25,28,5005]),(7,[1,6,9,10,12,13,14,25,26,27]),(6,[24]),(5,[8,18,5005]),(4,[15,16,17]),(2,[0]),(1,[11]),(0,[5])] Proofs.Tryz.f152
def yuP:TC:=yci yzx 87165700
def yDr:TFn:=tl [(zK,0,[9,40]),(z4,0,[27,30,36,38])] [] [4] [(10,[1,2,45,47,5004]),(9,[1,2,45,46]),(8,[8,23,5021]),(7,[7,18,21,22]),(6,[1,2,7,18,19,20]),(5,[17]),(4,[6,12,15,16]),(3,[1,2,6,12,13,14]),(2,[11]),(1,[9,10]),(0,[0,5])] Proofs.Tryz.f115
def ykd:TFn:=tl [] [(0,14283601),(2,14283600)] [53,3,9,12,1000003,1000022,1000009,1000012] [(17,[3,7,23,5003,58]),(16,[8,9,31,5003,57]),(15,[56]),(14,[12,13,44,46,5009]),(13,[3,7,8,9,12,13,23,24,25,31,32,33,44,45]),(12,[43]),(11,[11,37,5005]),(10,[34,35,36]),(8,[30]),(7,[26,5003]),(5,[0]),(4,[6,18,20,21,22]),(3,[0,3,6,18,19]),(2,[17]),(1,[14,15,16]),(0,[1,4,5])] Proofs.Tryz.f71
def ylI:TC:=yci ykd 14283600
def yuQ:TC:=yci ykd 14283601
def yg5:TFn:=tl [((.agg [.d]),0,[19])] [] [3,1000003,1000022] [(4,[0,3,6,7,15,17,5005]),(3,[0,3,6,7,15,16]),(2,[14]),(1,[8,5005]),(0,[1,4,5])] Proofs.Tryz.f75
def yhW:TFn:=tl [(zK,0,[22,23]),(zD,0,[33,34]),(z2,0,[36,37])] [(0,20643600)] [52,6] [(10,[0,12,13,14]),(9,[56]),(8,[6,7,44,46,5009]),(7,[0,6,7,12,13,44,45]),(6,[43]),(5,[3,4,27,5015]),(4,[5,16,5010]),(3,[14,15]),(1,[8,5003]),(0,[2])] Proofs.Tryz.f76
def yjK:TC:=yci yhW 20643600
def ym0:TFn:=tl [(z4,0,[7,11])] [] [2,1000002] [(1,[1,2,4,5011]),(0,[0,3])] Proofs.Tryz.f156
def ydl:TFn:=tl [(z4,0,[14,15])] [(0,68674300)] [] [(7,[0,1,7,8,9]),(6,[5,16,18]),(5,[0,1,5,7,8,16,17]),(4,[11,5004]),(3,[9,10]),(1,[6]),(0,[4])] Proofs.Tryz.f184
def yjL:TC:=yci ydl 68674300
def ybX:TFn:=tl [] [] [] [(1,[0,1,5,5003]),(0,[4])] Proofs.Tryz.f154
def yzT:TFn:=tl [] [] [1000002] [(1,[1,2,4,5,6]),(0,[0,3])] Proofs.Tryz.f155
def yDs:TFn:=tl [] [] [1000003] [(1,[0,3,5,6,7]),(0,[1,4])] Proofs.Tryz.f121
def yiH:TFn:=tl [((.agg [.d,.d,.d,.d]),0,[13,20]),(zD,0,[15,16,22,23])] [] [] [(1,[0,1,2,6,5019]),(0,[5])] Proofs.Tryz.f120
def yhq:TFn:=tl [] [(0,97930201),(2,97930200)] [] [(11,[0,1,13,14,15]),(10,[7,21,22,23,32]),(9,[8,28,31]),(8,[0,1,7,8,13,14,21,22,28,29,30]),(7,[25,26,27]),(6,[23,24]),(4,[17,5003]),(3,[15,16]),(1,[9,5003]),(0,[4,5,6])] Proofs.Tryz.f119
def yph:TC:=yci yhq 97930200
def yuR:TC:=yci yhq 97930201
def ygI:TFn:=tl [] [] [] [(6,[0,1,16,26]),(5,[1,16,5009]),(4,[15]),(3,[6,8,5006]),(2,[6,7]),(1,[5]),(0,[4])] Proofs.Tryz.f185
def ydZ:TFn:=tl [(zD,0,[13,14,29,30]),(.raw,1,[33])] [(0,14451100),(2,14451101)] [] [(15,[6,25,5003,35]),(14,[34]),(13,[8,31,32,33]),(12,[28,29,30]),(10,[0]),(9,[3,9,5003,23,24]),(8,[20,22]),(7,[20,21]),(6,[19]),(5,[5,15,5003]),(4,[12,13,14]),(0,[2])] Proofs.Tryz.f157
def yuS:TC:=yci ydZ 14451100
def yuT:TC:=yci ydZ 14451101
def ysV:TFn:=tl [(z4,0,[9,11])] [] [2,3] [(2,[5,15]),(1,[2,3,6,5008]),(0,[0,1,4])] Proofs.Tryz.f158
def ym1:TFn:=tl [(z4,0,[19,20,23,27,30]),(zK,0,[37,39])] [(0,93107500)] [4,6] [(12,[0,4,15,5003,32,5009]),(11,[6,28,31]),(10,[6,28,29,30]),(9,[24,5003]),(8,[0,4,6,15,16,17,24]),(7,[21,22,23]),(6,[18,19,20]),(4,[3]),(3,[14]),(2,[12,13]),(1,[7,5004]),(0,[2])] Proofs.Tryz.f122
def yuU:TC:=yci ym1 93107500
def yFR:TFn:=tl [] [] [4] [(5,[0,1,6,7,8,19,5013]),(4,[16,17,18]),(3,[10,12,5003]),(2,[0,1,10,11]),(1,[9]),(0,[5])] Proofs.Tryz.f124
def yiI:TFn:=tl [((.agg [.d,.d,.d,.d]),0,[14,26,38]),(zK,0,[16,17]),(zD,0,[40,41]),(z2,0,[43,44])] [] [8] [(3,[0,1,2,8,31,5016]),(2,[6,9,21,5009]),(1,[7,10,5010]),(0,[5])] Proofs.Tryz.f123
def yiJ:TFn:=tl [((.agg [.d,.d,.d,.d]),0,[9,19]),(zD,0,[11,12,21,22]),(z2,0,[14,15,24,25])] [] [] [(1,[0,1,2,6,5020]),(0,[5])] Proofs.Tryz.f126
def yiK:TFn:=tl [((.agg [.d,.d,.d,.d]),0,[12,19]),(z2,0,[14,15,20,21])] [] [] [(1,[0,1,2,6,5017]),(0,[5])] Proofs.Tryz.f127
def yiL:TFn:=tl [((.agg [.d,.d,.d,.d]),0,[13]),(zD,0,[15,16])] [] [] [(1,[0,1,2,6,5013]),(0,[5])] Proofs.Tryz.f128
def yri:TFn:=tl [] [] [] [(13,[2,45,53,5005]),(12,[2,45,47,5005]),(11,[10,37,46]),(10,[2,10,37,39,5005]),(9,[29,38]),(8,[2,10,29,31,5005]),(7,[11,30]),(6,[7,8,9,25,5003]),(5,[7,8,9,25]),(4,[2,20,5004]),(3,[10,11,13,5006]),(2,[12]),(1,[1]),(0,[0,4,5,6])] Proofs.Tryz.f77
def ywo:TFn:=tl [((.agg [.i .u8,.d]),0,[46,100050])] [(0,65264200)] [3,4,8,1000003,1000004,1000008] [(14,[6,8,32,33,52]),(13,[9,44,51]),(12,[9,44,5006]),(11,[12,43]),(10,[10,11,35,5007]),(9,[33,34]),(6,[7,24,27,5004]),(5,[6,7,24,25,26]),(4,[20,23]),(3,[20,21,22]),(2,[19]),(1,[0,3,13,5005]),(0,[1,5])] Proofs.Tryz.f32
def yuV:TC:=yci ywo 65264200
def yBT:TFn:=tl [] [] [] [(0,[0])] Proofs.Tryz.f13
def ycj:TFn:=tl [(zD,0,[20,21,24,25])] [(0,8009400)] [] [(10,[1,2,15,5003]),(9,[30,31]),(8,[1,2,15,16,17,30]),(7,[8,9,26,5003]),(6,[7,22,5003]),(5,[18,5003]),(3,[0,14]),(2,[0,1,2,14]),(1,[10,5003]),(0,[6])] Proofs.Tryz.f78
def yyc:TC:=yci ycj 8009400
def yfH:TFn:=tl [(z2,0,[18,19,22,23])] [(0,11234800)] [] [(9,[0,1,12,13,14]),(8,[24,25]),(7,[0,1,12,13,24]),(6,[5,16,5007]),(5,[14,15]),(3,[10,11]),(2,[0,1,10]),(1,[6,5003]),(0,[4])] Proofs.Tryz.f79
def yuW:TC:=yci yfH 11234800
def yrj:TFn:=tl [((.agg [.i .u8,.d]),0,[25,33,38,50])] [(0,47320500)] [4,5,1000004,1000005] [(18,[5,8,46,47]),(17,[11,54,63,64]),(16,[5,8,46,63]),(15,[14]),(14,[11,12,13,54,5008]),(13,[49,5004]),(12,[47,48]),(10,[10,40,44]),(9,[5,8,10,44,45]),(8,[43]),(7,[40,41,42]),(6,[36,5003]),(5,[5,8,36]),(4,[9,22,24,5011]),(3,[5,8,9,22,23]),(2,[21]),(1,[0,4,15,5005]),(0,[1,2,6,7])] Proofs.Tryz.f33
def yuX:TC:=yci yrj 47320500
def yos:TFn:=tl [((.agg [.i .i64,.i .i64,.i .i64,.i .i64,.i .i64,.i .i64,.i .i64,.i .i64,.i .i64,.i .i64,.i .i64,.i .i64,.i .i64,.i .i64,.i .i64,.i .i64,.i .i64,.i .i64,.i .i64,.i .i64]),0,[65]),((.agg [.i .u8,.d]),0,[77]),((.agg [.d]),0,[90,99]),(zD,0,[101,102])] [(0,39523000)] [3,4,9] [(16,[3,13,95,105]),(13,[96,97,104]),(15,[3,13,104]),(14,[95,98,5005]),(12,[94]),(11,[93]),(10,[3,93]),(9,[11,12,82,5010]),(8,[0,9,72,5009]),(7,[0,3,9,72]),(6,[4,5004,10,37,5034]),(5,[31,5005]),(4,[25,5005]),(3,[16,18,5006]),(2,[0,16,17]),(1,[14,15]),(0,[2])] Proofs.Tryz.f8
def yuY:TC:=yci yos 39523000
def tab:List (Nat×AFn):=[(ymR,yHx.fn),(yg2,yop.fn),(ymS,yzt.fn),(ymT,yrc.fn),(ysJ,yLb.fn),(ymU,yHy.fn),(yhQ,yqd.fn),(yhR,yqe.fn),(ydA,ywf.fn),(yeO,yrd.fn),(yf5,yzS.fn),(ykG,yLO.fn),(yfp,yBP.fn),(yds,yx6.fn),(ydB,ywg.fn),(ymV,yHz.fn),(ygu,ywh.fn),(ydH,yre.fn),(yeP,yFL.fn),(ygB,yzu.fn),(ye5,yDm.fn),(yfN,ylG.fn),(yeb,yDn.fn),(ylk,yLc.fn),(yfq,yBQ.fn),(yfF,yHA.fn),(ybA,yoq.fn),(yfO,yFM.fn),(ygv,ywi.fn),(yfg,ysT.fn),(yfP,yuw.fn),(yeQ,yrf.fn),(yk6,ywj.fn),(yeR,yHB.fn),(ygC,yHC.fn),(yg3,yFN.fn),(ysK,yLd.fn),(yfQ,yuy.fn),(yoo,yx7.fn),(ysL,yLe.fn),(yeS,yHD.fn),(yfG,yHE.fn),(yeT,yHF.fn),(yhF,ytE.fn),(yzr,yzv.fn),(ymW,yHG.fn),(yeU,ywk.fn),(yeV,yJV.fn),(yiy,ywl.fn),(yjH,yor.fn),(ypc,yIR.fn),(yc8,ysU.fn),(ycl,yqD.fn),(yg4,ywm.fn),(yer,yuE.fn),(ygD,yHH.fn),(ygE,ygH.fn),(ye6,ytF.fn),(ymX,ymZ.fn),(ydY,yqf.fn),(ydI,yrg.fn),(ydp,yqE.fn),(ykc,yDo.fn),(ykr,yzw.fn),(ycZ,yAH.fn),(yEF,yPG.fn),(yJU,yQV.fn),(ygF,ydJ.fn),(yiz,yiG.fn),(ya1,yx8.fn),(yec,yDp.fn),(yej,yx9.fn),(yiA,yrh.fn),(yiB,yFO.fn),(yc2,ypf.fn),(yrb,ylH.fn),(yiC,yFP.fn),(ywd,yMt.fn),(ywe,yMu.fn),(ypd,yBR.fn),(ype,yBS.fn),(ymY,yHI.fn),(yk7,ywn.fn),(ygd,ytG.fn),(yc0,yDq.fn),(ydC,yFQ.fn),(ye7,ynp.fn),(yf6,yqg.fn),(yzs,yzx.fn),(ycL,yDr.fn),(ybE,ykd.fn),(yfr,yg5.fn),(yhV,yhW.fn),(yeW,ym0.fn),(ydk,ydl.fn),(ybH,ybX.fn),(ydg,yzT.fn),(yhG,yDs.fn),(ycw,yiH.fn),(ykT,yhq.fn),(yet,ygI.fn),(yf7,ydZ.fn),(yc9,ysV.fn),(ydQ,ym1.fn),(yiD,yFR.fn),(ycx,yiI.fn),(ycy,yiJ.fn),(ycz,yiK.fn),(ycA,yiL.fn),(ybT,yri.fn),(yk8,ywo.fn),(yiE,yBT.fn),(ych,ycj.fn),(ybx,yfH.fn),(yiF,yrj.fn),(yjI,yos.fn)]
def quiL:List Nat:=[ymR,yg2,ymS,ymT,ysJ,ymU,yhQ,yhR,ydA,yeO,yf5,yfp,yds,ydB,ymV,ygu,yeP,ygB,ye5,yfN,yeb,ylk,yfq,yfF,ybA,yfO,ygv,yfg,yfP,yeQ,yk6,yeR,ygC,yg3,yjF,yjG,ysK,yfQ,yoo,ysL,yeS,yfG,yeT,ymW,yeU,yeV,yiy,ypc,yg4,yer,ygD,ye6,ydY,ykc,ykr,yEF,yJU,yec,yej,yiA,yiB,yc2,yiC,ywd,ywe,ypd,ype,ymY,yk7,ygd,yc0,ydC,ye7,ycL,ybE,ydg,yhG,yc9,ydQ,yiD,ybT,yk8,yiE,ybx,yiF,yjI,(ybE+1000000),(ydg+3000000),(ybT+3000000),(ydQ+3000000),(yc8+5000000),(ycl+5000000),(ydH+5000000),(ydI+5000000),(ydp+5000000),(ykG+6000000)]
def cloL:ygi:=[(yeV,1,8)]
def gloL:List (Nat×PV):=[]
def E (ef:Es):Env:=(yqc yjF yjG tab quiL cloL gloL ef)
def E0C:Env:=yqb yjF yjG tab quiL cloL gloL
abbrev yuZ:Srts:=ykq ya1 yej
abbrev yqF:Srts:=ykq ya1 yc9
def yJW:List Nat:=[ya1,ycZ,ya1]
abbrev EG (e:Es):Prop:=EffG E yJW e
theorem ybB:EG []:=⟨fun _ _ _ _ h=>(by cases h),fun _ _ _ _=>rfl⟩
def ef0:Es:=[(ya1,yx2 yuZ.s yuZ.srt),(ycZ,yIP ycZ 4 32),(ya1,yx2 yqF.s yqF.srt)]
theorem okU {e:Es} (he:EG e) {P:EP} {S:SE} {d n:Nat} {t:TFn} {s:Sg} {w:s.W} (hq:EqW S d t s w) (hS:SEOk P S) (hR:yp9 P S.E (ylD S d) t.body) (hl:LpOk P S.E S.lp [] t.body) (hE:S.E=E e:=by rfl) (hs:yv9 yjF yjG cloL n=false:=by kernel_rfl) (hm:memN yJW n=false:=by kernel_rfl) (hf:S.E.fns n=some t.fn:=by kernel_rfl) (hu:S.E.qui n=true:=by kernel_rfl) (hn:S.E.nl n=false:=by kernel_rfl):∀ az K,s.pw w az K→∃ r,K r∧AnsP P n az r:=okW hq hS hR hl (fun _=>by rw [hE];exact yaN hs _) (by rw [hE];exact he.num _ hm) hf hu hn
theorem ybR:EG ef0:=⟨yK7 (by kernel_rfl),fun n h xs H=>yBO (l:=ef0) h⟩
abbrev ydR:Type:=Ls→(Ls→Prop)→Prop
def yeX (p0:Ls) (K:Ls→Prop):Prop:=yJQ 1 8 p0 K
def yu0 (w:Ls→(Ls→Prop)→Prop) (az:Ls) (K:PV→Prop):Prop:=yBK w az K
def yu1 (az:Ls) (K:PV→Prop):Prop:=yBL 1 8 az K
theorem yu2 (e:Es) (_:EG e):OkF (E e) yu1 yeV:=yK8 (by kernel_rfl) (by kernel_rfl) (by kernel_rfl)
abbrev yEG:Type:=Int→Int→Int→(Int→Int→Prop)→Prop
abbrev yEH:Type:=Int→Int→Int→(Int→Int→Prop)→Prop
theorem yIS (e:Es) (_:EG e):OkF (E e) yuj yjF:=yK9
theorem yIT (e:Es) (_:EG e):OkF (E e) yul yjG:=yLa (by kernel_rfl)
set_option maxRecDepth 100000
abbrev ybe:Type:=Int→(Int→Prop)→Prop
def ynq (p0:Int) (K:Int→Prop):Prop :=
 (cbr (decide (p0<(0:Int)))
 (K (IntKind.u64.wrap ((0:Int)-(IntKind.u64.wrap p0))))
 (K (IntKind.u64.wrap p0)))
def yeY:ybe:=ynq
def pt0:VPt:=vI IntKind.i64
def pt1:LPt:=lC pt0 lN
def yDt:Sg:=⟨pt1,Int→Prop,fun K=>(fun r0=>K (.int .u64 r0))⟩
def yDu (e:Es):SE:=sE (E e) [] lp0
theorem yDv (e:Es):EqW (yDu e) 6 yFL yDt ynq:=fun _ _=>by kernel_rfl
theorem yhH (e:Es) (he:EG e):OkF (E e) (yDt.pw yeY) yeP:=okU he (yDv e) (yaE (Sub.uni _) trivial trivial he.ok) yp9.flat (yar (by kernel_rfl))
abbrev ya4:Type:=Int→Int→(Int→Prop)→Prop
def yf8 (x0:Int→Int→Bool→Prop):Nat→Int→Int→Prop
 | 0,_,_=>False
 | n+1,i0,i1 =>
 (cbr (decide (i1>(0:Int)))
 (asr (!(decide (i1=(0:Int))))
 (yf8 x0 n i1 (Int.tmod i0 i1)))
 (x0 i0 i1 false))
def ypi (p0 p1:Int) (K:Int→Prop):Prop :=
 (∃ n:Nat,yf8
 (fun a _ _=>(K a))
 n p0 p1)
def ydh:ya4:=ypi
def pt2:VPt:=vI IntKind.u64
def pt3:LPt:=lC pt2 lN
def pt4:LPt:=lC pt2 pt3
def yFS:Sg:=⟨pt4,Int→Prop,fun K=>(fun r0=>K (.int .u64 r0))⟩
def yzU (Q:Qx):Int→Int→Bool→Prop:=(fun i0 i1 b2=>Q (.exit 0) [(0,.v (.int .u64 i0)),(1,.v (.int .u64 i1)),(6,.v (.bool b2))] [])
def yrk (Q:Qx):List St:=[⟨(pS hN (fV 0 pt2 (fV 1 pt2 fN)) fN),yf8 (yzU Q)⟩]
def ywp:LP:=lpS [(32725300,yrk)]
def ypj (e:Es):SE:=sE (E e) [] (ywp)
theorem ytH (e:Es) (he:EG e):SEOk (Uni (E e)) (ypj e):=yaE (Sub.uni _) trivial trivial he.ok
theorem yyd (e:Es):ycr (ypj e) 5 a yuu false (yrk):=fun _=>⟨fun _=>by kernel_rfl,fun _ _=>by kernel_rfl,trivial⟩
theorem yye (e:Es) (he:EG e):LpT (Uni (E e)) (ywp) [] 32725300 (.loop 32725300 yuu):=fun _ _ _=>yp8.st (Sub.uni _) (yaW (ytH e he) 5) (YOk.no _ _) (yar (by kernel_rfl)) (yyd e _)
theorem yFT (e:Es):EqW (ypj e) 6 yzu yFS ypi:=fun _ _=>by kernel_rfl
theorem yk9 (e:Es) (he:EG e):OkF (E e) (yFS.pw ydh) ygB:=okU he (yFT e) (ytH e he) yp9.flat (ybg (l:=[(32725300,.loop 32725300 yuu)]) ⟨yye e he,trivial⟩ (by kernel_rfl))
def ylJ (a0:ybe) (a1:ya4) (p0 p1:Int) (K:Int→Prop):Prop :=
 (cbr (decide (p1<(1:Int)))
 (K (8:Int))
 (a0 p0 (fun a =>
 (cbr (decide ((if (IntKind.u64.wrap p1)>a then (IntKind.u64.wrap p1) else a)>(1000000000000000000:Int)))
 (K (8:Int))
 (a0 p0 (fun b =>
 (a1 b (IntKind.u64.wrap p1) (fun c =>
 (cbr (decide (c>(1:Int)))
 (K (8:Int))
 (K (0:Int)))))))))))
def ycc:ya4:=ylJ yeY ydh
def pt5:LPt:=lC pt0 pt1
def pt6:VPt:=vA pt5
def yBU:Sg:=⟨(lC pt6 lN),Int→Prop,fun K=>(fun r0=>K (.int .i64 r0))⟩
def yBV (e:Es) (a0:ybe) (a1:ya4):SE:=sE (E e) [(yeP,yDt.pw a0),(ygB,yFS.pw a1)] lp0
theorem yBW (e:Es) (a0 a1):EqW (yBV e a0 a1) 6 yDm yBU (ylJ a0 a1):=fun _ _=>by kernel_rfl
theorem ygJ (e:Es) (he:EG e):OkF (E e) (yBU.pw ycc) ye5:=okU he (yBW e _ _) (yaE (Sub.uni _) ⟨(yhH e he),(yk9 e he),trivial⟩ trivial he.ok) yp9.flat (yar (by kernel_rfl))
abbrev yas:Type:=Ls→(Int→Prop)→Prop
def ycB (x0:Int→Prop) (x1:Int→Ls→Int→Int→Bool→Prop):Nat→Int→Ls→Int→Int→Prop
 | 0,_,_,_,_=>False
 | n+1,i0,l1,i2,i3 =>
 (cbr (decide (i3<i2))
 (asr (decide ((0:Int)≤i3))
 (asr (decide (i3<(((List.length l1):Nat):Int)))
 (asr (conf zI (List.getD l1 (i3.toNat) .nils))
 (cbr ((yaa (List.getD l1 (i3.toNat) .nils)) != i0)
 (x0 (yaa (List.getD l1 (i3.toNat) .nils)))
 (ycB x0 x1 n i0 l1 i2 (IntKind.i64.wrap (i3+(1:Int))))))))
 (x1 i0 l1 i2 i3 false))
def yhr (p0:Ls) (K:Int→Prop):Prop :=
 (∃ n:Nat,ycB
 (fun a=>(K a))
 (fun b _ _ _ _=>(K b))
 n (0:Int) p0 (((List.length p0):Nat):Int) (0:Int))
def yfR:yas:=yhr
def pt7:LPt:=lC vD lN
def yda:Sg:=⟨pt7,Int→Prop,fun K=>(fun r0=>K (.int .i64 r0))⟩
def ypk (Q:Qx):Int→Prop:=(fun i0=>Q .ret [(2,.v (.int .i64 i0))] [])
def ypl (Q:Qx):Int→Ls→Int→Int→Bool→Prop:=(fun i0 l1 i2 i3 b4=>Q (.exit 0) [(3,.v (.int .i64 i0)),(6,.v (.data l1)),(7,.v (.int .i64 i2)),(8,.v (.int .i64 i3)),(9,.v (.bool b4))] [])
def pt8:Pat Frm:=fV 7 pt0 (fV 8 pt0 fN)
def pt9:Pat Sta:=pS hN (fV 3 pt0 (fV 6 vD pt8)) fN
def yjl (Q:Qx):List St:=[⟨pt9,ycB (ypk Q) (ypl Q)⟩]
def ykU:LP:=lpS [(38508400,yjl)]
def yhs (e:Es):SE:=sE (E e) [] (ykU)
theorem yks (e:Es) (he:EG e):SEOk (Uni (E e)) (yhs e):=yaE (Sub.uni _) trivial trivial he.ok
theorem yot (e:Es):ycr (yhs e) 5 a yuv false (yjl):=fun _=>⟨fun _=>by kernel_rfl,fun _ _=>by kernel_rfl,trivial⟩
theorem you (e:Es) (he:EG e):LpT (Uni (E e)) (ykU) [] 38508400 (.loop 38508400 yuv):=fun _ _ _=>yp8.st (Sub.uni _) (yaW (yks e he) 5) (YOk.no _ _) (yar (by kernel_rfl)) (yot e _)
theorem ysW (e:Es):EqW (yhs e) 6 ylG yda yhr:=fun _ _=>by kernel_rfl
theorem ysX (e:Es) (he:EG e):OkF (E e) (yda.pw yfR) yfN:=okU he (ysW e) (yks e he) yp9.flat (ybg (l:=[(38508400,.loop 38508400 yuv)]) ⟨you e he,trivial⟩ (by kernel_rfl))
abbrev yaO:Type:=Int→Int→Int→Int→(Int→Prop)→Prop
def ylK (a0:ya4) (a1:yas) (p0 p1 p2 p3:Int) (K:Int→Prop):Prop :=
 (a0 p0 p1 (fun a =>
 (a0 p2 p3 (fun b =>
 (a1 ([(.int .i64 a),(.int .i64 b)]:Ls) (fun c =>
 (K c)))))))
def yed:yaO:=ylK ycc yfR
def pt10:LPt:=lC pt6 (lC pt6 lN)
def yrl:Sg:=⟨pt10,Int→Prop,fun K=>(fun r0=>K (.int .i64 r0))⟩
def yBX (e:Es) (a0:ya4) (a1:yas):SE:=sE (E e) [(ye5,yBU.pw a0),(yfN,yda.pw a1)] lp0
theorem yBY (e:Es) (a0 a1):EqW (yBX e a0 a1) 6 yDn yrl (ylK a0 a1):=fun _ _=>by kernel_rfl
theorem ygK (e:Es) (he:EG e):OkF (E e) (yrl.pw yed) yeb:=okU he (yBY e _ _) (yaE (Sub.uni _) ⟨(ygJ e he),(ysX e he),trivial⟩ trivial he.ok) yp9.flat (yar (by kernel_rfl))
abbrev yjM:Type:=Int→Int→(Int→Int→Prop)→Prop
def yu3 (p0 p1:Int) (K:Int→Int→Prop):Prop :=
 (K (IntKind.u64.wrap ((IntKind.u64.wrap ((IntKind.u64.wrap ((Int.fdiv p0 4294967296)*(Int.fdiv p1 4294967296)))+(Int.fdiv (IntKind.u64.wrap ((IntKind.u64.wrap ((Int.fdiv p0 4294967296)*(IntKind.u64.wrap (BitVec.ofInt IntKind.u64.bits p1&&&BitVec.ofInt IntKind.u64.bits (4294967295:Int)).toNat)))+(Int.fdiv (IntKind.u64.wrap ((IntKind.u64.wrap (BitVec.ofInt IntKind.u64.bits p0&&&BitVec.ofInt IntKind.u64.bits (4294967295:Int)).toNat)*(IntKind.u64.wrap (BitVec.ofInt IntKind.u64.bits p1&&&BitVec.ofInt IntKind.u64.bits (4294967295:Int)).toNat))) 4294967296))) 4294967296)))+(Int.fdiv (IntKind.u64.wrap ((IntKind.u64.wrap (BitVec.ofInt IntKind.u64.bits (IntKind.u64.wrap ((IntKind.u64.wrap ((Int.fdiv p0 4294967296)*(IntKind.u64.wrap (BitVec.ofInt IntKind.u64.bits p1&&&BitVec.ofInt IntKind.u64.bits (4294967295:Int)).toNat)))+(Int.fdiv (IntKind.u64.wrap ((IntKind.u64.wrap (BitVec.ofInt IntKind.u64.bits p0&&&BitVec.ofInt IntKind.u64.bits (4294967295:Int)).toNat)*(IntKind.u64.wrap (BitVec.ofInt IntKind.u64.bits p1&&&BitVec.ofInt IntKind.u64.bits (4294967295:Int)).toNat))) 4294967296)))&&&BitVec.ofInt IntKind.u64.bits (4294967295:Int)).toNat)+(IntKind.u64.wrap ((IntKind.u64.wrap (BitVec.ofInt IntKind.u64.bits p0&&&BitVec.ofInt IntKind.u64.bits (4294967295:Int)).toNat)*(Int.fdiv p1 4294967296))))) 4294967296))) (IntKind.u64.wrap (p0*p1)))
def yg6:yjM:=yu3
def yIU:Sg:=⟨pt4,Int→Int→Prop,fun K=>(fun r0 r1=>K (.tup [(.int .u64 r0),(.int .u64 r1)]))⟩
def yIV (e:Es):SE:=sE (E e) [] lp0
theorem yIW (e:Es):EqW (yIV e) 6 yLc yIU yu3:=fun _ _=>by kernel_rfl
theorem yu4 (e:Es) (he:EG e):OkF (E e) (yIU.pw yg6) ylk:=okU he (yIW e) (yaE (Sub.uni _) trivial trivial he.ok) yp9.flat (yar (by kernel_rfl))
abbrev yeu:Type:=Bool→Int→Int→(Int→Int→Int→Prop)→Prop
def ykH (p0:Bool) (p1 p2:Int) (K:Int→Int→Int→Prop):Prop :=
 (cbr (decide ((if p2>p1 then p2 else p1)>(1000000000000000000:Int)))
 (K (0:Int) (0:Int) (16:Int))
 (cbr p0
 (K (IntKind.i64.wrap ((0:Int)-(IntKind.i64.wrap p1))) (IntKind.i64.wrap p2) (0:Int))
 (K (IntKind.i64.wrap p1) (IntKind.i64.wrap p2) (0:Int))))
def yc3:yeu:=ykH
def yzV:Sg:=⟨(lC vB pt4),Int→Int→Int→Prop,fun K=>(fun r0 r1 r2=>K (.tup [(.agg [(.int .i64 r0),(.int .i64 r1)]),(.int .i64 r2)]))⟩
def yzW (e:Es):SE:=sE (E e) [] lp0
theorem yzX (e:Es):EqW (yzW e) 6 yBQ yzV ykH:=fun _ _=>by kernel_rfl
theorem ykI (e:Es) (he:EG e):OkF (E e) (yzV.pw yc3) yfq:=okU he (yzX e) (yaE (Sub.uni _) trivial trivial he.ok) yp9.flat (yar (by kernel_rfl))
abbrev yal:Type:=Int→Int→Int→Int→(Int→Int→Int→Prop)→Prop
def ypm (a0:yaO) (a1:ybe) (a2:ya4) (a3:yjM) (a4:yeu) (p0 p1 p2 p3:Int) (K:Int→Int→Int→Prop):Prop :=
 (a0 p0 p1 p2 p3 (fun d =>
 (cbr (d !=(0:Int))
 (K (0:Int) (0:Int) d)
 (a1 p0 (fun e =>
 (a1 p2 (fun f =>
 (a2 e (IntKind.u64.wrap p3) (fun a =>
 (a2 f (IntKind.u64.wrap p1) (fun b =>
 (asr (!(decide (a=(0:Int))))
 (asr (!(decide (b=(0:Int))))
 (a3 (IntKind.u64.wrap (Int.tdiv e a)) (IntKind.u64.wrap (Int.tdiv f b)) (fun h c =>
 (asr (!(decide (b=(0:Int))))
 (asr (!(decide (a=(0:Int))))
 (a3 (IntKind.u64.wrap (Int.tdiv (IntKind.u64.wrap p1) b)) (IntKind.u64.wrap (Int.tdiv (IntKind.u64.wrap p3) a)) (fun i g =>
 (cbr (decide ((IntKind.u64.wrap (h+i))>(0:Int)))
 (K (0:Int) (0:Int) (16:Int))
 (cbr (decide (c>(0:Int)))
 (a4 ((decide (p0<(0:Int))) !=(decide (p2<(0:Int)))) c g (fun j k l =>
 (K j k l)))
 (a4 false c g (fun m n o =>
 (K m n o))))))))))))))))))))))))
def ybJ:yal:=ypm yed yeY ydh yg6 yc3
def yla:Sg:=⟨pt10,Int→Int→Int→Prop,fun K=>(fun r0 r1 r2=>K (.tup [(.agg [(.int .i64 r0),(.int .i64 r1)]),(.int .i64 r2)]))⟩
def yFU (e:Es) (a0:yaO) (a1:ybe) (a2:ya4) (a3:yjM) (a4:yeu):SE:=sE (E e) [(yeb,yrl.pw a0),(yeP,yDt.pw a1),(ygB,yFS.pw a2),(ylk,yIU.pw a3),(yfq,yzV.pw a4)] lp0
theorem yFV (e:Es) (a0 a1 a2 a3 a4):EqW (yFU e a0 a1 a2 a3 a4) 6 yHA yla (ypm a0 a1 a2 a3 a4):=fun _ _=>by kernel_rfl
theorem yg7 (e:Es) (he:EG e):OkF (E e) (yla.pw ybJ) yfF:=okU he (yFV e _ _ _ _ _) (yaE (Sub.uni _) ⟨(ygK e he),(yhH e he),(yk9 e he),(yu4 e he),(ykI e he),trivial⟩ trivial he.ok) yp9.flat (yar (by kernel_rfl))
abbrev ydS:Type:=Int→(Bool→Prop)→Prop
def yhX (p0:Int) (K:Bool→Prop):Prop :=
 (K (p0 != p0))
def yiM:ydS:=yhX
def yu5:Sg:=⟨pt1,Bool→Prop,fun K=>(fun r0=>K (.bool r0))⟩
def yu6 (e:Es):SE:=sE (E e) [] lp0
theorem yu7 (e:Es):EqW (yu6 e) 6 ywi yu5 yhX:=fun _ _=>by kernel_rfl
theorem yu8 (e:Es) (he:EG e):OkF (E e) (yu5.pw yiM) ygv:=okU he (yu7 e) (yaE (Sub.uni _) trivial trivial he.ok) yp9.flat (yar (by kernel_rfl))
def ygL (a0:ydS) (p0 p1:Int) (K:Int→Prop):Prop :=
 (a0 p0 (fun b =>
 (a0 p1 (fun a =>
 (cbr b
 (cbr a
 (K (0:Int))
 (K (-1:Int)))
 (cbr a
 (K (1:Int))
 (cbr (decide (p0<p1))
 (K (-1:Int))
 (cbr (decide (p0>p1))
 (K (1:Int))
 (K (0:Int))))))))))
def yfh:ya4:=ygL yiM
def ykt:Sg:=⟨pt5,Int→Prop,fun K=>(fun r0=>K (.int .i64 r0))⟩
def yrm (e:Es) (a0:ydS):SE:=sE (E e) [(ygv,yu5.pw a0)] lp0
theorem yrn (e:Es) (a0):EqW (yrm e a0) 6 ysT ykt (ygL a0):=fun _ _=>by kernel_rfl
theorem yro (e:Es) (he:EG e):OkF (E e) (ykt.pw yfh) yfg:=okU he (yrn e _) (yaE (Sub.uni _) ⟨(yu8 e he),trivial⟩ trivial he.ok) yp9.flat (yar (by kernel_rfl))
def yht (p0:Int) (K:Bool→Prop):Prop :=
 (K (p0 != p0))
def yhY:ydS:=yht
def ysY:Sg:=⟨pt3,Bool→Prop,fun K=>(fun r0=>K (.bool r0))⟩
def ysZ (e:Es):SE:=sE (E e) [] lp0
theorem ys0 (e:Es):EqW (ysZ e) 6 yuw ysY yht:=fun _ _=>by kernel_rfl
theorem ys1 (e:Es) (he:EG e):OkF (E e) (ysY.pw yhY) yfP:=okU he (ys0 e) (yaE (Sub.uni _) trivial trivial he.ok) yp9.flat (yar (by kernel_rfl))
def ygj (a0:ydS) (p0 p1:Int) (K:Int→Prop):Prop :=
 (a0 p0 (fun b =>
 (a0 p1 (fun a =>
 (cbr b
 (cbr a
 (K (0:Int))
 (K (-1:Int)))
 (cbr a
 (K (1:Int))
 (cbr (decide (p0<p1))
 (K (-1:Int))
 (cbr (decide (p0>p1))
 (K (1:Int))
 (K (0:Int))))))))))
def yeZ:ya4:=ygj yhY
def yqG:Sg:=⟨pt4,Int→Prop,fun K=>(fun r0=>K (.int .i64 r0))⟩
def yqH (e:Es) (a0:ydS):SE:=sE (E e) [(yfP,ysY.pw a0)] lp0
theorem yqI (e:Es) (a0):EqW (yqH e a0) 6 yrf yqG (ygj a0):=fun _ _=>by kernel_rfl
theorem yqJ (e:Es) (he:EG e):OkF (E e) (yqG.pw yeZ) yeQ:=okU he (yqI e _) (yaE (Sub.uni _) ⟨(ys1 e he),trivial⟩ trivial he.ok) yp9.flat (yar (by kernel_rfl))
def yek (x0:Int→Prop) (x1:Int→Ls→Int→Int→Bool→Prop):Nat→Int→Ls→Int→Int→Prop
 | 0,_,_,_,_=>False
 | n+1,i0,l1,i2,i3 =>
 (cbr (decide (i3<i2))
 (asr (decide ((0:Int)≤i3))
 (asr (decide (i3<(((List.length l1):Nat):Int)))
 (asr (conf zI (List.getD l1 (i3.toNat) .nils))
 (cbr ((yaa (List.getD l1 (i3.toNat) .nils)) != i0)
 (x0 (yaa (List.getD l1 (i3.toNat) .nils)))
 (yek x0 x1 n i0 l1 i2 (IntKind.i64.wrap (i3+(1:Int))))))))
 (x1 i0 l1 i2 i3 false))
def ynr (p0:Ls) (K:Int→Prop):Prop :=
 (∃ n:Nat,yek
 (fun a=>(K a))
 (fun b _ _ _ _=>(K b))
 n (0:Int) p0 (((List.length p0):Nat):Int) (0:Int))
def ylb:yas:=ynr
def yyf (Q:Qx):Int→Prop:=(fun i0=>Q .ret [(2,.v (.int .i64 i0))] [])
def yyg (Q:Qx):Int→Ls→Int→Int→Bool→Prop:=(fun i0 l1 i2 i3 b4=>Q (.exit 0) [(3,.v (.int .i64 i0)),(6,.v (.data l1)),(7,.v (.int .i64 i2)),(8,.v (.int .i64 i3)),(9,.v (.bool b4))] [])
def yqh (Q:Qx):List St:=[⟨pt9,yek (yyf Q) (yyg Q)⟩]
def ytI:LP:=lpS [(53260600,yqh)]
def yns (e:Es):SE:=sE (E e) [] (ytI)
theorem yrp (e:Es) (he:EG e):SEOk (Uni (E e)) (yns e):=yaE (Sub.uni _) trivial trivial he.ok
theorem ywq (e:Es):ycr (yns e) 5 a yux false (yqh):=fun _=>⟨fun _=>by kernel_rfl,fun _ _=>by kernel_rfl,trivial⟩
theorem ywr (e:Es) (he:EG e):LpT (Uni (E e)) (ytI) [] 53260600 (.loop 53260600 yux):=fun _ _ _=>yp8.st (Sub.uni _) (yaW (yrp e he) 5) (YOk.no _ _) (yar (by kernel_rfl)) (ywq e _)
theorem yDw (e:Es):EqW (yns e) 6 ywj yda ynr:=fun _ _=>by kernel_rfl
theorem yDx (e:Es) (he:EG e):OkF (E e) (yda.pw ylb) yk6:=okU he (yDw e) (yrp e he) yp9.flat (ybg (l:=[(53260600,.loop 53260600 yux)]) ⟨ywr e he,trivial⟩ (by kernel_rfl))
abbrev yck:Type:=Int→Int→Int→Int→(Int→Int→Prop)→Prop
def ypn (a0:yaO) (a1:ya4) (a2:ybe) (a3:yjM) (a4:ya4) (a5:yas) (p0 p1 p2 p3:Int) (K:Int→Int→Prop):Prop :=
 (a0 p0 p1 p2 p3 (fun a =>
 (cbr (a !=(0:Int))
 (K (0:Int) a)
 (cbr ((decide (p0<(0:Int))) !=(decide (p2<(0:Int))))
 (a1 p0 p2 (fun c =>
 (K c (0:Int))))
 (a2 p0 (fun d =>
 (a3 d (IntKind.u64.wrap p3) (fun e f =>
 (a2 p2 (fun g =>
 (a3 g (IntKind.u64.wrap p1) (fun h i =>
 (a4 e h (fun j =>
 (a4 f i (fun k =>
 (a5 ([(.int .i64 j),(.int .i64 k)]:Ls) (fun b =>
 (cbr (decide (p0<(0:Int)))
 (K (IntKind.i64.wrap ((0:Int)-b)) (0:Int))
 (K b (0:Int)))))))))))))))))))))
def ycs:yck:=ypn yed yfh yeY yg6 yeZ ylb
def yFW:Sg:=⟨pt10,Int→Int→Prop,fun K=>(fun r0 r1=>K (.tup [(.int .i64 r0),(.int .i64 r1)]))⟩
def yFX (e:Es) (a0:yaO) (a1:ya4) (a2:ybe) (a3:yjM) (a4:ya4) (a5:yas):SE:=sE (E e) [(yeb,yrl.pw a0),(yfg,ykt.pw a1),(yeP,yDt.pw a2),(ylk,yIU.pw a3),(yeQ,yqG.pw a4),(yk6,yda.pw a5)] lp0
theorem yFY (e:Es) (a0 a1 a2 a3 a4 a5):EqW (yFX e a0 a1 a2 a3 a4 a5) 6 yHB yFW (ypn a0 a1 a2 a3 a4 a5):=fun _ _=>by kernel_rfl
theorem yfS (e:Es) (he:EG e):OkF (E e) (yFW.pw ycs) yeR:=okU he (yFY e _ _ _ _ _ _) (yaE (Sub.uni _) ⟨(ygK e he),(yro e he),(yhH e he),(yu4 e he),(yqJ e he),(yDx e he),trivial⟩ trivial he.ok) yp9.flat (yar (by kernel_rfl))
def yu9 (p0:Int) (K:Int→Prop):Prop :=
 (cbr (decide (p0≥(4294967296:Int)))
 (cbr (decide ((Int.fdiv p0 4294967296)≥(65536:Int)))
 (cbr (decide ((Int.fdiv (Int.fdiv p0 4294967296) 65536)≥(256:Int)))
 (asr (decide ((0:Int)≤(IntKind.u8.wrap (Int.fdiv (Int.fdiv (Int.fdiv p0 4294967296) 65536) 256))))
 (asr (decide ((IntKind.u8.wrap (Int.fdiv (Int.fdiv (Int.fdiv p0 4294967296) 65536) 256))<(256:Int)))
 (K (IntKind.i64.wrap ((56:Int)+(IntKind.i64.wrap (yaa (List.getD yiw ((IntKind.u8.wrap (Int.fdiv (Int.fdiv (Int.fdiv p0 4294967296) 65536) 256)).toNat) .nils))))))))
 (asr (decide ((0:Int)≤(IntKind.u8.wrap (Int.fdiv (Int.fdiv p0 4294967296) 65536))))
 (asr (decide ((IntKind.u8.wrap (Int.fdiv (Int.fdiv p0 4294967296) 65536))<(256:Int)))
 (K (IntKind.i64.wrap ((48:Int)+(IntKind.i64.wrap (yaa (List.getD yiw ((IntKind.u8.wrap (Int.fdiv (Int.fdiv p0 4294967296) 65536)).toNat) .nils)))))))))
 (cbr (decide ((Int.fdiv p0 4294967296)≥(256:Int)))
 (asr (decide ((0:Int)≤(IntKind.u8.wrap (Int.fdiv (Int.fdiv p0 4294967296) 256))))
 (asr (decide ((IntKind.u8.wrap (Int.fdiv (Int.fdiv p0 4294967296) 256))<(256:Int)))
 (K (IntKind.i64.wrap ((40:Int)+(IntKind.i64.wrap (yaa (List.getD yiw ((IntKind.u8.wrap (Int.fdiv (Int.fdiv p0 4294967296) 256)).toNat) .nils))))))))
 (asr (decide ((0:Int)≤(IntKind.u8.wrap (Int.fdiv p0 4294967296))))
 (asr (decide ((IntKind.u8.wrap (Int.fdiv p0 4294967296))<(256:Int)))
 (K (IntKind.i64.wrap ((32:Int)+(IntKind.i64.wrap (yaa (List.getD yiw ((IntKind.u8.wrap (Int.fdiv p0 4294967296)).toNat) .nils))))))))))
 (cbr (decide (p0≥(65536:Int)))
 (cbr (decide ((Int.fdiv p0 65536)≥(256:Int)))
 (asr (decide ((0:Int)≤(IntKind.u8.wrap (Int.fdiv (Int.fdiv p0 65536) 256))))
 (asr (decide ((IntKind.u8.wrap (Int.fdiv (Int.fdiv p0 65536) 256))<(256:Int)))
 (K (IntKind.i64.wrap ((24:Int)+(IntKind.i64.wrap (yaa (List.getD yiw ((IntKind.u8.wrap (Int.fdiv (Int.fdiv p0 65536) 256)).toNat) .nils))))))))
 (asr (decide ((0:Int)≤(IntKind.u8.wrap (Int.fdiv p0 65536))))
 (asr (decide ((IntKind.u8.wrap (Int.fdiv p0 65536))<(256:Int)))
 (K (IntKind.i64.wrap ((16:Int)+(IntKind.i64.wrap (yaa (List.getD yiw ((IntKind.u8.wrap (Int.fdiv p0 65536)).toNat) .nils)))))))))
 (cbr (decide (p0≥(256:Int)))
 (asr (decide ((0:Int)≤(IntKind.u8.wrap (Int.fdiv p0 256))))
 (asr (decide ((IntKind.u8.wrap (Int.fdiv p0 256))<(256:Int)))
 (K (IntKind.i64.wrap ((8:Int)+(IntKind.i64.wrap (yaa (List.getD yiw ((IntKind.u8.wrap (Int.fdiv p0 256)).toNat) .nils))))))))
 (asr (decide ((0:Int)≤(IntKind.u8.wrap p0)))
 (asr (decide ((IntKind.u8.wrap p0)<(256:Int)))
 (K (IntKind.i64.wrap ((0:Int)+(IntKind.i64.wrap (yaa (List.getD yiw ((IntKind.u8.wrap p0).toNat) .nils)))))))))))
def ysM:ybe:=yu9
def yBZ:Sg:=⟨pt3,Int→Prop,fun K=>(fun r0=>K (.int .i64 r0))⟩
def yIX (e:Es):SE:=sE (E e) [] lp0
theorem yIY (e:Es):EqW (yIX e) 6 yLd yBZ yu9:=fun _ _=>by kernel_rfl
theorem yIZ (e:Es) (he:EG e):OkF (E e) (yBZ.pw ysM) ysK:=okU he (yIY e) (yaE (Sub.uni _) trivial trivial he.ok) yp9.flat (yar (by kernel_rfl))
def yhu (a0:ybe) (p0:Int) (K:Int→Prop):Prop :=
 (a0 p0 (fun a =>
 (K (IntKind.i64.wrap ((64:Int)-a)))))
def yct:ybe:=yhu ysM
def ys2 (e:Es) (a0:ybe):SE:=sE (E e) [(ysK,yBZ.pw a0)] lp0
theorem ys3 (e:Es) (a0):EqW (ys2 e a0) 6 yuy yBZ (yhu a0):=fun _ _=>by kernel_rfl
theorem ys4 (e:Es) (he:EG e):OkF (E e) (yBZ.pw yct) yfQ:=okU he (ys3 e _) (yaE (Sub.uni _) ⟨(yIZ e he),trivial⟩ trivial he.ok) yp9.flat (yar (by kernel_rfl))
abbrev ybi:Type:=Int→Int→Int→(Int→Int→Prop)→Prop
mutual
def yke (a0:ybe) (a:Int→Int→Int→Int→Int→Int→Int→Int→Int→Bool→Prop) (b:Int→Int→Int→Int→Int→Int→Int→Int→Int→Bool→Prop):Nat→Int→Int→Int→Int→Int→Int→Int→Int→Int→Prop
 | 0,_,_,_,_,_,_,_,_,_=>False
 | c+1,i0,i1,i2,i3,i4,i5,i6,i7,i8 =>
 (cbr (decide (i7≥(4294967296:Int)))
 (cbr (decide ((IntKind.u64.wrap (i8+i2))≥(4294967296:Int)))
 (a i0 i1 i2 i3 i4 i5 i6 (IntKind.u64.wrap (i7-(1:Int))) (IntKind.u64.wrap (i8+i2)) true)
 (yee a0 a b c i0 i1 i2 i3 i4 i5 i6 (IntKind.u64.wrap (i7-(1:Int))) (IntKind.u64.wrap (i8+i2)) false))
 (cbr (decide ((IntKind.u64.wrap (i7*i3))>(IntKind.u64.wrap ((IntKind.u64.wrap ((4294967296:Int)*i8))+i5))))
 (cbr (decide ((IntKind.u64.wrap (i8+i2))≥(4294967296:Int)))
 (a i0 i1 i2 i3 i4 i5 i6 (IntKind.u64.wrap (i7-(1:Int))) (IntKind.u64.wrap (i8+i2)) true)
 (yee a0 a b c i0 i1 i2 i3 i4 i5 i6 (IntKind.u64.wrap (i7-(1:Int))) (IntKind.u64.wrap (i8+i2)) false))
 (b i0 i1 i2 i3 i4 i5 i6 i7 i8 false)))
def yee (a0:ybe) (a:Int→Int→Int→Int→Int→Int→Int→Int→Int→Bool→Prop) (b:Int→Int→Int→Int→Int→Int→Int→Int→Int→Bool→Prop):Nat→Int→Int→Int→Int→Int→Int→Int→Int→Int→Bool→Prop
 | 0,_,_,_,_,_,_,_,_,_,_=>False
 | c+1,i0,i1,i2,i3,i4,i5,i6,i7,i8,_ =>
 (cbr (decide (i7≥(4294967296:Int)))
 (cbr (decide ((IntKind.u64.wrap (i8+i2))≥(4294967296:Int)))
 (a i0 i1 i2 i3 i4 i5 i6 (IntKind.u64.wrap (i7-(1:Int))) (IntKind.u64.wrap (i8+i2)) true)
 (yee a0 a b c i0 i1 i2 i3 i4 i5 i6 (IntKind.u64.wrap (i7-(1:Int))) (IntKind.u64.wrap (i8+i2)) false))
 (cbr (decide ((IntKind.u64.wrap (i7*i3))>(IntKind.u64.wrap ((IntKind.u64.wrap ((4294967296:Int)*i8))+i5))))
 (cbr (decide ((IntKind.u64.wrap (i8+i2))≥(4294967296:Int)))
 (a i0 i1 i2 i3 i4 i5 i6 (IntKind.u64.wrap (i7-(1:Int))) (IntKind.u64.wrap (i8+i2)) true)
 (yee a0 a b c i0 i1 i2 i3 i4 i5 i6 (IntKind.u64.wrap (i7-(1:Int))) (IntKind.u64.wrap (i8+i2)) false))
 (b i0 i1 i2 i3 i4 i5 i6 i7 i8 false)))
end
mutual
def yge (a0:ybe) (a:Int→Int→Int→Int→Int→Int→Int→Int→Int→Bool→Prop) (b:Int→Int→Int→Int→Int→Int→Int→Int→Int→Bool→Prop):Nat→Int→Int→Int→Int→Int→Int→Int→Int→Int→Prop
 | 0,_,_,_,_,_,_,_,_,_=>False
 | c+1,i0,i1,i2,i3,i4,i5,i6,i7,i8 =>
 (cbr (decide (i8≥(4294967296:Int)))
 (cbr (decide ((IntKind.u64.wrap (i6+i2))≥(4294967296:Int)))
 (a i0 i1 i2 i3 i4 i5 (IntKind.u64.wrap (i6+i2)) i7 (IntKind.u64.wrap (i8-(1:Int))) true)
 (yef a0 a b c i0 i1 i2 i3 i4 i5 (IntKind.u64.wrap (i6+i2)) i7 (IntKind.u64.wrap (i8-(1:Int))) false))
 (cbr (decide ((IntKind.u64.wrap (i8*i3))>(IntKind.u64.wrap ((IntKind.u64.wrap ((4294967296:Int)*i6))+i4))))
 (cbr (decide ((IntKind.u64.wrap (i6+i2))≥(4294967296:Int)))
 (a i0 i1 i2 i3 i4 i5 (IntKind.u64.wrap (i6+i2)) i7 (IntKind.u64.wrap (i8-(1:Int))) true)
 (yef a0 a b c i0 i1 i2 i3 i4 i5 (IntKind.u64.wrap (i6+i2)) i7 (IntKind.u64.wrap (i8-(1:Int))) false))
 (b i0 i1 i2 i3 i4 i5 i6 i7 i8 false)))
def yef (a0:ybe) (a:Int→Int→Int→Int→Int→Int→Int→Int→Int→Bool→Prop) (b:Int→Int→Int→Int→Int→Int→Int→Int→Int→Bool→Prop):Nat→Int→Int→Int→Int→Int→Int→Int→Int→Int→Bool→Prop
 | 0,_,_,_,_,_,_,_,_,_,_=>False
 | c+1,i0,i1,i2,i3,i4,i5,i6,i7,i8,_ =>
 (cbr (decide (i8≥(4294967296:Int)))
 (cbr (decide ((IntKind.u64.wrap (i6+i2))≥(4294967296:Int)))
 (a i0 i1 i2 i3 i4 i5 (IntKind.u64.wrap (i6+i2)) i7 (IntKind.u64.wrap (i8-(1:Int))) true)
 (yef a0 a b c i0 i1 i2 i3 i4 i5 (IntKind.u64.wrap (i6+i2)) i7 (IntKind.u64.wrap (i8-(1:Int))) false))
 (cbr (decide ((IntKind.u64.wrap (i8*i3))>(IntKind.u64.wrap ((IntKind.u64.wrap ((4294967296:Int)*i6))+i4))))
 (cbr (decide ((IntKind.u64.wrap (i6+i2))≥(4294967296:Int)))
 (a i0 i1 i2 i3 i4 i5 (IntKind.u64.wrap (i6+i2)) i7 (IntKind.u64.wrap (i8-(1:Int))) true)
 (yef a0 a b c i0 i1 i2 i3 i4 i5 (IntKind.u64.wrap (i6+i2)) i7 (IntKind.u64.wrap (i8-(1:Int))) false))
 (b i0 i1 i2 i3 i4 i5 i6 i7 i8 false)))
end
def yva (a0:ybe) (p0 p1 p2:Int) (K:Int→Int→Prop):Prop :=
 (cbr (p2 ==(0:Int))
 False
 (cbr (decide (p2≤p0))
 False
 (cbr (p0 ==(0:Int))
 (asr (!(decide (p2=(0:Int))))
 (asr (!(decide (p2=(0:Int))))
 (K (IntKind.u64.wrap (Int.tdiv p1 p2)) (Int.tmod p1 p2))))
 (a0 p2 (fun a =>
 (asr (!(decide ((IntKind.u64.wrap a)<(0:Int))))
 (asr (!(decide ((IntKind.u64.wrap a)<(0:Int))))
 (asr (!(decide ((IntKind.u64.wrap ((64:Int)-(IntKind.u64.wrap a)))<(0:Int))))
 (asr (!(decide ((IntKind.u64.wrap a)<(0:Int))))
 (asr (!(decide ((Int.fdiv (IntKind.u64.wrap (p2*2 ^ (min (IntKind.u64.wrap a).toNat IntKind.u64.bits))) 4294967296)=(0:Int))))
 (∃ u:Nat,yke a0
 (fun b v c w h i x d _ _=>(asr (!(decide (c=(0:Int))))
 (∃ l:Nat,yge a0
 (fun y m _ _ z A _ B n _=>(asr (!(decide (m<(0:Int))))
 (K (IntKind.u64.wrap ((IntKind.u64.wrap (A*(4294967296:Int)))+n)) (Int.fdiv (IntKind.u64.wrap ((IntKind.u64.wrap ((IntKind.u64.wrap (B*(4294967296:Int)))+z))-(IntKind.u64.wrap (n*y)))) (2 ^ (min m.toNat IntKind.u64.bits))))))
 (fun C o _ _ D E _ F p _=>(asr (!(decide (o<(0:Int))))
 (K (IntKind.u64.wrap ((IntKind.u64.wrap (E*(4294967296:Int)))+p)) (Int.fdiv (IntKind.u64.wrap ((IntKind.u64.wrap ((IntKind.u64.wrap (F*(4294967296:Int)))+D))-(IntKind.u64.wrap (p*C)))) (2 ^ (min o.toNat IntKind.u64.bits))))))
 l b v c w x d (IntKind.u64.wrap ((IntKind.u64.wrap ((IntKind.u64.wrap ((IntKind.u64.wrap (h*(4294967296:Int)))+i))-(IntKind.u64.wrap (d*b))))-(IntKind.u64.wrap ((IntKind.u64.wrap (Int.tdiv (IntKind.u64.wrap ((IntKind.u64.wrap ((IntKind.u64.wrap (h*(4294967296:Int)))+i))-(IntKind.u64.wrap (d*b)))) c))*c)))) (IntKind.u64.wrap ((IntKind.u64.wrap ((IntKind.u64.wrap (h*(4294967296:Int)))+i))-(IntKind.u64.wrap (d*b)))) (IntKind.u64.wrap (Int.tdiv (IntKind.u64.wrap ((IntKind.u64.wrap ((IntKind.u64.wrap (h*(4294967296:Int)))+i))-(IntKind.u64.wrap (d*b)))) c)))))
 (fun e G f H j k I g _ _=>(asr (!(decide (f=(0:Int))))
 (∃ l:Nat,yge a0
 (fun J q _ _ L M _ N r _=>(asr (!(decide (q<(0:Int))))
 (K (IntKind.u64.wrap ((IntKind.u64.wrap (M*(4294967296:Int)))+r)) (Int.fdiv (IntKind.u64.wrap ((IntKind.u64.wrap ((IntKind.u64.wrap (N*(4294967296:Int)))+L))-(IntKind.u64.wrap (r*J)))) (2 ^ (min q.toNat IntKind.u64.bits))))))
 (fun O s _ _ Q R _ S t _=>(asr (!(decide (s<(0:Int))))
 (K (IntKind.u64.wrap ((IntKind.u64.wrap (R*(4294967296:Int)))+t)) (Int.fdiv (IntKind.u64.wrap ((IntKind.u64.wrap ((IntKind.u64.wrap (S*(4294967296:Int)))+Q))-(IntKind.u64.wrap (t*O)))) (2 ^ (min s.toNat IntKind.u64.bits))))))
 l e G f H I g (IntKind.u64.wrap ((IntKind.u64.wrap ((IntKind.u64.wrap ((IntKind.u64.wrap (j*(4294967296:Int)))+k))-(IntKind.u64.wrap (g*e))))-(IntKind.u64.wrap ((IntKind.u64.wrap (Int.tdiv (IntKind.u64.wrap ((IntKind.u64.wrap ((IntKind.u64.wrap (j*(4294967296:Int)))+k))-(IntKind.u64.wrap (g*e)))) f))*f)))) (IntKind.u64.wrap ((IntKind.u64.wrap ((IntKind.u64.wrap (j*(4294967296:Int)))+k))-(IntKind.u64.wrap (g*e)))) (IntKind.u64.wrap (Int.tdiv (IntKind.u64.wrap ((IntKind.u64.wrap ((IntKind.u64.wrap (j*(4294967296:Int)))+k))-(IntKind.u64.wrap (g*e)))) f)))))
 u (IntKind.u64.wrap (p2*2 ^ (min (IntKind.u64.wrap a).toNat IntKind.u64.bits))) (IntKind.u64.wrap a) (Int.fdiv (IntKind.u64.wrap (p2*2 ^ (min (IntKind.u64.wrap a).toNat IntKind.u64.bits))) 4294967296) (IntKind.u64.wrap (BitVec.ofInt IntKind.u64.bits (IntKind.u64.wrap (p2*2 ^ (min (IntKind.u64.wrap a).toNat IntKind.u64.bits)))&&&BitVec.ofInt IntKind.u64.bits (4294967295:Int)).toNat) (IntKind.u64.wrap (BitVec.ofInt IntKind.u64.bits (IntKind.u64.wrap (p0*2 ^ (min (IntKind.u64.wrap a).toNat IntKind.u64.bits)))|||BitVec.ofInt IntKind.u64.bits (Int.fdiv p1 (2 ^ (min (IntKind.u64.wrap ((64:Int)-(IntKind.u64.wrap a))).toNat IntKind.u64.bits)))).toNat) (Int.fdiv (IntKind.u64.wrap (p1*2 ^ (min (IntKind.u64.wrap a).toNat IntKind.u64.bits))) 4294967296) (IntKind.u64.wrap (BitVec.ofInt IntKind.u64.bits (IntKind.u64.wrap (p1*2 ^ (min (IntKind.u64.wrap a).toNat IntKind.u64.bits)))&&&BitVec.ofInt IntKind.u64.bits (4294967295:Int)).toNat) (IntKind.u64.wrap (Int.tdiv (IntKind.u64.wrap (BitVec.ofInt IntKind.u64.bits (IntKind.u64.wrap (p0*2 ^ (min (IntKind.u64.wrap a).toNat IntKind.u64.bits)))|||BitVec.ofInt IntKind.u64.bits (Int.fdiv p1 (2 ^ (min (IntKind.u64.wrap ((64:Int)-(IntKind.u64.wrap a))).toNat IntKind.u64.bits)))).toNat) (Int.fdiv (IntKind.u64.wrap (p2*2 ^ (min (IntKind.u64.wrap a).toNat IntKind.u64.bits))) 4294967296))) (IntKind.u64.wrap ((IntKind.u64.wrap (BitVec.ofInt IntKind.u64.bits (IntKind.u64.wrap (p0*2 ^ (min (IntKind.u64.wrap a).toNat IntKind.u64.bits)))|||BitVec.ofInt IntKind.u64.bits (Int.fdiv p1 (2 ^ (min (IntKind.u64.wrap ((64:Int)-(IntKind.u64.wrap a))).toNat IntKind.u64.bits)))).toNat)-(IntKind.u64.wrap ((IntKind.u64.wrap (Int.tdiv (IntKind.u64.wrap (BitVec.ofInt IntKind.u64.bits (IntKind.u64.wrap (p0*2 ^ (min (IntKind.u64.wrap a).toNat IntKind.u64.bits)))|||BitVec.ofInt IntKind.u64.bits (Int.fdiv p1 (2 ^ (min (IntKind.u64.wrap ((64:Int)-(IntKind.u64.wrap a))).toNat IntKind.u64.bits)))).toNat) (Int.fdiv (IntKind.u64.wrap (p2*2 ^ (min (IntKind.u64.wrap a).toNat IntKind.u64.bits))) 4294967296)))*(Int.fdiv (IntKind.u64.wrap (p2*2 ^ (min (IntKind.u64.wrap a).toNat IntKind.u64.bits))) 4294967296))))))))))))))))
def yid:ybi:=yva yct
def yI0:Sg:=⟨(lC pt2 pt4),Int→Int→Prop,fun K=>(fun r0 r1=>K (.tup [(.int .u64 r0),(.int .u64 r1)]))⟩
def ytJ (Q:Qx):Int→Int→Int→Int→Int→Int→Int→Int→Int→Bool→Prop:=(fun i0 i1 i2 i3 i4 i5 i6 i7 i8 b9=>Q (.exit 0) [(2,.v (.int .u64 i0)),(8,.v (.int .u64 i1)),(9,.v (.int .u64 i2)),(10,.v (.int .u64 i3)),(11,.v (.int .u64 i4)),(13,.v (.int .u64 i5)),(14,.v (.int .u64 i6)),(15,.v (.int .u64 i7)),(16,.v (.int .u64 i8)),(85,.v (.bool b9))] [])
def ytK (Q:Qx):Int→Int→Int→Int→Int→Int→Int→Int→Int→Bool→Prop:=(fun i0 i1 i2 i3 i4 i5 i6 i7 i8 b9=>Q (.exit 0) [(2,.v (.int .u64 i0)),(8,.v (.int .u64 i1)),(9,.v (.int .u64 i2)),(10,.v (.int .u64 i3)),(11,.v (.int .u64 i4)),(13,.v (.int .u64 i5)),(14,.v (.int .u64 i6)),(15,.v (.int .u64 i7)),(16,.v (.int .u64 i8)),(78,.v (.bool b9))] [])
def ytL (Q:Qx):Int→Int→Int→Int→Int→Int→Int→Int→Int→Bool→Prop:=(fun i0 i1 i2 i3 i4 i5 i6 i7 i8 b9=>Q (.exit 2) [(2,.v (.int .u64 i0)),(8,.v (.int .u64 i1)),(9,.v (.int .u64 i2)),(10,.v (.int .u64 i3)),(14,.v (.int .u64 i4)),(15,.v (.int .u64 i5)),(16,.v (.int .u64 i6)),(17,.v (.int .u64 i7)),(18,.v (.int .u64 i8)),(120,.v (.bool b9))] [])
def ytM (Q:Qx):Int→Int→Int→Int→Int→Int→Int→Int→Int→Bool→Prop:=(fun i0 i1 i2 i3 i4 i5 i6 i7 i8 b9=>Q (.exit 2) [(2,.v (.int .u64 i0)),(8,.v (.int .u64 i1)),(9,.v (.int .u64 i2)),(10,.v (.int .u64 i3)),(14,.v (.int .u64 i4)),(15,.v (.int .u64 i5)),(16,.v (.int .u64 i6)),(17,.v (.int .u64 i7)),(18,.v (.int .u64 i8)),(113,.v (.bool b9))] [])
def yws (a0:ybe) (Q:Qx):List St:=[⟨(pS hN (fV 2 pt2 (fV 8 pt2 (fV 9 pt2 (fV 10 pt2 (fV 11 pt2 (fV 13 pt2 (fV 14 pt2 (fV 15 pt2 (fV 16 pt2 fN))))))))) fN),yke a0 (ytJ Q) (ytK Q)⟩,⟨(pS hN (fV 2 pt2 (fV 8 pt2 (fV 9 pt2 (fV 10 pt2 (fV 11 pt2 (fV 13 pt2 (fV 14 pt2 (fV 15 pt2 (fV 16 pt2 (fV 85 vB fN)))))))))) fN),yee a0 (ytJ Q) (ytK Q)⟩]
def ywt (a0:ybe) (Q:Qx):List St:=[⟨(pS hN (fV 2 pt2 (fV 8 pt2 (fV 9 pt2 (fV 10 pt2 (fV 14 pt2 (fV 15 pt2 (fV 16 pt2 (fV 17 pt2 (fV 18 pt2 fN))))))))) fN),yge a0 (ytL Q) (ytM Q)⟩,⟨(pS hN (fV 2 pt2 (fV 8 pt2 (fV 9 pt2 (fV 10 pt2 (fV 14 pt2 (fV 15 pt2 (fV 16 pt2 (fV 17 pt2 (fV 18 pt2 (fV 120 vB fN)))))))))) fN),yef a0 (ytL Q) (ytM Q)⟩]
def yvb (a0:ybe):LP:=lpS [(60530100,yws a0),(60530101,ywt a0)]
def ypo (e:Es) (a0:ybe):SE:=sE (E e) [(yfQ,yBZ.pw a0)] (yvb a0)
theorem yrq (e:Es) (he:EG e):SEOk (Uni (E e)) (ypo e yct):=yaE (Sub.uni _) ⟨(ys4 e he),trivial⟩ trivial he.ok
theorem yB0 (e:Es) (a0):ycr (ypo e a0) 5 a yuz false (yws a0):=fun _=>⟨fun _=>by kernel_rfl,fun _ _=>by kernel_rfl,fun _=>by kernel_rfl,fun _ _=>by kernel_rfl,trivial⟩
theorem yB1 (e:Es) (he:EG e):LpT (Uni (E e)) (yvb yct) [] 60530100 (.loop 60530100 yuz):=fun _ _ _=>yp8.st (Sub.uni _) (yaW (yrq e he) 5) (YOk.no _ _) (yar (by kernel_rfl)) (yB0 e _ _)
theorem yB2 (e:Es) (a0):ycr (ypo e a0) 5 a yuA false (ywt a0):=fun _=>⟨fun _=>by kernel_rfl,fun _ _=>by kernel_rfl,fun _=>by kernel_rfl,fun _ _=>by kernel_rfl,trivial⟩
theorem yB3 (e:Es) (he:EG e):LpT (Uni (E e)) (yvb yct) [] 60530101 (.loop 60530101 yuA):=fun _ _ _=>yp8.st (Sub.uni _) (yaW (yrq e he) 5) (YOk.no _ _) (yar (by kernel_rfl)) (yB2 e _ _)
theorem yI1 (e:Es) (a0):EqW (ypo e a0) 6 yx7 yI0 (yva a0):=fun _ _=>by kernel_rfl
theorem yB4 (e:Es) (he:EG e):OkF (E e) (yI0.pw yid) yoo:=okU he (yI1 e _) (yrq e he) yp9.flat (ybg (l:=[(60530100,.loop 60530100 yuz),(60530101,.loop 60530101 yuA)]) ⟨yB1 e he,yB3 e he,trivial⟩ (by kernel_rfl))
abbrev yyh:Type:=Int→Int→Int→(Int→Prop)→Prop
def yvc (a0:ybi) (p0 p1 p2:Int) (K:Int→Prop):Prop :=
 (asr (!(decide (p2=(0:Int))))
 (a0 (Int.tmod p0 p2) p1 p2 (fun _ a =>
 (K a))))
def yjN:yyh:=yvc yid
def yI2:Sg:=⟨(lC pt2 pt4),Int→Prop,fun K=>(fun r0=>K (.int .u64 r0))⟩
def yI3 (e:Es) (a0:ybi):SE:=sE (E e) [(yoo,yI0.pw a0)] lp0
theorem yI4 (e:Es) (a0):EqW (yI3 e a0) 6 yLe yI2 (yvc a0):=fun _ _=>by kernel_rfl
theorem yI5 (e:Es) (he:EG e):OkF (E e) (yI2.pw yjN) ysL:=okU he (yI4 e _) (yaE (Sub.uni _) ⟨(yB4 e he),trivial⟩ trivial he.ok) yp9.flat (yar (by kernel_rfl))
def ypp (a0:yaO) (a1:ya4) (a2:ybe) (a3:yjM) (a4:yEG) (a5:yyh) (a6:ybi) (a7:yeu) (a8:yEH) (p0 p1 p2 p3:Int) (K:Int→Int→Int→Prop):Prop :=
 (a0 p0 p1 p2 p3 (fun z =>
 (cbr (z !=(0:Int))
 (K (0:Int) (0:Int) z)
 (a1 (IntKind.u64.wrap p1) (IntKind.u64.wrap p3) (fun a =>
 (a2 p0 (fun A =>
 (asr (!(decide (a=(0:Int))))
 (a3 A (IntKind.u64.wrap (Int.tdiv (IntKind.u64.wrap p3) a)) (fun b i =>
 (a2 p2 (fun B =>
 (asr (!(decide (a=(0:Int))))
 (a3 B (IntKind.u64.wrap (Int.tdiv (IntKind.u64.wrap p1) a)) (fun c j =>
 (cbr ((decide (p0<(0:Int))) ==(decide (p2<(0:Int))))
 (a4 i j (0:Int) (fun k C =>
 (a4 b c C (fun d _ =>
 (cbr (d ==(0:Int))
 (cbr (k ==(0:Int))
 (K (0:Int) (1:Int) (0:Int))
 (a5 d k a (fun D =>
 (a1 D a (fun p =>
 (cbr (decide (d≥p))
 (K (0:Int) (0:Int) (16:Int))
 (a6 d k p (fun E _ =>
 (asr (!(decide (a=(0:Int))))
 (asr (!(decide (p=(0:Int))))
 (a3 (IntKind.u64.wrap (Int.tdiv (IntKind.u64.wrap p1) a)) (IntKind.u64.wrap (Int.tdiv (IntKind.u64.wrap p3) p)) (fun F G =>
 (cbr (decide (F>(0:Int)))
 (K (0:Int) (0:Int) (16:Int))
 (a7 (decide (p0<(0:Int))) E G (fun H I J =>
 (K H I J))))))))))))))))
 (a5 d k a (fun L =>
 (a1 L a (fun q =>
 (cbr (decide (d≥q))
 (K (0:Int) (0:Int) (16:Int))
 (a6 d k q (fun M _ =>
 (asr (!(decide (a=(0:Int))))
 (asr (!(decide (q=(0:Int))))
 (a3 (IntKind.u64.wrap (Int.tdiv (IntKind.u64.wrap p1) a)) (IntKind.u64.wrap (Int.tdiv (IntKind.u64.wrap p3) q)) (fun N O =>
 (cbr (decide (N>(0:Int)))
 (K (0:Int) (0:Int) (16:Int))
 (a7 (decide (p0<(0:Int))) M O (fun Q R S =>
 (K Q R S))))))))))))))))))))
 (cbr (decide (b<c))
 (a8 j i (0:Int) (fun l T =>
 (a8 c b T (fun e _ =>
 (cbr (e ==(0:Int))
 (cbr (l ==(0:Int))
 (K (0:Int) (1:Int) (0:Int))
 (a5 e l a (fun U =>
 (a1 U a (fun r =>
 (cbr (decide (e≥r))
 (K (0:Int) (0:Int) (16:Int))
 (a6 e l r (fun V _ =>
 (asr (!(decide (a=(0:Int))))
 (asr (!(decide (r=(0:Int))))
 (a3 (IntKind.u64.wrap (Int.tdiv (IntKind.u64.wrap p1) a)) (IntKind.u64.wrap (Int.tdiv (IntKind.u64.wrap p3) r)) (fun W X =>
 (cbr (decide (W>(0:Int)))
 (K (0:Int) (0:Int) (16:Int))
 (a7 (!(decide (p0<(0:Int)))) V X (fun Y Z va =>
 (K Y Z va))))))))))))))))
 (a5 e l a (fun vb =>
 (a1 vb a (fun s =>
 (cbr (decide (e≥s))
 (K (0:Int) (0:Int) (16:Int))
 (a6 e l s (fun vc _ =>
 (asr (!(decide (a=(0:Int))))
 (asr (!(decide (s=(0:Int))))
 (a3 (IntKind.u64.wrap (Int.tdiv (IntKind.u64.wrap p1) a)) (IntKind.u64.wrap (Int.tdiv (IntKind.u64.wrap p3) s)) (fun vd ve =>
 (cbr (decide (vd>(0:Int)))
 (K (0:Int) (0:Int) (16:Int))
 (a7 (!(decide (p0<(0:Int)))) vc ve (fun vf vg vh =>
 (K vf vg vh))))))))))))))))))))
 (cbr (b == c)
 (cbr (decide (i<j))
 (a8 j i (0:Int) (fun m vi =>
 (a8 c b vi (fun f _ =>
 (cbr (f ==(0:Int))
 (cbr (m ==(0:Int))
 (K (0:Int) (1:Int) (0:Int))
 (a5 f m a (fun vj =>
 (a1 vj a (fun t =>
 (cbr (decide (f≥t))
 (K (0:Int) (0:Int) (16:Int))
 (a6 f m t (fun vk _ =>
 (asr (!(decide (a=(0:Int))))
 (asr (!(decide (t=(0:Int))))
 (a3 (IntKind.u64.wrap (Int.tdiv (IntKind.u64.wrap p1) a)) (IntKind.u64.wrap (Int.tdiv (IntKind.u64.wrap p3) t)) (fun vl vm =>
 (cbr (decide (vl>(0:Int)))
 (K (0:Int) (0:Int) (16:Int))
 (a7 (!(decide (p0<(0:Int)))) vk vm (fun vn vo vp =>
 (K vn vo vp))))))))))))))))
 (a5 f m a (fun vq =>
 (a1 vq a (fun u =>
 (cbr (decide (f≥u))
 (K (0:Int) (0:Int) (16:Int))
 (a6 f m u (fun vr _ =>
 (asr (!(decide (a=(0:Int))))
 (asr (!(decide (u=(0:Int))))
 (a3 (IntKind.u64.wrap (Int.tdiv (IntKind.u64.wrap p1) a)) (IntKind.u64.wrap (Int.tdiv (IntKind.u64.wrap p3) u)) (fun vs vt =>
 (cbr (decide (vs>(0:Int)))
 (K (0:Int) (0:Int) (16:Int))
 (a7 (!(decide (p0<(0:Int)))) vr vt (fun vu vv vw =>
 (K vu vv vw))))))))))))))))))))
 (a8 i j (0:Int) (fun n vx =>
 (a8 b c vx (fun g _ =>
 (cbr (g ==(0:Int))
 (cbr (n ==(0:Int))
 (K (0:Int) (1:Int) (0:Int))
 (a5 g n a (fun vy =>
 (a1 vy a (fun v =>
 (cbr (decide (g≥v))
 (K (0:Int) (0:Int) (16:Int))
 (a6 g n v (fun vz _ =>
 (asr (!(decide (a=(0:Int))))
 (asr (!(decide (v=(0:Int))))
 (a3 (IntKind.u64.wrap (Int.tdiv (IntKind.u64.wrap p1) a)) (IntKind.u64.wrap (Int.tdiv (IntKind.u64.wrap p3) v)) (fun vA vB =>
 (cbr (decide (vA>(0:Int)))
 (K (0:Int) (0:Int) (16:Int))
 (a7 (decide (p0<(0:Int))) vz vB (fun vC vD vE =>
 (K vC vD vE))))))))))))))))
 (a5 g n a (fun vF =>
 (a1 vF a (fun w =>
 (cbr (decide (g≥w))
 (K (0:Int) (0:Int) (16:Int))
 (a6 g n w (fun vG _ =>
 (asr (!(decide (a=(0:Int))))
 (asr (!(decide (w=(0:Int))))
 (a3 (IntKind.u64.wrap (Int.tdiv (IntKind.u64.wrap p1) a)) (IntKind.u64.wrap (Int.tdiv (IntKind.u64.wrap p3) w)) (fun vH vI =>
 (cbr (decide (vH>(0:Int)))
 (K (0:Int) (0:Int) (16:Int))
 (a7 (decide (p0<(0:Int))) vG vI (fun vJ vK vL =>
 (K vJ vK vL)))))))))))))))))))))
 (a8 i j (0:Int) (fun o vM =>
 (a8 b c vM (fun h _ =>
 (cbr (h ==(0:Int))
 (cbr (o ==(0:Int))
 (K (0:Int) (1:Int) (0:Int))
 (a5 h o a (fun vN =>
 (a1 vN a (fun x =>
 (cbr (decide (h≥x))
 (K (0:Int) (0:Int) (16:Int))
 (a6 h o x (fun vO _ =>
 (asr (!(decide (a=(0:Int))))
 (asr (!(decide (x=(0:Int))))
 (a3 (IntKind.u64.wrap (Int.tdiv (IntKind.u64.wrap p1) a)) (IntKind.u64.wrap (Int.tdiv (IntKind.u64.wrap p3) x)) (fun vP vQ =>
 (cbr (decide (vP>(0:Int)))
 (K (0:Int) (0:Int) (16:Int))
 (a7 (decide (p0<(0:Int))) vO vQ (fun vR vS vT =>
 (K vR vS vT))))))))))))))))
 (a5 h o a (fun vU =>
 (a1 vU a (fun y =>
 (cbr (decide (h≥y))
 (K (0:Int) (0:Int) (16:Int))
 (a6 h o y (fun vV _ =>
 (asr (!(decide (a=(0:Int))))
 (asr (!(decide (y=(0:Int))))
 (a3 (IntKind.u64.wrap (Int.tdiv (IntKind.u64.wrap p1) a)) (IntKind.u64.wrap (Int.tdiv (IntKind.u64.wrap p3) y)) (fun vW vX =>
 (cbr (decide (vW>(0:Int)))
 (K (0:Int) (0:Int) (16:Int))
 (a7 (decide (p0<(0:Int))) vV vX (fun vY vZ v0 =>
 (K vY vZ v0))))))))))))))))))))))))))))))))))))))
def ybh:yal:=ypp yed ydh yeY yg6 yli yjN yid yc3 ylj
def yFZ (e:Es) (a0:yaO) (a1:ya4) (a2:ybe) (a3:yjM) (a4:yEG) (a5:yyh) (a6:ybi) (a7:yeu) (a8:yEH):SE:=sE (E e) [(yeb,yrl.pw a0),(ygB,yFS.pw a1),(yeP,yDt.pw a2),(ylk,yIU.pw a3),(yjF,yui a4),(ysL,yI2.pw a5),(yoo,yI0.pw a6),(yfq,yzV.pw a7),(yjG,yuk a8)] lp0
theorem yF0 (e:Es) (a0 a1 a2 a3 a4 a5 a6 a7 a8):EqW (yFZ e a0 a1 a2 a3 a4 a5 a6 a7 a8) 6 yHD yla (ypp a0 a1 a2 a3 a4 a5 a6 a7 a8):=fun _ _=>by kernel_rfl
theorem yfT (e:Es) (he:EG e):OkF (E e) (yla.pw ybh) yeS:=okU he (yF0 e _ _ _ _ _ _ _ _ _) (yaE (Sub.uni _) ⟨(ygK e he),(yk9 e he),(yhH e he),(yu4 e he),(yIS e he),(yI5 e he),(yB4 e he),(ykI e he),(yIT e he),trivial⟩ trivial he.ok) yp9.flat (yar (by kernel_rfl))
def ypq (a0:yaO) (a1:yal) (p0 p1 p2 p3:Int) (K:Int→Int→Int→Prop):Prop :=
 (a0 p0 p1 p2 p3 (fun a =>
 (cbr (a !=(0:Int))
 (K (0:Int) (0:Int) a)
 (a1 p0 p1 (IntKind.i64.wrap ((0:Int)-p2)) p3 (fun b c d =>
 (K b c d))))))
def yaQ:yal:=ypq yed ybh
def yF1 (e:Es) (a0:yaO) (a1:yal):SE:=sE (E e) [(yeb,yrl.pw a0),(yeS,yla.pw a1)] lp0
theorem yF2 (e:Es) (a0 a1):EqW (yF1 e a0 a1) 6 yHE yla (ypq a0 a1):=fun _ _=>by kernel_rfl
theorem yg8 (e:Es) (he:EG e):OkF (E e) (yla.pw yaQ) yfG:=okU he (yF2 e _ _) (yaE (Sub.uni _) ⟨(ygK e he),(yfT e he),trivial⟩ trivial he.ok) yp9.flat (yar (by kernel_rfl))
def ypr (a0:yaO) (a1:yal) (p0 p1 p2 p3:Int) (K:Int→Int→Int→Prop):Prop :=
 (a0 p0 p1 p2 p3 (fun a =>
 (cbr (a !=(0:Int))
 (K (0:Int) (0:Int) a)
 (cbr (p2 ==(0:Int))
 (K (0:Int) (0:Int) (18:Int))
 (cbr (decide (p2<(0:Int)))
 (a1 p0 p1 (IntKind.i64.wrap ((0:Int)-p3)) (IntKind.i64.wrap ((0:Int)-p2)) (fun b c d =>
 (K b c d)))
 (a1 p0 p1 p3 p2 (fun e f g =>
 (K e f g))))))))
def ya8:yal:=ypr yed ybJ
def yF3 (e:Es) (a0:yaO) (a1:yal):SE:=sE (E e) [(yeb,yrl.pw a0),(yfF,yla.pw a1)] lp0
theorem yF4 (e:Es) (a0 a1):EqW (yF3 e a0 a1) 6 yHF yla (ypr a0 a1):=fun _ _=>by kernel_rfl
theorem yfU (e:Es) (he:EG e):OkF (E e) (yla.pw ya8) yeT:=okU he (yF4 e _ _) (yaE (Sub.uni _) ⟨(ygK e he),(yg7 e he),trivial⟩ trivial he.ok) yp9.flat (yar (by kernel_rfl))
abbrev ybM:Type:=Int→Int→(Int→Int→Int→Prop)→Prop
def ynt (a0:ybe) (a1:ya4) (a2:yeu) (p0 p1:Int) (K:Int→Int→Int→Prop):Prop :=
 (cbr (p1 ==(0:Int))
 (K (0:Int) (0:Int) (18:Int))
 (a0 p0 (fun b =>
 (a0 p1 (fun c =>
 (a1 b c (fun a =>
 (asr (!(decide (a=(0:Int))))
 (asr (!(decide (a=(0:Int))))
 (a2 ((decide (p0<(0:Int))) !=(decide (p1<(0:Int)))) (IntKind.u64.wrap (Int.tdiv b a)) (IntKind.u64.wrap (Int.tdiv c a)) (fun d e f =>
 (K d e f))))))))))))
def yaA:ybM:=ynt yeY ydh yc3
def yDy:Sg:=⟨pt5,Int→Int→Int→Prop,fun K=>(fun r0 r1 r2=>K (.tup [(.agg [(.int .i64 r0),(.int .i64 r1)]),(.int .i64 r2)]))⟩
def yDz (e:Es) (a0:ybe) (a1:ya4) (a2:yeu):SE:=sE (E e) [(yeP,yDt.pw a0),(ygB,yFS.pw a1),(yfq,yzV.pw a2)] lp0
theorem yDA (e:Es) (a0 a1 a2):EqW (yDz e a0 a1 a2) 6 yFR yDy (ynt a0 a1 a2):=fun _ _=>by kernel_rfl
theorem ynu (e:Es) (he:EG e):OkF (E e) (yDy.pw yaA) yiD:=okU he (yDA e _ _ _) (yaE (Sub.uni _) ⟨(yhH e he),(yk9 e he),(ykI e he),trivial⟩ trivial he.ok) yp9.flat (yar (by kernel_rfl))
set_option linter.unusedVariables false
theorem yzY (p0:Int) (p1:Int) (r0:Int) (h:∀ K:Int→Prop,K r0→ycc p0 p1 K) (K:Int→Prop):ycc p0 p1 K=K r0 :=
 propext ⟨fun k=>detC (ygJ [] ybB) (az:=[(.agg [(.int .i64 p0),(.int .i64 p1)])]) (x:=(.int .i64 r0)) (fun K' k'=>h (fun r0=>K' (.int .i64 r0)) k') (K:=fun x=>match x with | (.int .i64 r0)=>K r0 | _=>False) k,h K⟩
theorem yDB (p0:Int) (p1:Int) (p2:Int) (p3:Int) (r0:Int) (r1:Int) (r2:Int) (h:∀ K:Int→Int→Int→Prop,K r0 r1 r2→ybJ p0 p1 p2 p3 K) (K:Int→Int→Int→Prop):ybJ p0 p1 p2 p3 K=K r0 r1 r2 :=
 propext ⟨fun k=>detC (yg7 [] ybB) (az:=[(.agg [(.int .i64 p0),(.int .i64 p1)]),(.agg [(.int .i64 p2),(.int .i64 p3)])]) (x:=(.tup [(.agg [(.int .i64 r0),(.int .i64 r1)]),(.int .i64 r2)])) (fun K' k'=>h (fun r0 r1 r2=>K' (.tup [(.agg [(.int .i64 r0),(.int .i64 r1)]),(.int .i64 r2)])) k') (K:=fun x=>match x with | (.tup [(.agg [(.int .i64 r0),(.int .i64 r1)]),(.int .i64 r2)])=>K r0 r1 r2 | _=>False) k,h K⟩
theorem yDC (p0:Int) (p1:Int) (p2:Int) (p3:Int) (r0:Int) (r1:Int) (h:∀ K:Int→Int→Prop,K r0 r1→ycs p0 p1 p2 p3 K) (K:Int→Int→Prop):ycs p0 p1 p2 p3 K=K r0 r1 :=
 propext ⟨fun k=>detC (yfS [] ybB) (az:=[(.agg [(.int .i64 p0),(.int .i64 p1)]),(.agg [(.int .i64 p2),(.int .i64 p3)])]) (x:=(.tup [(.int .i64 r0),(.int .i64 r1)])) (fun K' k'=>h (fun r0 r1=>K' (.tup [(.int .i64 r0),(.int .i64 r1)])) k') (K:=fun x=>match x with | (.tup [(.int .i64 r0),(.int .i64 r1)])=>K r0 r1 | _=>False) k,h K⟩
theorem yDD (p0:Int) (p1:Int) (p2:Int) (p3:Int) (r0:Int) (r1:Int) (r2:Int) (h:∀ K:Int→Int→Int→Prop,K r0 r1 r2→ybh p0 p1 p2 p3 K) (K:Int→Int→Int→Prop):ybh p0 p1 p2 p3 K=K r0 r1 r2 :=
 propext ⟨fun k=>detC (yfT [] ybB) (az:=[(.agg [(.int .i64 p0),(.int .i64 p1)]),(.agg [(.int .i64 p2),(.int .i64 p3)])]) (x:=(.tup [(.agg [(.int .i64 r0),(.int .i64 r1)]),(.int .i64 r2)])) (fun K' k'=>h (fun r0 r1 r2=>K' (.tup [(.agg [(.int .i64 r0),(.int .i64 r1)]),(.int .i64 r2)])) k') (K:=fun x=>match x with | (.tup [(.agg [(.int .i64 r0),(.int .i64 r1)]),(.int .i64 r2)])=>K r0 r1 r2 | _=>False) k,h K⟩
theorem yDE (p0:Int) (p1:Int) (p2:Int) (p3:Int) (r0:Int) (r1:Int) (r2:Int) (h:∀ K:Int→Int→Int→Prop,K r0 r1 r2→yaQ p0 p1 p2 p3 K) (K:Int→Int→Int→Prop):yaQ p0 p1 p2 p3 K=K r0 r1 r2 :=
 propext ⟨fun k=>detC (yg8 [] ybB) (az:=[(.agg [(.int .i64 p0),(.int .i64 p1)]),(.agg [(.int .i64 p2),(.int .i64 p3)])]) (x:=(.tup [(.agg [(.int .i64 r0),(.int .i64 r1)]),(.int .i64 r2)])) (fun K' k'=>h (fun r0 r1 r2=>K' (.tup [(.agg [(.int .i64 r0),(.int .i64 r1)]),(.int .i64 r2)])) k') (K:=fun x=>match x with | (.tup [(.agg [(.int .i64 r0),(.int .i64 r1)]),(.int .i64 r2)])=>K r0 r1 r2 | _=>False) k,h K⟩
theorem yDF (p0:Int) (p1:Int) (p2:Int) (p3:Int) (r0:Int) (r1:Int) (r2:Int) (h:∀ K:Int→Int→Int→Prop,K r0 r1 r2→ya8 p0 p1 p2 p3 K) (K:Int→Int→Int→Prop):ya8 p0 p1 p2 p3 K=K r0 r1 r2 :=
 propext ⟨fun k=>detC (yfU [] ybB) (az:=[(.agg [(.int .i64 p0),(.int .i64 p1)]),(.agg [(.int .i64 p2),(.int .i64 p3)])]) (x:=(.tup [(.agg [(.int .i64 r0),(.int .i64 r1)]),(.int .i64 r2)])) (fun K' k'=>h (fun r0 r1 r2=>K' (.tup [(.agg [(.int .i64 r0),(.int .i64 r1)]),(.int .i64 r2)])) k') (K:=fun x=>match x with | (.tup [(.agg [(.int .i64 r0),(.int .i64 r1)]),(.int .i64 r2)])=>K r0 r1 r2 | _=>False) k,h K⟩
theorem yB5 (p0:Int) (p1:Int) (r0:Int) (r1:Int) (r2:Int) (h:∀ K:Int→Int→Int→Prop,K r0 r1 r2→yaA p0 p1 K) (K:Int→Int→Int→Prop):yaA p0 p1 K=K r0 r1 r2 :=
 propext ⟨fun k=>detC (ynu [] ybB) (az:=[(.int .i64 p0),(.int .i64 p1)]) (x:=(.tup [(.agg [(.int .i64 r0),(.int .i64 r1)]),(.int .i64 r2)])) (fun K' k'=>h (fun r0 r1 r2=>K' (.tup [(.agg [(.int .i64 r0),(.int .i64 r1)]),(.int .i64 r2)])) k') (K:=fun x=>match x with | (.tup [(.agg [(.int .i64 r0),(.int .i64 r1)]),(.int .i64 r2)])=>K r0 r1 r2 | _=>False) k,h K⟩
def ydb (x0:Ls→Int→Int→Bool→Prop):Nat→Ls→Int→Int→Prop
 | 0,_,_,_=>False
 | n+1,l0,i1,i2 =>
 (cbr (decide (i2<(((List.length l0):Nat):Int)))
 (asr (decide ((0:Int)≤i2))
 (asr (decide (i2<(((List.length l0):Nat):Int)))
 (asr (conf zI (List.getD l0 (i2.toNat) .nils))
 (ydb x0 n l0 (if (yaa (List.getD l0 (i2.toNat) .nils))<i1 then (yaa (List.getD l0 (i2.toNat) .nils)) else i1) (IntKind.i64.wrap (i2+(1:Int)))))))
 (x0 l0 i1 i2 false))
def yjO (p0:Ls) (K:Int→Prop):Prop :=
 (cbr (decide ((((List.length p0):Nat):Int)<(1:Int)))
 False
 (asr (decide ((0:Int)<(((List.length p0):Nat):Int)))
 (asr (conf zI (List.getD p0 0 .nils))
 (∃ n:Nat,ydb
 (fun b a c d=>(K a))
 n p0 (yaa (List.getD p0 0 .nils)) (1:Int)))))
def yeG:yas:=yjO
def ys5 (Q:Qx):Ls→Int→Int→Bool→Prop:=(fun l0 i1 i2 b3=>Q (.exit 0) [(0,.v (.data l0)),(3,.v (.int .i64 i1)),(4,.v (.int .i64 i2)),(15,.v (.bool b3))] [])
def pt11:Pat Frm:=fV 4 pt0 fN
def pt12:Pat Sta:=pS hN (fV 0 vD (fV 3 pt0 pt11)) fN
def ylL (Q:Qx):List St:=[⟨pt12,ydb (ys5 Q)⟩]
def yov:LP:=lpS [(10434000,ylL)]
def yjP (e:Es):SE:=sE (E e) [] (yov)
end Go.Pf.Vc
