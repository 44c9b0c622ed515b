/- Part 2. -/
import Derived.Test.YtobbapakhillmaaGreatThW1
noncomputable section
namespace Go.Pf
open Go
def yIw (H:Hp) (x:PV) (K:List PV→Prop):Prop :=
 match x with
 | .nils | .emp=>K []
 | .data rows=>K rows
 | .own id lo len ext _ =>
  (match H[id]? with
   | some b=>asr (decide (b.rows.length=ext)) (asr (decide (lo+len≤ext)) (K ((b.rows.drop lo).take len)))
   | none=>False)
 | _=>False
def yui (H:Hp) (pu:Bool) (esz bytes:Nat) (rows:List PV) (K:PV→Hp→Prop):Prop :=
 asr (decide ((rows.length+64)*(bytes+1)≤room)) (K (.own H.length 0 rows.length rows.length none) (H++[⟨false,pu,esz,rows⟩]))
def WApp (md:Nat) (H:Hp) (pu:Bool) (esz bytes:Nat) (s:PV) (ys:List PV) (K:PV→Hp→Prop):Prop :=
 match s with
 | .nils=>cbr ys.isEmpty (K .nils H) (yui H pu esz bytes ys K)
 | .emp=>cbr ys.isEmpty (K .emp H) (yui H pu esz bytes ys K)
 | .own id lo len ext cap =>
  (match H[id]? with
   | some b =>
    asr (decide (b.rows.length=ext)) (asr (decide (b.pu=pu)&&decide (b.esz=esz)) (asr (decide (lo+len≤ext))
     (cbr ys.isEmpty (K (.own id lo len ext cap) H)
      (match cap with
       | some c =>
        let W1:=asr (!b.fz) (K (.own id lo (len+ys.length) ext cap) (H.set id { b with rows:=b.rows.take (lo+len)++(ys++b.rows.drop (lo+len+ys.length)) }))
        let W2:=yui H pu esz bytes ((b.rows.drop lo).take len++ys) K
        (match md with
         | 9=>cbr (decide (len+ys.length≤c)) W1 W2
         | 8=>cbr (decide (len+ys.length≤c)) W1 W2
         | 2=>asr (!decide (len+ys.length≤c)) W2
         | _=>asr (decide (len+ys.length≤c)) W1)
       | none =>
        let W1:=K (.own id lo (len+ys.length) ext none) (H.set id { b with rows:=b.rows.take (lo+len)++(ys++b.rows.drop (lo+len+ys.length)) })
        let W3:=asr (decide (lo=0)) (asr (decide (len=ext)) (asr (decide ((ext+ys.length+64)*(bytes+1)≤room))
          (K (.own id 0 (b.rows++ys).length (b.rows++ys).length none) (H.set id { b with rows:=b.rows++ys }))))
        let W4:=asr (decide (lo=0)) (asr (decide (len≤ext)) (asr (decide ((len+ys.length+64)*(bytes+1)≤room))
          (K (.own id 0 (len+ys.length) (len+ys.length) none) (H.set id { b with rows:=b.rows.take len++ys }))))
        asr (!b.fz) (match md with
         | 9=>cbr (decide (lo+len+ys.length≤ext)) W1 W3
         | 8=>cbr (decide (lo+len+ys.length≤ext)) W1 W4
         | 1=>asr (decide (lo+len+ys.length≤ext)) W1
         | _=>asr (!decide (lo+len+ys.length≤ext)) W3)))))
   | none=>False)
 | _=>False
def yEG (H:Hp) (esz:Nat) (lo hi mx:Option Int) (x:PV) (K:PV→Prop):Prop :=
 match x with
 | .nils=>asr (decide (lo.getD 0=0)&&(decide (hi.getD 0=0)&&decide (mx.getD 0=0))) (K .nils)
 | .emp=>asr (decide (lo.getD 0=0)&&(decide (hi.getD 0=0)&&decide (mx.getD 0=0))) (K .emp)
 | .data rows =>
  let h:=hi.getD rows.length
  let l:=lo.getD 0
  (match mx with
   | none=>asr (decide (0≤l)) (asr (decide (l≤h)) (asr (decide (h≤rows.length)) (asr (decide (l=0)||ydC esz rows) (K (.data ((rows.take h.toNat).drop l.toNat))))))
   | some m=>asr (decide (0≤l)) (asr (decide (l≤h)) (asr (decide (h≤m)) (asr (decide (m≤rows.length)) (asr (decide (l=0)||ydC esz rows)
      (cbr (decide (l=m)) (K .emp) (K (.data ((rows.take h.toNat).drop l.toNat)))))))))
 | .own id lo0 len ext cap =>
  let h:=hi.getD len
  let l:=lo.getD 0
  (match H[id]? with
   | some b=>asr (b.esz == esz)
    (match mx with
     | none=>asr (decide (0≤l)) (asr (decide (l≤h)) (asr (decide (h≤len)||decide (h≤ywS len cap)) (K (.own id (lo0+l.toNat) (h-l).toNat ext (cap.map fun c=>c-l.toNat)))))
     | some m=>asr (decide (0≤l)) (asr (decide (l≤h)) (asr (decide (h≤m)) (asr (decide (m≤len)||decide (m≤ywS len cap)) (K (.own id (lo0+l.toNat) (h-l).toNat ext (some (m-l).toNat)))))))
   | none=>False)
 | _=>False
def WRow (sh:Sh) (rows:List PV) (i:Nat) (K:PV→Prop):Prop :=
 match sh with
 | .raw=>(match rows[i]? with | some r=>K r | none=>False)
 | sh=>asr (decide (i<rows.length)) (asr (conf sh (rows.getD i .nils)) (K (expl sh (rows.getD i .nils))))
def yIx:List Cs→Bool
 | []=>true
 | .i _::r=>yIx r
 | _=>false
def shL (sh:Sh) (esz sz:Nat):Sh :=
 match sh with
 | .agg l=>bif !(Nat.beq esz sz)&&(Nat.beq l.length sz&&yIx l) then .raw else .agg l
 | x=>x
def yIy:List Cs→Bool
 | []=>false
 | .d::_=>true
 | _::r=>yIy r
def shW (sh:Sh) (pu:Bool):Sh :=
 match sh with
 | .agg l=>bif !pu&&yIy l then .raw else .agg l
 | x=>x
def WOp (E:Env) (callK:CK) (a:An) (F:Frm) (H:Hp) (o:AOp) (K:OK):Prop :=
 match o with
 | .pick c x y =>
  (match evV E F c with
   | some (.bool t)=>cbr t (match evV E F x with | some p=>wv H K p | none=>False) (match evV E F y with | some p=>wv H K p | none=>False)
   | _=>False)
 | .bin op x y =>
  (match evV E F x,evV E F y with
   | some (.int k p),some (.int k' q)=>WBin op k k' p q (wv H K)
   | _,_=>False)
 | .load agg sz x =>
  (match ev E F x with
   | some (.v (.ptr id ext i off)) =>
    (match H[id]? with
     | some b=>asr (decide (b.rows.length=ext)) (WRow (shW (shL a.sh b.esz sz) b.pu) b.rows i fun row=>match yfJ agg sz row off with | some p=>wv H K p | none=>False)
     | none=>False)
   | _=>(match yas E yxw F H (.load agg sz x) with | some ⟨x,bx,H'⟩=>K x bx H' | none=>False))
 | .store sz x y =>
  (match ev E F x with
   | some (.v (.ptr id ext i off)) =>
    (match evV E F y with
     | some p =>
       (match H[id]? with
        | some b0 =>
         yxy b0.pu H p fun q H' =>
          (match H'[id]? with
           | some b=>asr (decide (b.rows.length=ext)) (asr (!b.fz) (WRow (shW a.sh b.pu) b.rows i fun row=>match yiH row off sz q with
            | some row'=>K none none (H'.set id { b with rows:=b.rows.set i row' })
            | none=>False))
           | none=>False)
        | none=>False)
     | none=>False)
   | _=>(match yas E yxw F H (.store sz x y) with | some ⟨x,bx,H'⟩=>K x bx H' | none=>False))
 | .iad esz x i =>
  (match evV E F x,yfW E F i with
   | some (.data rows),some n =>
    asr (decide (0≤n)) (asr (decide (n<rows.length)) (asr (conf a.sh (rows.getD n.toNat .nils)) (asr (decide ((expl a.sh (rows.getD n.toNat .nils)).cells.length=esz)) (wv H K (.eptr [expl a.sh (rows.getD n.toNat .nils)] 0 0)))))
   | some (.own id lo len ext _),some n =>
    (match H[id]? with
     | some b=>asr (decide (0≤n)) (asr (decide (n<len)) (asr (decide (b.esz=esz)) (wv H K (.ptr id ext (lo+n.toNat) 0))))
     | none=>False)
   | some (.sub id ext r off m e),some j=>asr (Nat.beq e esz) (yoc m j (fun k=>wv H K (.ptr id ext r (off+k*esz))) m)
   | _,_=>False)
 | .iadA n esz x i =>
  (match ev E F x,yfW E F i with
   | some (.bp s o),some j=>yoc n j (fun k=>K (some (.bp s (o+k*esz))) none H) n
   | some (.v (.ptr id e r o)),some j=>yoc n j (fun k=>wv H K (.ptr id e r (o+k*esz))) n
   | some (.v (.eptr rows r o)),some j=>yoc n j (fun k=>wv H K (.eptr rows r (o+k*esz))) n
   | _,_=>False)
 | .idx agg n esz x i =>
  (match evV E F x,yfW E F i with
   | some (.agg cs),some j=>(match x with
    | .c _=>WTab agg n esz cs j (wv H K)
    | _=>yoc n j (fun k=>match yfJ agg esz (.agg cs) (k*esz) with | some p=>wv H K p | none=>False) n)
   | _,_=>False)
 | .slc esz x lo hi mx =>
  (match evV E F x,evO E F lo,evO E F hi,evO E F mx with
   | some p,some l,some h,some m=>(match (m.isSome&&h.isNone) with | true=>False | false=>yEG H esz l h m p (wv H K))
   | _,_,_,_=>False)
 | .mkSl pu esz bytes z l c =>
  (match yfW E F l,yfW E F c with
   | some l,some c=>asr (decide (0≤l)) (asr (decide (l≤c)) (asr (decide ((c.toNat+64)*(bytes+1)≤room))
      (K (some (.v (.own H.length 0 l.toNat c.toNat (some c.toNat)))) none (H++[⟨false,pu,esz,List.replicate c.toNat z⟩]))))
   | _,_=>False)
 | .app pu esz bytes s x =>
  (match evV E F s,evV E F x with
   | some s,some x=>yIw H x fun ys=>asr (ydC esz ys) (asr (ynk H pu x) (WApp a.md H pu esz bytes s ys fun r H'=>K (some (.v r)) none H'))
   | _,_=>False)
 | .appZ pu esz bytes z s n =>
  (match evV E F s,yfW E F n with
   | some .nils,some k=>asr (decide (0≤k)) (cbr (decide (k.toNat=0)) (wv H K .nils) (yui H pu esz bytes (List.replicate k.toNat z) fun r H'=>K (some (.v r)) none H'))
   | _,_=>False)
 | .eqN neg x =>
  (match evV E F x with
   | some .nils=>wv H K (.bool (bif neg then false else true))
   | some (.mt b)=>wv H K (.bool (bif neg then !b else b))
   | some (.data rows)=>asr (!rows.isEmpty) (wv H K (.bool neg))
   | some (.own _ _ _ _ _)=>wv H K (.bool neg)
   | _=>False)
 | .clr pu esz z x =>
  (match evV E F x with
   | some .nils=>wv H K (.tup [])
   | some .emp=>wv H K (.tup [])
   | some (.mt _)=>wv H K (.tup [])
   | some (.own id lo len ext _)=>(match H[id]? with
    | some b=>cbr (decide (len=0)) (wv H K (.tup [])) (asr (decide (b.rows.length=ext)) (asr (decide (lo+len≤ext)) (asr (!b.fz) (asr (b.pu == pu) (asr (Nat.beq b.esz esz) (K (some (.v (.tup []))) none (H.set id { b with rows:=b.rows.take lo++(List.replicate len z++b.rows.drop (lo+len)) })))))))
    | none=>False)
   | _=>False)
 | .boxH pu esz x =>
  (match evV E F x with
   | some p=>yxy pu H p fun q H'=>asr (Nat.beq q.cells.length esz&&ycW q.cells) (K (some (.v (.ptr H'.length 1 0 0))) none (H'++[⟨false,pu,esz,[q]⟩]))
   | none=>False)
 | .bSl pu esz z len parts =>
  (match len with
   | 0=>wv H K .emp
   | len+1=>yz0 E F pu esz (List.replicate (len+1) z) H parts fun rows H'=>K (some (.v (.own H'.length 0 (len+1) (len+1) (some (len+1))))) none (H'++[⟨false,pu,esz,rows⟩]))
 | .buildN pu esz z len parts =>
  (match len with
   | 0=>wv H K .emp
   | len+1=>yz0 E F pu esz (List.replicate (len+1) z) H parts fun rows H'=>K (some (.v (.own H'.length 0 (len+1) (len+1) none))) none (H'++[⟨false,pu,esz,rows⟩]))
 | .bD esz z len parts =>
  (match len with
   | 0=>wv H K .emp
   | len+1=>yz0 E F true esz (List.replicate (len+1) z) H parts fun rows H'=>K (some (.v (.data rows))) none H')
 | .mvD x =>
  (match evV E F x with
   | some p=>yDd H p fun q H'=>(match q with | .data rows=>K (some (.v (.data rows))) none H' | _=>False)
   | none=>False)
 | .call f args =>
  (match evV E F f,evs E F args with
   | some g,some vs=>callK g vs H fun r H'=>K (some (.v r)) none H'
   | _,_=>False)
 | o=>(match yas E yxw F H o with | some ⟨x,bx,H'⟩=>K x bx H' | none=>False)
def frep:Frm→Nat→FV→Frm
 | [],_,_=>[]
 | (k,y)::r,s,x=>bif Nat.beq k s then (k,x)::r else (k,y)::frep r s x
def yAZ (F:Frm) (g:Option (Nat×Bool)) (yes no:Frm→Prop):Prop :=
 match g with
 | none=>yes F
 | some (s,want)=>(match fget F s with
  | some (.v (.bool b))=>(match want with
   | true=>cbr b (yes (frep F s (.v (.bool true)))) (no (frep F s (.v (.bool false))))
   | false=>cbr b (no (frep F s (.v (.bool true)))) (yes (frep F s (.v (.bool false)))))
  | some (.v (.tup []))=>no F
  | _=>False)
def fref (F:Frm) (c:Opd) (b:Bool):Frm :=
 match c with
 | .t s=>frep F s (.v (.bool b))
 | _=>F
def ypI (F:Frm):Option Nat→Frm
 | some d=>fset F d (.v (.tup []))
 | none=>F
def frcP (p:PV) (K:PV→Prop):Prop :=
 match p with
 | .bool b=>K (.bool b)
 | .int k n=>K (.int k n)
 | .agg cs=>K (.agg cs)
 | .data r=>K (.data r)
 | .own a b c d e=>K (.own a b c d e)
 | .ptr a b c d=>K (.ptr a b c d)
 | .sub a b c d e f=>K (.sub a b c d e f)
 | p=>K p
def frcL:List PV→(List PV→Prop)→Prop
 | [],K=>K []
 | x::r,K=>frcP x fun x=>frcL r fun r=>K (x::r)
def frcA (p:PV) (K:PV→Prop):Prop :=
 match p with
 | .agg cs=>frcL cs fun cs=>K (.agg cs)
 | .tup cs=>frcL cs fun cs=>K (.tup cs)
 | p=>frcP p K
def frcV (x:FV) (K:FV→Prop):Prop :=
 match x with
 | .v p=>frcA p fun p=>K (.v p)
 | .box p=>frcA p fun p=>K (.box p)
 | .bp s o=>K (.bp s o)
def frcF:Frm→(Frm→Prop)→Prop
 | [],K=>K []
 | (k,x)::r,K=>frcV x fun x=>frcF r fun r=>K ((k,x)::r)
def frcB (b:Bool) (K:Bool→Prop):Prop:=match b with | true=>K true | false=>K false
def frcH:Hp→(Hp→Prop)→Prop
 | [],K=>K []
 | ⟨fz,pu,esz,rows⟩::r,K=>frcB fz fun fz=>frcB pu fun pu=>frcH r fun r=>K (⟨fz,pu,esz,rows⟩::r)
theorem yF3 (p:PV) (K:PV→Prop):frcP p K=K p:=by cases p <;> rfl
theorem yF4:∀ (l:List PV) (K:List PV→Prop),frcL l K=K l
 | [],_=>rfl
 | x::r,K=>by simp only [frcL,yF3,yF4 r]
theorem yJ3 (p:PV) (K:PV→Prop):frcA p K=K p:=by cases p <;> simp only [frcA,yF4,yF3]
theorem yJ4 (x:FV) (K:FV→Prop):frcV x K=K x:=by cases x <;> simp only [frcV,yJ3]
theorem yF5:∀ (F:Frm) (K:Frm→Prop),frcF F K=K F
 | [],_=>rfl
 | (k,x)::r,K=>by simp only [frcF,yJ4,yF5 r]
theorem yJ5 (b:Bool) (K:Bool→Prop):frcB b K=K b:=by cases b <;> rfl
theorem yF6:∀ (H:Hp) (K:Hp→Prop),frcH H K=K H
 | [],_=>rfl
 | ⟨fz,pu,esz,rows⟩::r,K=>by simp only [frcH,yJ5,yF6 r]
def frc (F:Frm) (H:Hp) (K:Frm→Hp→Prop):Prop:=frcF F fun F=>frcH H fun H=>K F H
theorem yA0 (F:Frm) (H:Hp) (K:Frm→Hp→Prop):frc F H K=K F H:=by simp only [frc,yF5,yF6]
def WOps (E:Env) (callK:CK) (an:List An):List AO→Nat→Frm→Hp→(Frm→Hp→Prop)→Prop
 | [],_,F,H,K=>K F H
 | o::r,i,F,H,K =>
  yAZ F o.guard
   (fun F=>WOp E callK (anOf an i) F H o.op fun x bx H'=>match ydg (yeJ F bx) o.dst x with
    | none=>False
    | some F'=>frc F' H' fun F' H'=>WOps E callK an r (i+1) F' H' K)
   (fun F=>WOps E callK an r (i+1) (ypI F o.dst) H K)
def yIz (E:Env) (F:Frm) (f:Opd) (az:List Opd):Option (List Nat) :=
 match evV E F f,evs E F az with
 | some g,some vs=>(match yqo E g vs with
  | some x=>some (x.id::idsA (x.all.set x.j (.int .i64 0)))
  | none=>(match g with
   | .fn (.func n) first captured=>bif E.qui n then some (idsA (first++vs++captured)) else none
   | _=>none))
 | _,_=>none
def yvu (E:Env) (F:Frm) (H:Hp) (o:AOp):FP :=
 match o with
 | .call f az=>bif yev E F f az then fpOp E F H (.call f az) else (match yIz E F f az with | some l=>⟨f.slots++yn5 az,[],List.range H.length,l,true,false⟩ | none=>fpOp E F H (.call f az))
 | o=>fpOp E F H o
def yF7 (E:Env) (F:Frm) (H:Hp) (o:AO):FP :=
 let p:=yvu E F H o.op;⟨yt7 o.guard++p.rd,o.dst.toList++p.wr,p.hr,p.hw,p.push,p.all⟩
def fpNo (o:AO):FP:=⟨yt7 o.guard,o.dst.toList,[],[],false,false⟩
def WFps (E:Env) (callK:CK) (an:List An) (F0:Frm) (l0:List AO) (pairs:List (Nat×Nat)):List AO→Nat→Frm→Hp→List FP→(Frm→Hp→Prop)→Prop
 | [],_,F,H,ps,K=>asr (yjg ps.reverse pairs&&ypy F0 l0 l0) (K F H)
 | o::r,i,F,H,ps,K =>
  yAZ F o.guard
   (fun F=>WOp E callK (anOf an i) F H o.op fun x bx H'=>match ygN (yeJ F bx) o.dst x with
    | none=>False
    | some F'=>frc F' H' fun F' H'=>WFps E callK an F0 l0 pairs r (i+1) F' H' (yF7 E F H o::ps) K)
   (fun F=>WFps E callK an F0 l0 pairs r (i+1) (ypI F o.dst) H (fpNo o::ps) K)
abbrev LP:=Nat→Frm→Frm→Hp→(Ex→Frm→Hp→Prop)→Prop
abbrev YK:=List PV→Hp→(Option Nat→Hp→Prop)→Prop
def noYK:YK:=fun _ _ _=>False
def WC (E:Env) (callK:CK) (lp:LP):Frm→YK→TC→Frm→Hp→(Ex→Frm→Hp→Prop)→Prop
 | _,_,.skip,F,H,Q=>Q .norm F H
 | _,_,.ops l an [] fg,F,H,Q=>WOps E callK an l 0 F H fun F' H'=>frc (fdels F' fg) H' fun F' H'=>Q .norm F' H'
 | _,_,.ops l an (p::ps) fg,F,H,Q=>WFps E callK an (ylZ F l) l (p::ps) l 0 (ylZ F l) H [] fun F' H'=>frc (fdels F' fg) H' fun F' H'=>Q .norm F' H'
 | G,yk,.seq a b,F,H,Q=>WC E callK lp G yk a F H fun x F' H'=>match x with
  | .norm=>WC E callK lp G yk b F' H' Q
  | .exit i=>Q (.exit i) F' H'
  | .ret=>Q .ret F' H'
  | .brk k i=>Q (.brk k i) F' H'
 | G,yk,.cond c a b,F,H,Q=>(match evV E F c with
  | some (.bool t)=>cbr t (WC E callK lp G yk a (fref F c true) H Q) (WC E callK lp G yk b (fref F c false) H Q)
  | _=>False)
 | G,yk,.block id b,F,H,Q=>WC E callK lp G yk b F H fun x F' H'=>match x with
  | .norm=>Q .norm F' H'
  | .exit i=>(bif Nat.beq i id then Q .norm F' H' else Q (.exit i) F' H')
  | .ret=>Q .ret F' H'
  | .brk k i=>Q (.brk k i) F' H'
 | G,_,.loop id _,F,H,Q=>lp id G F H Q
 | G,_,.lG id _,F,H,Q=>lp id G F H Q
 | G,_,.join id _,F,H,Q=>lp id G F H Q
 | _,_,.exit id,F,H,Q=>Q (.exit id) F H
 | _,_,.ret,F,H,Q=>Q .ret F H
 | _,_,.bad,_,_,_=>False
 | _,_,.cut _,_,_,_=>False
 | _,_,.rangeF _ _ _ _ _ _ _,_,_,_=>False
 | _,_,.yret _ _ _ _ _ _ _,_,_,_=>False
abbrev Qx:Type:=Ex→Frm→Hp→Prop
abbrev exQ (R:Frm→Hp→Prop) (Q:Qx):Qx:=fun x F' H'=>match x with | .norm=>R F' H' | .exit i=>Q (.exit i) F' H' | .ret=>Q .ret F' H' | .brk k i=>Q (.brk k i) F' H'
def WFn (E:Env) (callK:CK) (lp:LP) (fn:TFn) (args:List PV) (H:Hp) (K:PV→Hp→Prop):Prop :=
 asr (decide (args.length=fn.nparams)) (WC E callK lp [] noYK fn.body (yim 0 args) H fun x F' H'=>match x with
  | .exit _ | .brk _ _=>False
  | .norm | .ret=>(match yhz F' H' fn.results with | some ps=>K (yhA ps) H' | none=>False))
structure SE where
 E:Env
 sumK:Nat→Option (List PV→(PV→Prop)→Prop)
 inl:Nat→Option TFn
 lp:LP
 sumL:Nat→Option (List PV→HB→(PV→List PV→Prop)→Prop)
def yA1 (H:Hp) (x:PV) (K:PV→Hp→Prop):Prop :=
 match x with
 | .tup ps=>yxx H ps fun qs H'=>K (.tup qs) H'
 | x=>yqz H x K
def WLoc (wp:List PV→HB→(PV→List PV→Prop)→Prop) (x:LocC) (H:Hp) (K:PV→Hp→Prop):Prop :=
 yxx H (x.all.set x.j (.int .i64 0)) fun az H'=>match H'[x.id]? with
  | some b=>asr (!b.fz&&b.pu) (wp (az.set x.j x.y) b fun q rows=>K q (H'.set x.id { b with rows:=rows }))
  | none=>False
def yqA (S:SE):Nat→CK
 | 0,_,_,_,_=>False
 | d+1,f,args,H,K =>
  match f with
  | .fn (.func n) first captured =>
   (match yqo S.E f args with
   | some x=>(match S.sumL x.n with | some wp=>WLoc wp x H K | none=>False)
   | none =>
   match S.sumK n with
    | some wp=>(bif S.E.rb n then yAY (iceH H) (first++args++captured) fun az=>wp az fun r=>asr r.scalar (K r H)
     else yxx H (first++args++captured) fun az H'=>wp az fun r=>K r (bif r.scalar then H else H'))
    | none=>(match S.inl n with
     | some fn=>(bif S.E.rb n then False else WFn S.E (yqA S d) S.lp fn (first++args++captured) H K)
     | none=>(match S.E.eff n (first++args++captured) H with
      | some (c,t,x,y)=>asr c (cbr t (K x.1 x.2) (K y.1 y.2))
      | none=>False)))
  | _=>False
@[irreducible] def WPL (S:SE) (d:Nat) (fn:TFn) (args:List PV) (b:HB) (K:PV→List PV→Prop):Prop :=
 WFn S.E (yqA S d) S.lp fn args [b] fun r H=>yA1 H r fun q H'=>match H'[0]? with
  | some b2=>asr (!b2.fz&&decide (b2.rows.length=b.rows.length)) (K q b2.rows)
  | none=>False
@[irreducible] def WP (S:SE) (d:Nat) (fn:TFn) (args:List PV) (K:PV→Prop):Prop :=
 WFn S.E (yqA S d) S.lp fn args [] fun r H=>yF1 H r K
abbrev EP:=Nat→Env→Prop
def Like (E e:Env):Prop:=e={ E with yn:=e.yn,ctx:=e.ctx,yl:=e.yl }
def Uni (E:Env):EP:=fun _ e=>Like E e
def Solo (E:Env):EP:=fun _ e=>e=E
def Ats (E:Env):EP:=fun _ e=>e=E.ats (E.yn+1)
def Sub (P:EP) (E:Env):Prop:=∀ n e,P n e→Like E e
theorem Sub.uni (E:Env):Sub (Uni E) E:=fun _ _ h=>h
def hnd (E:Env) (G:Frm) (ps:List Nat) (az bd:AC) (n:Nat):Nat→List PV→Hp→Option (Option Nat×Hp):=fun y vs H=>(match yKy G ps vs with
 | some F1=>(match exec (E.ats y) n az F1 H with
  | some (.norm,F2,H2)=>(match exec (E.ats y) n bd F2 H2 with
   | some (.norm,_,H3)=>some (none,H3)
   | some (.exit i,_,H3)=>some (some i,H3)
   | _=>none)
  | _=>none)
 | none=>none)
def Rng (E:Env) (G:Frm) (ps:List Nat) (az bd:AC):EP:=fun n e=>e=E.push ⟨G,ps,az,bd⟩ (hnd E G ps az bd n)
def Good (P:EP) (callK:CK):Prop :=
 ∀ f args H K,callK f args H K→∃ r H',K r H'∧∃ m0,∀ n e m,m0≤n→P n e→m0≤m→yj7 e (ybE e m) f args H=some (r,H')
section
variable {E:Env} {y:Nat} {cx:Nat→Option LCtx} {yl:Nat→Nat→List PV→Hp→Option (Option Nat×Hp)}
theorem ywG (F:Frm) (x:Opd):ev { E with yn:=y,ctx:=cx,yl:=yl } F x=ev E F x:=by cases x <;> rfl
theorem ygS (F:Frm) (x:Opd):evV { E with yn:=y,ctx:=cx,yl:=yl } F x=evV E F x:=by simp only [evV,ywG]
theorem yod (F:Frm):∀ l:List Opd,evs { E with yn:=y,ctx:=cx,yl:=yl } F l=evs E F l
 | []=>rfl
 | x::r=>by simp only [evs,ygS,yod F r]
theorem yxz (F:Frm) (x:Opd):yfW { E with yn:=y,ctx:=cx,yl:=yl } F x=yfW E F x:=by simp only [yfW,ygS]
theorem yIA (F:Frm) (x:Option Opd):evO { E with yn:=y,ctx:=cx,yl:=yl } F x=evO E F x:=by cases x <;> simp only [evO,yxz]
theorem yxA (F:Frm):∀ (l:List (Nat×Nat×Opd)) (cs:List PV),yj6 { E with yn:=y,ctx:=cx,yl:=yl } F cs l=yj6 E F cs l
 | [],_=>rfl
 | (_,_,x)::r,cs=>by simp only [yj6,ygS,yxA F r]
theorem yxB (F:Frm) (pu:Bool) (esz:Nat):∀ (l:List (Nat×Opd)) (rows:List PV) (H:Hp),ygM { E with yn:=y,ctx:=cx,yl:=yl } F pu esz rows H l=ygM E F pu esz rows H l
 | [],_,_=>rfl
 | (_,x)::r,rows,H=>by simp only [ygM,ygS,yxB F pu esz r]
theorem yvv (F:Frm) (x:Opd):ydO { E with yn:=y,ctx:=cx,yl:=yl } F x=ydO E F x:=by simp only [ydO,ywG]
theorem yEH (F:Frm) (x:Opd):ynl { E with yn:=y,ctx:=cx,yl:=yl } F x=ynl E F x:=by simp only [ynl,ywG]
theorem yqB (F:Frm):∀ l:List (Nat×Opd),ycU { E with yn:=y,ctx:=cx,yl:=yl } F l=ycU E F l
 | []=>rfl
 | (_,x)::r=>by simp only [ycU,yvv,yqB F r]
theorem yxC (F:Frm) (f:Opd) (az:List Opd):yev { E with yn:=y,ctx:=cx,yl:=yl } F f az=yev E F f az:=by simp only [yev,ygS,yod]
theorem yHd (F:Frm) (H:Hp) (o:AOp):fpOp { E with yn:=y,ctx:=cx,yl:=yl } F H o=fpOp E F H o:=by
 cases o <;> simp only [fpOp,yvv,yEH,yqB,yxC]
theorem yEI {F:Frm} {H:Hp} {o:AOp} (h:yhE o=false) (c1 c2:Nat→List PV→Hp→Option (PV×Hp)):yas { E with yn:=y,ctx:=cx,yl:=yl } c1 F H o=yas E c2 F H o:=by
 cases o <;> first | (simp [yhE] at h;done) | simp only [yas,ywG,ygS,yod,yxz,yIA,yxA,yxB]
end
def yF8 (E:Env) (F:Frm) (H:Hp) (o:AOp) (K:OK):Prop :=
 ∃ out:Out,K out.x out.bx out.h∧∃ m0,∀ m,m0≤m→yas E (ybE E m) F H o=some out
def yK7 (P:EP) (F:Frm) (H:Hp) (o:AOp) (K:OK):Prop :=
 ∃ out:Out,K out.x out.bx out.h∧∃ m0,∀ n e m,m0≤n→P n e→m0≤m→yas e (ybE e m) F H o=some out
section
variable {E:Env} {callK:CK} {F:Frm} {H:Hp} {K:OK}
theorem yDf {o:AOp} (h:yhE o=false) (c1 c2:Nat→List PV→Hp→Option (PV×Hp)):yas E c1 F H o=yas E c2 F H o:=by
 cases o <;> first | rfl | simp [yhE] at h
theorem yxD {o:AOp} (hc:yhE o=false) (h:match yas E yxw F H o with | some ⟨x,bx,H'⟩=>K x bx H' | none=>False):yF8 E F H o K:=by
 split at h
 ·rename_i x bx H' he
  exact ⟨⟨x,bx,H'⟩,h,0,fun m _=>by rw [yDf hc (ybE E m) yxw,he]⟩
 ·exact h.elim
theorem yxE {H:Hp} {x:PV} {K:PV→Hp→Prop} (h:yDd H x K):∃ y H',K y H'∧yeI H x=some (y,H'):=by
 unfold yDd at h
 split at h
 ·exact ⟨_,_,h,rfl⟩
 ·exact ⟨_,_,h,rfl⟩
 ·exact ⟨_,_,h,rfl⟩
 ·exact ⟨_,_,h,rfl⟩
 ·exact ⟨_,_,h,rfl⟩
 ·split at h
  ·rename_i b hb
   obtain ⟨h1,h⟩:=yaB.1 h
   obtain ⟨h2,h⟩:=yaB.1 h
   obtain ⟨h3,h⟩:=yaB.1 h
   exact ⟨_,_,h,by simp only [yeI,hb];rw [if_pos ⟨by simpa using h1,by simpa using h2,h3⟩]⟩
  ·exact h.elim
 ·exact h.elim
theorem yDg:∀ (l:List PV) (H:Hp) (K:List PV→Hp→Prop),yF0 H l K→∃ ys H',K ys H'∧ydJ H l=some (ys,H')
 | [],H,K,h=>⟨_,_,h,rfl⟩
 | x::r,H,K,h=>by
  simp only [yF0] at h
  obtain ⟨y,H1,h,e1⟩:=yxE h
  obtain ⟨ys,H2,h,e2⟩:=yDg r H1 _ h
  exact ⟨_,_,h,by simp only [ydJ,e1,e2]⟩
theorem ylq {H:Hp} {x:PV} {K:PV→Hp→Prop} (h:yqz H x K):∃ y H',K y H'∧ybM H x=some (y,H'):=by
 cases x with
 | agg cs =>
  simp only [yqz] at h
  obtain ⟨ys,H',h,e⟩:=yDg cs H _ h
  exact ⟨_,_,h,by simp only [ybM,e,Option.map]⟩
 | _ =>
  simp only [yqz] at h
  obtain ⟨y,H',h,e⟩:=yxE h
  exact ⟨_,_,h,by simp only [ybM,e]⟩
theorem yoe:∀ (l:List PV) (H:Hp) (K:List PV→Hp→Prop),yxx H l K→∃ ys H',K ys H'∧ya7 H l=some (ys,H')
 | [],H,K,h=>⟨_,_,h,rfl⟩
 | x::r,H,K,h=>by
  simp only [yxx] at h
  obtain ⟨y,H1,h,e1⟩:=ylq h
  obtain ⟨ys,H2,h,e2⟩:=yoe r H1 _ h
  exact ⟨_,_,h,by simp only [ya7,e1,e2]⟩
theorem yIB {H:Hp} {x:PV} {K:PV→Prop} (h:yF2 H x K):∃ y,K y∧purP H x=some y:=by
 have base:∀ {x:PV},yqz H x (fun q _=>K q)→∃ y,K y∧(match ybM H x with | some (q,_)=>some q | none=>none)=some y:=fun h=>by
  obtain ⟨y,H',h,e⟩:=ylq h
  exact ⟨y,h,by simp only [e]⟩
 cases x with
 | ptr id ext i off =>
  simp only [yF2] at h
  split at h
  ·rename_i b hb
   obtain ⟨h1,h⟩:=yaB.1 h
   split at h
   ·rename_i row hrow
    obtain ⟨y,H',h,e⟩:=ylq h
    exact ⟨_,h,by simp only [purP,hb,hrow,e];rw [if_pos (by simpa using h1)]⟩
   ·exact h.elim
  ·exact h.elim
 | eptr rows i off=>exact ⟨_,h,rfl⟩
 | _=>simp only [yF2] at h;exact base h
theorem yz1 {H:Hp}:∀ (l:List PV) (K:List PV→Prop),yAY H l K→∃ ys,K ys∧ywT H l=some ys
 | [],K,h=>⟨_,h,rfl⟩
 | x::r,K,h=>by
  simp only [yAY] at h
  obtain ⟨y,h,e1⟩:=yIB h
  obtain ⟨ys,h,e2⟩:=yz1 r _ h
  exact ⟨_,h,by simp only [ywT,e1,e2]⟩
theorem yIC {H:Hp} {x:PV} {K:PV→Prop} (h:yF1 H x K):∃ q,K q∧purR H x=some q:=by
 cases x with
 | tup ps =>
  simp only [yF1] at h
  obtain ⟨ys,H',h,e⟩:=yoe ps H _ h
  exact ⟨_,h,by simp only [purR,e]⟩
 | _ =>
  simp only [yF1] at h
  obtain ⟨y,H',h,e⟩:=ylq h
  exact ⟨_,h,by simp only [purR,e]⟩
theorem yuj {pu:Bool} {H:Hp} {x:PV} {K:PV→Hp→Prop} (h:yxy pu H x K):∃ y H',K y H'∧(if pu then ybM H x else some (x,H))=some (y,H'):=by
 cases pu with
 | true=>simp only [yxy] at h;obtain ⟨y,H',h,e⟩:=ylq h;exact ⟨y,H',h,by simpa using e⟩
 | false=>exact ⟨_,_,h,by simp⟩
theorem ysO {pu:Bool} {esz:Nat}:∀ (l:List (Nat×Opd)) (rows:List PV) (H:Hp) (K:List PV→Hp→Prop),yz0 E F pu esz rows H l K →
  ∃ rows' H',K rows' H'∧ygM E F pu esz rows H l=some (rows',H')
 | [],rows,H,K,h=>⟨_,_,h,rfl⟩
 | (i,x)::r,rows,H,K,h=>by
  simp only [yz0] at h
  split at h
  ·rename_i p hp
   obtain ⟨q,H',h,e⟩:=yuj h
   obtain ⟨h1,h⟩:=yaB.1 h
   simp only [qAc] at h1
   obtain ⟨rows',H2,h,e2⟩:=ysO r _ H' K h
   refine ⟨rows',H2,h,?_⟩
   simp only [ygM,hp,e]
   rw [if_pos ⟨qAf h1.1.1,(show i+1≤rows.length from qB9 h1.1.2),h1.2⟩]
   exact e2
  ·exact h.elim
theorem yJ6 {op:BinOp} {k k':IntKind} {a b:Int} {K:PV→Prop} (h:WBin op k k' a b K):∃ r,K r∧binV op (.int k a) (.int k' b)=some r:=by
 cases op <;> simp only [WBin] at h
 case quo =>
  obtain ⟨h1,h2⟩:=yaB.1 h
  obtain ⟨h3,h4⟩:=yaB.1 h2
  have e1:k=k':=by simpa using h1
  have e2:¬b=0:=by simpa using h3
  exact ⟨_,h4,by simp [binV,e1,binI,e2]⟩
 case rem =>
  obtain ⟨h1,h2⟩:=yaB.1 h
  obtain ⟨h3,h4⟩:=yaB.1 h2
  have e1:k=k':=by simpa using h1
  have e2:¬b=0:=by simpa using h3
  exact ⟨_,h4,by simp [binV,e1,binI,e2]⟩
 case shl =>
  obtain ⟨h1,h2⟩:=yaB.1 h
  have e1:¬b<0:=by simpa using h1
  exact ⟨_,h2,by simp only [binV,yt4,e1,if_false]⟩
 case shr =>
  obtain ⟨h1,h2⟩:=yaB.1 h
  have e1:¬b<0:=by simpa using h1
  exact ⟨_,h2,by simp only [binV,yt4,e1,if_false]⟩
 all_goals
  obtain ⟨h1,h2⟩:=yaB.1 h
  have e1:k=k':=by simpa using h1
  split at h2
  ·rename_i r hr
   exact ⟨r,h2,by simp only [binV,e1,if_true];rw [← e1];exact hr⟩
  ·exact h2.elim
theorem yjc {n:Nat} {j:Int} {K:Nat→Prop}:∀ m,m≤n→yoc n j K m→∃ k:Nat,K k∧j=(k:Int)∧k<n
 | 0,_,h=>h.elim
 | m+1,hm,h=>by
  simp only [yoc] at h
  obtain ⟨h1,h2⟩:=yfq.1 h
  by_cases hj:j=((n-(m+1):Nat):Int)
  ·exact ⟨_,h1 (by simpa using hj),hj,by omega⟩
  ·exact yjc m (by omega) (h2 (by simpa using hj))
theorem yz2:∀ (cs:List PV) (i:Nat),yDe cs=true→i<cs.length→cs[i]?=some (.int .u8 (yaa (cs.getD i .nils)))
 | [],i,_,h=>by simp at h
 | x::r,i,hu,hi=>by
  cases x with
  | int k n =>
   cases k <;> simp only [yDe,qAo] at hu
   cases i with
   | zero=>simp [yaa]
   | succ i=>have:=yz2 r i hu (by simpa using hi);simpa using this
  | _=>simp [yDe] at hu
theorem yID {x:PV} {K:List PV→Prop} (h:yIw H x K):∃ ys,K ys∧ygc H x=some ys:=by
 unfold yIw at h
 split at h
 ·exact ⟨_,h,rfl⟩
 ·exact ⟨_,h,rfl⟩
 ·exact ⟨_,h,rfl⟩
 ·split at h
  ·rename_i b hb
   obtain ⟨h1,h2⟩:=yaB.1 h
   obtain ⟨h3,h4⟩:=yaB.1 h2
   exact ⟨_,h4,by simp only [ygc,hb];rw [if_pos ⟨by simpa using h1,by simpa using h3⟩]⟩
  ·exact h.elim
 ·exact h.elim
theorem ypJ {pu:Bool} {esz bytes:Nat} {rows:List PV} {K:PV→Hp→Prop} (h:yui H pu esz bytes rows K):∃ r H',K r H'∧ycx H pu esz bytes rows=some (r,H'):=by
 obtain ⟨h1,h2⟩:=yaB.1 h
 exact ⟨_,_,h2,by simp only [ycx];rw [if_pos (by simpa using h1)]⟩
def appS (H:Hp) (pu:Bool) (esz bytes:Nat) (ys:List PV):PV→Option (PV×Hp)
 | .nils=>if ys.isEmpty then some (.nils,H) else ycx H pu esz bytes ys
 | .emp=>if ys.isEmpty then some (.emp,H) else ycx H pu esz bytes ys
 | .own id lo len ext cap =>
  (match H[id]? with
   | some b=>if b.rows.length=ext∧b.pu=pu∧b.esz=esz∧lo+len≤ext then
    (if ys.isEmpty then some (.own id lo len ext cap,H) else yfK H pu esz bytes ys id lo len ext cap b) else none
   | none=>none)
 | _=>none
theorem yJ7 {md:Nat} {pu:Bool} {esz bytes:Nat} {s x:PV} {ys:List PV} {K:PV→Hp→Prop} (hy:ygc H x=some ys) (hh:ydC esz ys=true) (hs:ynk H pu x=true) (h:WApp md H pu esz bytes s ys K) :
  ∃ r H',K r H'∧appV H pu esz bytes s x=some (r,H'):=by
 have e0:appV H pu esz bytes s x=appS H pu esz bytes ys s:=by
  simp only [appV,hy];rw [if_pos ⟨hh,hs⟩];cases s <;> rfl
 rw [e0]
 clear e0 hy hs
 unfold WApp at h
 split at h
 ·obtain ⟨h1,h2⟩:=yfq.1 h
  cases hE:ys.isEmpty with
  | true=>exact ⟨_,_,h1 hE,by simp [appS,hE]⟩
  | false =>
   obtain ⟨r,H',hk,hf⟩:=ypJ (h2 hE)
   exact ⟨r,H',hk,by simp [appS,hE,hf]⟩
 ·obtain ⟨h1,h2⟩:=yfq.1 h
  cases hE:ys.isEmpty with
  | true=>exact ⟨_,_,h1 hE,by simp [appS,hE]⟩
  | false =>
   obtain ⟨r,H',hk,hf⟩:=ypJ (h2 hE)
   exact ⟨r,H',hk,by simp [appS,hE,hf]⟩
 ·rename_i id lo len ext cap
  split at h
  ·rename_i b hb
   obtain ⟨h1,h⟩:=yaB.1 h
   obtain ⟨h2,h⟩:=yaB.1 h
   obtain ⟨h3,h⟩:=yaB.1 h
   simp only [qAc,decide_eq_true_eq] at h1 h2 h3
   obtain ⟨k1,k2⟩:=yfq.1 h
   have hc:b.rows.length=ext∧b.pu=pu∧b.esz=esz∧lo+len≤ext:=⟨h1,h2.1,h2.2,h3⟩
   cases hE:ys.isEmpty with
   | true=>exact ⟨_,_,k1 hE,by simp only [appS,hb];rw [if_pos hc];simp [hE]⟩
   | false =>
    have h:=k2 hE
    suffices ∃ r H',K r H'∧yfK H pu esz bytes ys id lo len ext cap b=some (r,H') by
     obtain ⟨r,H',hk,hf⟩:=this
     exact ⟨r,H',hk,by simp only [appS,hb];rw [if_pos hc];simp [hE,hf]⟩
    cases cap with
    | some c =>
     simp only at h
     have key1:decide (len+ys.length≤c)=true→asr (!b.fz) (K (.own id lo (len+ys.length) ext (some c)) (H.set id { b with rows:=b.rows.take (lo+len)++(ys++b.rows.drop (lo+len+ys.length)) })) →
       ∃ r H',K r H'∧yfK H pu esz bytes ys id lo len ext (some c) b=some (r,H'):=by
      intro e1 e2
      obtain ⟨e3,e4⟩:=yaB.1 e2
      refine ⟨_,_,e4,?_⟩
      simp only [yfK]
      rw [if_pos (by simpa using e1),if_pos (by simpa using e3)]
     have key2:decide (len+ys.length≤c)=false→yui H pu esz bytes ((b.rows.drop lo).take len++ys) K →
       ∃ r H',K r H'∧yfK H pu esz bytes ys id lo len ext (some c) b=some (r,H'):=by
      intro e1 e2
      obtain ⟨r,H',hk,hf⟩:=ypJ e2
      refine ⟨r,H',hk,?_⟩
      simp only [yfK]
      rw [if_neg (by simpa using e1)]
      exact hf
     split at h
     ·obtain ⟨a1,a2⟩:=yfq.1 h
      cases hd:decide (len+ys.length≤c) with
      | true=>exact key1 hd (a1 hd)
      | false=>exact key2 hd (a2 hd)
     ·obtain ⟨a1,a2⟩:=yfq.1 h
      cases hd:decide (len+ys.length≤c) with
      | true=>exact key1 hd (a1 hd)
      | false=>exact key2 hd (a2 hd)
     ·obtain ⟨a1,a2⟩:=yaB.1 h;exact key2 (by simpa using a1) a2
     ·obtain ⟨a1,a2⟩:=yaB.1 h;exact key1 a1 a2
    | none =>
     simp only at h
     obtain ⟨hfz,h⟩:=yaB.1 h
     have hfz':¬b.fz=true:=by simpa using hfz
     have key1:decide (lo+len+ys.length≤ext)=true→K (.own id lo (len+ys.length) ext none) (H.set id { b with rows:=b.rows.take (lo+len)++(ys++b.rows.drop (lo+len+ys.length)) }) →
       ∃ r H',K r H'∧yfK H pu esz bytes ys id lo len ext none b=some (r,H'):=by
      intro e1 e2
      refine ⟨_,_,e2,?_⟩
      simp only [yfK]
      rw [if_neg hfz',if_pos (by simpa using e1)]
     have key3:decide (lo+len+ys.length≤ext)=false→asr (decide (lo=0)) (asr (decide (len=ext)) (asr (decide ((ext+ys.length+64)*(bytes+1)≤room))
        (K (.own id 0 (b.rows++ys).length (b.rows++ys).length none) (H.set id { b with rows:=b.rows++ys })))) →
       ∃ r H',K r H'∧yfK H pu esz bytes ys id lo len ext none b=some (r,H'):=by
      intro e1 e2
      obtain ⟨e3,e2⟩:=yaB.1 e2
      obtain ⟨e4,e2⟩:=yaB.1 e2
      obtain ⟨e5,e2⟩:=yaB.1 e2
      simp only [decide_eq_true_eq] at e3 e4 e5
      refine ⟨_,_,e2,?_⟩
      simp only [yfK]
      rw [if_neg hfz',if_neg (by simpa using e1),if_pos ⟨e3,by omega,by rw [e4];exact e5⟩]
      have e6:b.rows.take len=b.rows:=qBo (by omega)
      have e7:(b.rows++ys).length=len+ys.length:=by rw [qAh,h1,e4]
      rw [e6,e7]
     have key4:decide (lo+len+ys.length≤ext)=false→asr (decide (lo=0)) (asr (decide (len≤ext)) (asr (decide ((len+ys.length+64)*(bytes+1)≤room))
        (K (.own id 0 (len+ys.length) (len+ys.length) none) (H.set id { b with rows:=b.rows.take len++ys })))) →
       ∃ r H',K r H'∧yfK H pu esz bytes ys id lo len ext none b=some (r,H'):=by
      intro e1 e2
      obtain ⟨e3,e2⟩:=yaB.1 e2
      obtain ⟨e4,e2⟩:=yaB.1 e2
      obtain ⟨e5,e2⟩:=yaB.1 e2
      simp only [decide_eq_true_eq] at e3 e4 e5
      refine ⟨_,_,e2,?_⟩
      simp only [yfK]
      rw [if_neg hfz',if_neg (by simpa using e1),if_pos ⟨e3,e4,e5⟩]
     split at h
     ·obtain ⟨a1,a2⟩:=yfq.1 h
      cases hd:decide (lo+len+ys.length≤ext) with
      | true=>exact key1 hd (a1 hd)
      | false=>exact key3 hd (a2 hd)
     ·obtain ⟨a1,a2⟩:=yfq.1 h
      cases hd:decide (lo+len+ys.length≤ext) with
      | true=>exact key1 hd (a1 hd)
      | false=>exact key4 hd (a2 hd)
     ·obtain ⟨a1,a2⟩:=yaB.1 h;exact key1 a1 a2
     ·obtain ⟨a1,a2⟩:=yaB.1 h;exact key3 (by simpa using a1) a2
  ·exact h.elim
 ·exact h.elim
theorem yHe {esz:Nat} {lo hi mx:Option Int} {x:PV} {K:PV→Prop} (h:yEG H esz lo hi mx x K):∃ r,K r∧yhx H esz lo hi mx x=some r:=by
 unfold yEG at h
 split at h
 ·obtain ⟨h1,h2⟩:=yaB.1 h
  simp only [qAc,decide_eq_true_eq] at h1
  exact ⟨_,h2,by simp only [yhx];rw [if_pos h1]⟩
 ·obtain ⟨h1,h2⟩:=yaB.1 h
  simp only [qAc,decide_eq_true_eq] at h1
  exact ⟨_,h2,by simp only [yhx];rw [if_pos h1]⟩
 ·rename_i rows
  simp only at h
  split at h
  ·obtain ⟨h1,h⟩:=yaB.1 h
   obtain ⟨h2,h⟩:=yaB.1 h
   obtain ⟨h3,h⟩:=yaB.1 h
   obtain ⟨h4,h⟩:=yaB.1 h
   simp only [qB3,decide_eq_true_eq] at h1 h2 h3 h4
   exact ⟨_,h,by simp only [yhx];rw [if_pos ⟨h1,h2,h3,h4⟩]⟩
  ·rename_i m
   obtain ⟨h1,h⟩:=yaB.1 h
   obtain ⟨h2,h⟩:=yaB.1 h
   obtain ⟨h3,h⟩:=yaB.1 h
   obtain ⟨h4,h⟩:=yaB.1 h
   obtain ⟨h5,h⟩:=yaB.1 h
   obtain ⟨k1,k2⟩:=yfq.1 h
   simp only [qB3,decide_eq_true_eq] at h1 h2 h3 h4 h5
   by_cases hl:lo.getD 0=m
   ·exact ⟨_,k1 (by simpa using hl),by simp only [yhx];rw [if_pos ⟨h1,h2,h3,h4,h5⟩,if_pos hl]⟩
   ·exact ⟨_,k2 (by simpa using hl),by simp only [yhx];rw [if_pos ⟨h1,h2,h3,h4,h5⟩,if_neg hl]⟩
 ·rename_i id lo0 len ext cap
  simp only at h
  split at h
  ·rename_i b hb
   obtain ⟨h0,h⟩:=yaB.1 h
   split at h
   ·obtain ⟨h1,h⟩:=yaB.1 h
    obtain ⟨h2,h⟩:=yaB.1 h
    obtain ⟨h3,h⟩:=yaB.1 h
    simp only [qB3,decide_eq_true_eq] at h1 h2 h3
    exact ⟨_,h,by simp only [yhx,hb,h0,Bool.true_eq_false,if_false];rw [if_pos ⟨h1,h2,h3⟩]⟩
   ·obtain ⟨h1,h⟩:=yaB.1 h
    obtain ⟨h2,h⟩:=yaB.1 h
    obtain ⟨h3,h⟩:=yaB.1 h
    obtain ⟨h4,h⟩:=yaB.1 h
    simp only [qB3,decide_eq_true_eq] at h1 h2 h3 h4
    exact ⟨_,h,by simp only [yhx,hb,h0,Bool.true_eq_false,if_false];rw [if_pos ⟨h1,h2,h3,h4⟩]⟩
  ·exact h.elim
 ·exact h.elim
theorem yF9 {sh:Sh} {rows:List PV} {i:Nat} {K:PV→Prop} (h:WRow sh rows i K):∃ r,K r∧rows[i]?=some r:=by
 have key:asr (decide (i<rows.length)) (asr (conf sh (rows.getD i .nils)) (K (expl sh (rows.getD i .nils))))→∃ r,K r∧rows[i]?=some r:=by
  intro h
  obtain ⟨h1,h⟩:=yaB.1 h
  obtain ⟨h2,h⟩:=yaB.1 h
  have hi:i<rows.length:=by simpa using h1
  rw [yzZ _ _ h2] at h
  refine ⟨_,h,?_⟩
  rw [qAd hi,qAb,qAd hi];rfl
 unfold WRow at h
 split at h
 ·split at h
  ·rename_i r hr;exact ⟨r,h,hr⟩
  ·exact h.elim
 ·exact key h
theorem yJ8 {a:An} {o:AOp} (hc:yhE o=false) (h:WOp E callK a F H o K):yF8 E F H o K:=by
 cases o
 case pick c x y =>
  simp only [WOp] at h
  split at h
  ·rename_i t ht
   obtain ⟨h1,h2⟩:=yfq.1 h
   cases t with
   | true =>
    have h:=h1 rfl
    split at h
    ·rename_i p hp;exact ⟨⟨some (.v p),none,H⟩,h,0,fun m _=>by simp only [yas,ht,hp];rfl⟩
    ·exact h.elim
   | false =>
    have h:=h2 rfl
    split at h
    ·rename_i p hp;exact ⟨⟨some (.v p),none,H⟩,h,0,fun m _=>by simp only [yas,ht,hp];rfl⟩
    ·exact h.elim
  ·exact h.elim
 case bin op x y =>
  simp only [WOp] at h
  split at h
  ·rename_i k p k' q hx hy
   obtain ⟨r,hk,hr⟩:=yJ6 h
   exact ⟨⟨some (.v r),none,H⟩,hk,0,fun m _=>by simp only [yas,hx,hy,hr];rfl⟩
  ·exact h.elim
 case eqN neg x =>
  simp only [WOp] at h
  split at h
  ·rename_i hx
   exact ⟨⟨some (.v (.bool (bif neg then false else true))),none,H⟩,h,0,fun m _=>by simp only [yas,hx];cases neg <;> rfl⟩
  ·rename_i b hx
   exact ⟨⟨some (.v (.bool (bif neg then !b else b))),none,H⟩,h,0,fun m _=>by simp only [yas,hx];cases neg <;> rfl⟩
  ·rename_i rows hx
   obtain ⟨h1,h⟩:=yaB.1 h
   cases rows with
   | nil=>simp at h1
   | cons q l=>exact ⟨⟨some (.v (.bool neg)),none,H⟩,h,0,fun m _=>by simp only [yas,hx];cases neg <;> rfl⟩
  ·rename_i hx
   exact ⟨⟨some (.v (.bool neg)),none,H⟩,h,0,fun m _=>by simp only [yas,hx];cases neg <;> rfl⟩
  ·exact h.elim
 case load agg sz x =>
  simp only [WOp] at h
  split at h
  ·rename_i id ext i off hx
   split at h
   ·rename_i b hb
    obtain ⟨h1,h⟩:=yaB.1 h
    obtain ⟨row,h,hr⟩:=yF9 h
    split at h
    ·rename_i p hp
     exact ⟨⟨some (.v p),none,H⟩,h,0,fun m _=>by simp only [yas,hx,hb];rw [if_pos (by simpa using h1)];simp only [hr,hp];rfl⟩
    ·exact h.elim
   ·exact h.elim
  ·exact yxD rfl h
 case store sz x y =>
  simp only [WOp] at h
  split at h
  ·rename_i id ext i off hx
   split at h
   ·rename_i p hp
    split at h
    ·rename_i b0 hb0
     obtain ⟨q,H',h,hq⟩:=yuj h
     split at h
     ·rename_i b hb
      obtain ⟨h1,h⟩:=yaB.1 h
      obtain ⟨h2,h⟩:=yaB.1 h
      obtain ⟨row,h,hr⟩:=yF9 h
      split at h
      ·rename_i row' hrow
       refine ⟨⟨none,none,H'.set id { b with rows:=b.rows.set i row' }⟩,h,0,fun m _=>?_⟩
       have e1:b.rows.length=ext:=by simpa using h1
       have e2:b.fz=false:=by simpa using h2
       simp only [yas,hp,hx,hb0,hq,hb,hr,hrow]
       rw [if_pos ⟨e1,e2⟩]
      ·exact h.elim
     ·exact h.elim
    ·exact h.elim
   ·exact h.elim
  ·exact yxD rfl h
 case iad esz x i =>
  simp only [WOp] at h
  split at h
  ·rename_i rows n hx hi
   obtain ⟨h1,h⟩:=yaB.1 h
   obtain ⟨h2,h⟩:=yaB.1 h
   obtain ⟨h3,h⟩:=yaB.1 h
   obtain ⟨h4,h⟩:=yaB.1 h
   simp only [decide_eq_true_eq] at h1 h2
   rw [yzZ _ _ h3] at h h4
   have hlt:n.toNat<rows.length:=by omega
   have e:rows[n.toNat]?=some (rows.getD n.toNat .nils):=by
    rw [qAd hlt,qAb,qAd hlt];rfl
   refine ⟨⟨_,_,_⟩,h,0,fun m _=>?_⟩
   simp only [yas,hx,hi]
   rw [if_pos ⟨h1,h2⟩]
   simp only [e]
   rw [if_pos (by simpa using h4)]
   rfl
  ·rename_i id lo len ext cap n hx hi
   split at h
   ·rename_i b hb
    obtain ⟨h1,h⟩:=yaB.1 h
    obtain ⟨h2,h⟩:=yaB.1 h
    obtain ⟨h3,h⟩:=yaB.1 h
    simp only [decide_eq_true_eq] at h1 h2 h3
    refine ⟨⟨_,_,_⟩,h,0,fun m _=>?_⟩
    simp only [yas,hx,hi]
    rw [if_pos ⟨h1,h2⟩]
    simp only [hb]
    rw [if_pos h3]
    rfl
   ·exact h.elim
  ·rename_i id ext r off mm e j hx hi
   obtain ⟨h1,h⟩:=yaB.1 h
   have h1:e=esz:=qAf h1
   subst h1
   obtain ⟨k,h',rfl,hk⟩:=yjc mm (qAi _) h
   clear h
   refine ⟨⟨_,_,_⟩,h',0,fun m _=>?_⟩
   simp only [yas,hx,hi]
   rw [if_pos ⟨by omega,by omega,by trivial⟩]
   simp [outV]
  ·exact h.elim
 case iadA n esz x i =>
  simp only [WOp] at h
  split at h
  ·rename_i s o j hx hi
   obtain ⟨k,h',rfl,hk⟩:=yjc n (qAi _) h
   clear h
   refine ⟨⟨_,_,_⟩,h',0,fun m _=>?_⟩
   simp only [yas,hx,hi]
   rw [if_pos ⟨by omega,by omega⟩]
   simp
  ·rename_i id e r o j hx hi
   obtain ⟨k,h',rfl,hk⟩:=yjc n (qAi _) h
   clear h
   refine ⟨⟨_,_,_⟩,h',0,fun m _=>?_⟩
   simp only [yas,hx,hi]
   rw [if_pos ⟨by omega,by omega⟩]
   simp [outV]
  ·rename_i rows r o j hx hi
   obtain ⟨k,h',rfl,hk⟩:=yjc n (qAi _) h
   clear h
   refine ⟨⟨_,_,_⟩,h',0,fun m _=>?_⟩
   simp only [yas,hx,hi]
   rw [if_pos ⟨by omega,by omega⟩]
   simp [outV]
  ·exact h.elim
 case idx agg n esz x i =>
  simp only [WOp] at h
  split at h
  ·rename_i cs j hx hi
   split at h
   ·obtain ⟨h0,k0⟩:=yaB.1 h
    obtain ⟨h1,k1⟩:=yaB.1 k0
    obtain ⟨h2,k2⟩:=yaB.1 k1
    clear h k0 k1
    simp only [qAc,decide_eq_true_eq,qAv] at h0 h1 h2
    obtain ⟨ha,he,hn,hu⟩:=h0
    have he:=qAf he
    have hn:=qAf hn
    subst ha;subst he
    refine ⟨⟨_,_,_⟩,k2,0,fun m _=>?_⟩
    simp only [yas,hx,hi]
    rw [if_pos ⟨h1,h2⟩]
    have hlt:j.toNat<cs.length:=by omega
    have hcell:cs[j.toNat]?=some (.int .u8 (yaa (cs.getD j.toNat .nils))):=yz2 cs _ hu hlt
    simp only [yfJ,Nat.mul_one,PV.cells,qAo,if_false,hcell]
    rfl
   obtain ⟨k,h',rfl,hk⟩:=yjc n (qAi _) h
   clear h
   split at h'
   ·rename_i p hp
    refine ⟨⟨_,_,_⟩,h',0,fun m _=>?_⟩
    simp only [yas,hx,hi]
    rw [if_pos ⟨by omega,by omega⟩]
    simp only [qAe,hp]
    rfl
   ·exact h'.elim
  ·exact h.elim
 case slc esz x lo hi mx =>
  simp only [WOp] at h
  split at h
  ·rename_i p l hh m hx hl hhi hm
   split at h
   ·exact h.elim
   ·rename_i hb
    obtain ⟨r,h,hr⟩:=yHe h
    refine ⟨⟨_,_,_⟩,h,0,fun _ _=>?_⟩
    simp only [yas,hx,hl,hhi,hm]
    rw [if_neg (by rw [hb];exact Bool.false_ne_true)]
    simp only [hr]
    rfl
  ·exact h.elim
 case mkSl pu esz bytes z l c =>
  simp only [WOp] at h
  split at h
  ·rename_i l c hl hc
   obtain ⟨h1,h⟩:=yaB.1 h
   obtain ⟨h2,h⟩:=yaB.1 h
   obtain ⟨h3,h⟩:=yaB.1 h
   simp only [decide_eq_true_eq] at h1 h2 h3
   refine ⟨⟨_,_,_⟩,h,0,fun _ _=>?_⟩
   simp only [yas,hl,hc]
   rw [if_pos ⟨h1,h2,h3⟩]
   rfl
  ·exact h.elim
 case app pu esz bytes s x =>
  simp only [WOp] at h
  split at h
  ·rename_i s x hs hx
   obtain ⟨ys,h,hy⟩:=yID h
   obtain ⟨h1,h⟩:=yaB.1 h
   obtain ⟨h2,h⟩:=yaB.1 h
   obtain ⟨r,H',h,hr⟩:=yJ7 hy h1 h2 h
   refine ⟨⟨_,_,_⟩,h,0,fun _ _=>?_⟩
   simp only [yas,hs,hx,hr]
   rfl
  ·exact h.elim
 case appZ pu esz bytes z s n =>
  simp only [WOp] at h
  split at h
  ·rename_i k hs hk
   obtain ⟨h1,h⟩:=yaB.1 h
   have h1:0≤k:=by simpa using h1
   obtain ⟨ha,hb⟩:=yfq.1 h
   cases h0:decide (k.toNat=0) with
   | true =>
    refine ⟨⟨_,_,_⟩,ha h0,0,fun _ _=>?_⟩
    have h0:k.toNat=0:=by simpa using h0
    simp only [yas,hs,hk,appZ]
    rw [if_pos h1,if_pos h0]
    rfl
   | false =>
    obtain ⟨r,H',h2,hr⟩:=ypJ (hb h0)
    refine ⟨⟨_,_,_⟩,h2,0,fun _ _=>?_⟩
    have h0:¬k.toNat=0:=by simpa using h0
    simp only [yas,hs,hk,appZ]
    rw [if_pos h1,if_neg h0,hr]
    rfl
  ·exact h.elim
 case clr pu esz z x =>
  simp only [WOp] at h
  split at h
  ·rename_i hx
   exact ⟨⟨_,_,_⟩,h,0,fun _ _=>by simp only [yas,hx,clrV];rfl⟩
  ·rename_i hx
   exact ⟨⟨_,_,_⟩,h,0,fun _ _=>by simp only [yas,hx,clrV];rfl⟩
  ·rename_i hx
   exact ⟨⟨_,_,_⟩,h,0,fun _ _=>by simp only [yas,hx,clrV];rfl⟩
  ·rename_i id lo len ext cap hx
   split at h
   ·rename_i b hb
    obtain ⟨ha,hb2⟩:=yfq.1 h
    cases len with
    | zero=>exact ⟨⟨_,_,_⟩,ha rfl,0,fun _ _=>by simp only [yas,hx,clrV];rfl⟩
    | succ len =>
     have h:=hb2 (by simp)
     obtain ⟨h1,h⟩:=yaB.1 h
     obtain ⟨h2,h⟩:=yaB.1 h
     obtain ⟨h3,h⟩:=yaB.1 h
     obtain ⟨h4,h⟩:=yaB.1 h
     obtain ⟨h5,h⟩:=yaB.1 h
     simp only [decide_eq_true_eq,qAv,beq_iff_eq] at h1 h2 h3 h4
     have h5:=qAf h5
     refine ⟨⟨_,_,_⟩,h,0,fun _ _=>?_⟩
     simp only [yas,hx,clrV,hb]
     rw [if_pos ⟨h1,h2,h3,h4,h5⟩]
     rfl
   ·exact h.elim
  ·exact h.elim
 case boxH pu esz x =>
  simp only [WOp] at h
  split at h
  ·rename_i p hp
   obtain ⟨q,H',h,hq⟩:=yuj h
   obtain ⟨h1,h⟩:=yaB.1 h
   simp only [qAc] at h1
   refine ⟨⟨_,_,_⟩,h,0,fun _ _=>?_⟩
   simp only [yas,hp,hq]
   rw [if_pos ⟨qAf h1.1,h1.2⟩]
  ·exact h.elim
 case bSl pu esz z len parts =>
  simp only [WOp] at h
  split at h
  ·exact ⟨⟨_,_,_⟩,h,0,fun _ _=>by simp only [yas,if_true];rfl⟩
  ·obtain ⟨rows,H',h,e⟩:=ysO _ _ _ _ h
   refine ⟨⟨_,_,_⟩,h,0,fun _ _=>?_⟩
   simp only [yas,e]
   rfl
 case buildN pu esz z len parts =>
  simp only [WOp] at h
  split at h
  ·exact ⟨⟨_,_,_⟩,h,0,fun _ _=>by simp only [yas,if_true];rfl⟩
  ·obtain ⟨rows,H',h,e⟩:=ysO _ _ _ _ h
   refine ⟨⟨_,_,_⟩,h,0,fun _ _=>?_⟩
   simp only [yas,e]
   rfl
 case bD esz z len parts =>
  simp only [WOp] at h
  split at h
  ·exact ⟨⟨_,_,_⟩,h,0,fun _ _=>by simp only [yas,if_true];rfl⟩
  ·obtain ⟨rows,H',h,e⟩:=ysO _ _ _ _ h
   refine ⟨⟨_,_,_⟩,h,0,fun _ _=>?_⟩
   simp only [yas,e]
   rfl
 case mvD x =>
  simp only [WOp] at h
  split at h
  ·rename_i p hp
   obtain ⟨y,H',h,e⟩:=yxE h
   split at h
   ·exact ⟨⟨_,_,_⟩,h,0,fun _ _=>by simp only [yas,hp,e];rfl⟩
   ·exact h.elim
  ·exact h.elim
 case call f args=>simp [yhE] at hc
 all_goals exact yxD rfl h
theorem yIE {P:EP} (hP:Sub P E) (hG:Good P callK) {a:An} {o:AOp} (h:WOp E callK a F H o K):yK7 P F H o K:=by
 cases hc:yhE o with
 | false =>
  obtain ⟨out,hk,m0,hm⟩:=yJ8 hc h
  refine ⟨out,hk,0,fun n e m _ hp _=>?_⟩
  have hl:=hP n e hp
  unfold Like at hl
  rw [hl,yEI hc _ (ybE E m0)]
  exact hm m0 (qAi _)
 | true =>
  cases o with
  | call f args =>
   simp only [WOp] at h
   split at h
   ·rename_i g vs hg hvs
    obtain ⟨r,H',h,m0,hm⟩:=hG _ _ _ _ h
    refine ⟨⟨_,_,_⟩,h,m0,fun n e m hn hp hle=>?_⟩
    have hl:=hP n e hp
    have e1:evV e F f=some g:=by unfold Like at hl;rw [hl,ygS];exact hg
    have e2:evs e F args=some vs:=by unfold Like at hl;rw [hl,yod];exact hvs
    simp only [yas,e1,e2,hm n e m hn hp hle]
    rfl
   ·exact h.elim
  | _=>simp [yhE] at hc
theorem ypK:∀ (F:Frm) (s:Nat) (x:FV),fget F s=some x→frep F s x=F
 | [],_,_,h=>by simp [fget] at h
 | (k,y)::r,s,x,h=>by
  simp only [fget] at h
  simp only [frep]
  by_cases hk:k=s
  ·subst hk
   simp only [if_true,qAa] at h
   subst h
   simp
  ·rw [if_neg hk] at h
   have:Nat.beq k s=false:=by
    cases e:Nat.beq k s with
    | true=>exact absurd (qAf e) hk
    | false=>rfl
   rw [this,ypK r s x h]
   rfl
theorem yGa {c:Opd} {b:Bool} (h:evV E F c=some (.bool b)):fref F c b=F:=by
 cases c with
 | t s =>
  simp only [evV,ev] at h
  simp only [fref]
  apply ypK
  cases e:fget F s with
  | none=>simp [e] at h
  | some fv=>cases fv <;> simp [e] at h;rw [h]
 | _=>rfl
theorem yz3 {g:Option (Nat×Bool)} {yes no:Frm→Prop} (h:yAZ F g yes no):(yde F g=some true∧yes F)∨(yde F g=some false∧no F):=by
 unfold yAZ at h
 split at h
 ·exact .inl ⟨rfl,h⟩
 ·rename_i s want
  split at h
  ·rename_i b hb
   have e:yde F (some (s,want))=some (b == want):=by simp only [yde,hb]
   split at h
   ·cases b with
    | true=>have h:yes (frep F s (.v (.bool true))):=h;rw [ypK _ _ _ hb] at h;exact .inl ⟨by rw [e];rfl,h⟩
    | false=>have h:no (frep F s (.v (.bool false))):=h;rw [ypK _ _ _ hb] at h;exact .inr ⟨by rw [e];rfl,h⟩
   ·cases b with
    | true=>have h:no (frep F s (.v (.bool true))):=h;rw [ypK _ _ _ hb] at h;exact .inr ⟨by rw [e];rfl,h⟩
    | false=>have h:yes (frep F s (.v (.bool false))):=h;rw [ypK _ _ _ hb] at h;exact .inl ⟨by rw [e];rfl,h⟩
  ·rename_i hb
   exact .inr ⟨by simp only [yde,hb],h⟩
  ·exact h.elim
theorem yA2 {P:EP} (hP:Sub P E) (hG:Good P callK) {an:List An}:∀ (l:List AO) (i:Nat) (F:Frm) (H:Hp) (K:Frm→Hp→Prop),WOps E callK an l i F H K →
  ∃ F' H',K F' H'∧∃ m0,∀ n e m,m0≤n→P n e→m0≤m→yez e (ybE e m) l F H=some (F',H')
 | [],i,F,H,K,h=>⟨F,H,h,0,fun _ _ _ _ _ _=>rfl⟩
 | o::r,i,F,H,K,h=>by
  simp only [WOps] at h
  rcases yz3 h with ⟨hg,h⟩ | ⟨hg,h⟩
  ·obtain ⟨out,h,m0,hm⟩:=yIE hP hG h
   split at h
   ·exact h.elim
   ·rename_i F' hF'
    rw [yA0] at h
    obtain ⟨F2,H2,hk,m1,hm1⟩:=yA2 hP hG r (i+1) F' out.h K h
    refine ⟨F2,H2,hk,max m0 m1,fun n e m hn hp hle=>?_⟩
    have e0:yhy e (ybE e m) F H o=some (F',out.h):=by
     simp only [yhy,hg,hm n e m (by omega) hp (by omega),hF',Option.map]
    simp only [yez,e0]
    exact hm1 n e m (by omega) hp (by omega)
  ·obtain ⟨F2,H2,hk,m1,hm1⟩:=yA2 hP hG r (i+1) (ypI F o.dst) H K h
   refine ⟨F2,H2,hk,m1,fun n e m hn hp hle=>?_⟩
   have e0:yhy e (ybE e m) F H o=some (ypI F o.dst,H):=by
    simp only [yhy,hg]
    cases o.dst <;> rfl
   simp only [yez,e0]
   exact hm1 n e m hn hp hle
structure Cov (p q:FP):Prop where
 rd:q.rd=p.rd
 wr:q.wr=p.wr
 h:p.all=true∨((∀ x,x∈q.hr→x∈p.hr)∧(∀ x,x∈q.hw→x∈p.hw)∧(q.push=true→p.push=true)∧q.all=false)
theorem Cov.tight (p:FP) (H H1:Hp):Cov p (p.tight H H1):=by
 unfold FP.tight
 cases h:p.all with
 | true=>exact ⟨rfl,rfl,.inl h⟩
 | false=>exact ⟨rfl,rfl,.inr ⟨fun _ h=>h,fun _ h=>h,fun h=>h,h⟩⟩
def yA3:List FP→List FP→Prop
 | [],[]=>True
 | p::r,q::s=>Cov p q∧yA3 r s
 | _,_=>False
theorem yA3.get:∀ (l l':List FP),yA3 l l'→∀ (i:Nat) (p:FP),l[i]?=some p→∃ q:FP,l'[i]?=some q∧Cov p q
 | [],_,_,i,p,e=>by simp at e
 | p::r,[],h,_,_,_=>h.elim
 | p::r,q::s,h,i,x,e=>by
  obtain ⟨h1,h2⟩:=h
  cases i with
  | zero=>simp at e;subst e;exact ⟨q,rfl,h1⟩
  | succ i=>simp at e;simpa using yA3.get r s h2 i x e
theorem yuk:∀ l:List Nat,yeT l []=false
 | []=>rfl
 | x::r=>by simp only [yeT,yuk r];rfl
theorem yul:∀ (l m:List Nat),yeT l m=true↔∃ x,x∈l∧x∈m
 | [],m=>by simp [yeT]
 | y::r,m=>by
  simp only [yeT,qB3,yul r m,List.elem_eq_mem,decide_eq_true_eq,qAq]
  constructor
  ·rintro (h | ⟨x,h1,h2⟩)
   ·exact ⟨y,.inl rfl,h⟩
   ·exact ⟨x,.inr h1,h2⟩
  ·rintro ⟨x,rfl | h1,h2⟩
   ·exact .inl h2
   ·exact .inr ⟨x,h1,h2⟩
theorem yum {a b a' b':List Nat} (h:yeT a b=false) (ha:∀ x,x∈a'→x∈a) (hb:∀ x,x∈b'→x∈b):yeT a' b'=false:=by
 cases e:yeT a' b' with
 | false=>rfl
 | true =>
  obtain ⟨x,h1,h2⟩:=(yul _ _).1 e
  have:yeT a b=true:=(yul _ _).2 ⟨x,ha x h1,hb x h2⟩
  rw [h] at this
  cases this
theorem yxF {a:List Nat} (h:∀ x,x∈a→x∈([]:List Nat)):a=[]:=by
 cases a with
 | nil=>rfl
 | cons x r=>exact absurd (h x qAm) (by simp)
theorem yHf {p q p' q':FP} (h:yqp p q=false) (hp:Cov p p') (hq:Cov q q'):yqp p' q'=false:=by
 have hpx:∀ {x x':FP},x.heapy=false→Cov x x'→x'.push=false∧x'.all=false∧x'.hr=[]∧x'.hw=[]:=by
  intro x x' hx hc
  simp only [FP.heapy,qB0,Bool.not_eq_false',List.isEmpty_iff] at hx
  obtain ⟨⟨⟨h1,h2⟩,h3⟩,h4⟩:=hx
  rcases hc.h with h | ⟨k1,k2,k3,k4⟩
  ·rw [h2] at h;cases h
  ·rw [h3] at k1
   rw [h4] at k2
   refine ⟨?_,k4,yxF k1,yxF k2⟩
   cases e:x'.push with
   | false=>rfl
   | true=>rw [k3 e] at h1;cases h1
 simp only [yqp,qB0] at h
 obtain ⟨⟨⟨⟨⟨⟨⟨⟨A,B⟩,C⟩,D⟩,E⟩,G⟩,I⟩,J⟩,K⟩:=h
 have A':yeT p'.wr q'.rd=false:=by rw [hp.wr,hq.rd];exact A
 have B':yeT p'.wr q'.wr=false:=by rw [hp.wr,hq.wr];exact B
 have C':yeT q'.wr p'.rd=false:=by rw [hp.rd,hq.wr];exact C
 cases ea:p.all with
 | true =>
  rw [ea,qBq] at D
  obtain ⟨h1,h2,h3,h4⟩:=hpx D hq
  simp [yqp,A',B',C',h1,h2,h3,h4,yuk,yeT,FP.heapy]
 | false =>
  cases eb:q.all with
  | true =>
   rw [eb,qBq] at E
   obtain ⟨h1,h2,h3,h4⟩:=hpx E hp
   simp [yqp,A',B',C',h1,h2,h3,h4,yuk,yeT,FP.heapy]
  | false =>
   rcases hp.h with h | ⟨k1,k2,k3,k4⟩
   ·rw [ea] at h;cases h
   rcases hq.h with h | ⟨l1,l2,l3,l4⟩
   ·rw [eb] at h;cases h
   have G':(p'.push&&q'.push)=false:=by
    cases e1:p'.push with
    | false=>rfl
    | true =>
     cases e2:q'.push with
     | false=>rfl
     | true=>rw [k3 e1,l3 e2] at G;cases G
   simp only [yqp,A',B',C',k4,l4,qB4,G',yum I k2 l1,yum J k2 l2,yum K l2 k1,Bool.or_self]
theorem yvw {l l':List FP} (ht:yA3 l l'):∀ (pairs:List (Nat×Nat)),yjg l pairs=true→yjg l' pairs=true
 | [],_=>rfl
 | (i,j)::r,h=>by
  simp only [yjg,qAc] at h ⊢
  refine ⟨?_,yvw ht r h.2⟩
  have h1:=h.1
  split at h1
  ·rename_i p q e1 e2
   obtain ⟨p',k1,c1⟩:=yA3.get l l' ht i p e1
   obtain ⟨q',k2,c2⟩:=yA3.get l l' ht j q e2
   rw [k1,k2]
   simp only [qAv] at h1 ⊢
   exact yHf h1 c1 c2
  ·cases h1
theorem ymg {E e:Env} (h:Like E e) (f:PV) (args:List PV):yqo e f args=yqo E f args:=by
 unfold Like at h
 rw [h]
 rfl
theorem yEJ {p q:PV} {H H1:Hp} (h:ybM H p=some (q,H1)):EffI (idsV p) H H1 H H1:=by
 obtain ⟨H1',e,k⟩:=ygs (H':=H) (fun _ _=>rfl) h
 rw [h] at e
 cases e
 exact k
theorem ykO:∀ (l ps:List PV) (H H1:Hp),ya7 H l=some (ps,H1)→H1.length=H.length∧∀ id,id∉idsA l→H1[id]?=H[id]?
 | [],ps,H,H1,h=>by
  simp only [ya7,qAa,Prod.mk.injEq] at h
  rw [← h.2]
  exact ⟨rfl,fun _ _=>rfl⟩
 | x::r,ps,H,H1,h=>by
  simp only [ya7] at h
  split at h
  ·rename_i y H2 hy
   split at h
   ·rename_i ys H3 hys
    simp only [qAa,Prod.mk.injEq] at h
    obtain ⟨_,rfl⟩:=h
    obtain ⟨l1,o1⟩:=ykO r ys H2 _ hys
    have k:=yEJ hy
    refine ⟨l1.trans k.len.1,fun id hid=>?_⟩
    simp only [idsA,qA1,not_or] at hid
    rw [o1 id hid.2,(k.out id hid.1).1]
   ·cases h
  ·cases h
theorem yEK {call:Nat→List PV→Hp→Option (PV×Hp)} {x:LocC} {H H1:Hp} {r:PV} (h:yt5 call x H=some (r,H1)):∀ id,id∈chgH 0 H H1→id∈x.id::idsA (x.all.set x.j (.int .i64 0)):=by
 intro id hm
 unfold yt5 at h
 split at h
 ·rename_i az H' hp
  split at h
  ·rename_i b hb
   split at h
   ·split at h
    ·rename_i q rows hq
     simp only [qAa,Prod.mk.injEq] at h
     obtain ⟨_,rfl⟩:=h
     obtain ⟨l1,o1⟩:=ykO _ _ _ _ hp
     by_cases hi:id=x.id
     ·rw [hi];exact qAm
     ·by_cases hj:id∈idsA (x.all.set x.j (.int .i64 0))
      ·exact qAj _ hj
      ·refine absurd hm ?_
       have:=yuh 0 H (H'.set x.id { b with rows:=rows }) (by simp [l1]) id (by
        rw [qA3 (fun e=>hi e.symm),o1 id hj])
       simpa using this
    ·cases h
   ·cases h
  ·cases h
 ·cases h
theorem yEL {H H1:Hp} {l:List Nat} (h1:H1.length=H.length) (h2:∀ id,id∉l→H1[id]?=H[id]?):∀ id,id∈chgH 0 H H1→id∈l:=by
 intro id hm
 by_cases hj:id∈l
 ·exact hj
 ·refine absurd hm ?_
  have:=yuh 0 H H1 h1 id (h2 id hj)
  simpa using this
theorem yHg {e:Env} {call:Nat→List PV→Hp→Option (PV×Hp)} {n:Nat} {first captured vs:List PV} {H H1:Hp} {r:PV} (hq:e.qui n=true) (h:yil e call (.fn (.func n) first captured) vs H=some (r,H1)):∀ id,id∈chgH 0 H H1→id∈idsA (first++vs++captured):=by
 simp only [yil,hq,if_true] at h
 split at h
 ·split at h
  ·split at h
   ·split at h
    ·cases h
     exact yEL rfl fun _ _=>rfl
    ·cases h
   ·cases h
  ·cases h
 ·split at h
  ·rename_i x hx
   cases h
   split at hx
   ·rename_i az H' hp
    obtain ⟨l1,o1⟩:=ykO _ _ _ _ hp
    split at hx
    ·split at hx
     ·cases hx
      exact yEL rfl fun _ _=>rfl
     ·cases hx
      exact yEL l1 o1
    ·cases hx
   ·cases hx
  ·cases h
theorem yJ9 {e:Env} (hl:Like E e) {call:Nat→List PV→Hp→Option (PV×Hp)} {F:Frm} {H:Hp} {o:AOp} {out:Out} (h:yas e call F H o=some out) (a b _ _:List Nat) :
  Cov ⟨a++(yvu E F H o).rd,b++(yvu E F H o).wr,(yvu E F H o).hr,(yvu E F H o).hw,(yvu E F H o).push,(yvu E F H o).all⟩
   ((⟨a++(fpOp E F H o).rd,b++(fpOp E F H o).wr,(fpOp E F H o).hr,(fpOp E F H o).hw,(fpOp E F H o).push,(fpOp E F H o).all⟩:FP).tight H out.h):=by
 unfold yvu
 split
 ·rename_i f az
  cases hq:yev E F f az with
  | true=>exact Cov.tight _ _ _
  | false =>
  rw [cond_false]
  split
  ·rename_i l hli
   unfold yIz at hli
   split at hli
   ·rename_i g vs hg hvs
    have hg':evV e F f=some g:=by unfold Like at hl;rw [hl,ygS];exact hg
    have hv':evs e F az=some vs:=by unfold Like at hl;rw [hl,yod];exact hvs
    simp only [yas,hg',hv'] at h
    split at h
    ·rename_i r H1 hr
     cases h
     have key:∀ id,id∈chgH 0 H H1→id∈l:=by
      split at hli
      ·rename_i x hx
       cases hli
       simp only [yj7,(ymg hl g vs).trans hx] at hr
       exact yEK hr
      ·rename_i hx
       simp only [yj7,(ymg hl g vs).trans hx] at hr
       split at hli
       ·rename_i n first captured
        cases hqu:E.qui n with
        | false=>rw [hqu] at hli;cases hli
        | true =>
         rw [hqu] at hli
         cases hli
         have:e.qui n=true:=by unfold Like at hl;rw [hl];exact hqu
         exact yHg this hr
       ·cases hli
     simp only [fpOp,hq,qBn,FP.tight,if_true]
     exact ⟨rfl,rfl,.inr ⟨fun _ h=>h,key,fun h=>h,rfl⟩⟩
    ·cases h
   ·cases hli
  ·exact Cov.tight _ _ _
 ·exact Cov.tight _ _ _
theorem yA4 {P:EP} (hP:Sub P E) (hG:Good P callK) {an:List An} {F0:Frm} {l0:List AO} {pairs:List (Nat×Nat)}:∀ (l:List AO) (i:Nat) (F:Frm) (H:Hp) (ps:List FP) (K:Frm→Hp→Prop),WFps E callK an F0 l0 pairs l i F H ps K →
  ∃ F' H' qs,K F' H'∧yjg (ps.reverse++qs) pairs=true∧ypy F0 l0 l0=true∧∃ m0,∀ n e m,m0≤n→P n e→m0≤m→∃ qt,yA3 qs qt∧yn6 e (ybE e m) l F H=some (F',H',qt)
 | [],i,F,H,ps,K,h=>by
  simp only [WFps] at h
  obtain ⟨h1,h⟩:=yaB.1 h
  simp only [qAc] at h1
  exact ⟨F,H,[],h,by simpa using h1.1,h1.2,0,fun _ _ _ _ _ _=>⟨[],trivial,rfl⟩⟩
 | o::r,i,F,H,ps,K,h=>by
  simp only [WFps] at h
  have hfp:∀ n e,P n e→∀ F H,yeA e F H o=yeA E F H o:=by
   intro n e hp F H
   have hl:=hP n e hp
   unfold Like at hl
   rw [hl]
   simp only [yeA,yHd]
  rcases yz3 h with ⟨hg,h⟩ | ⟨hg,h⟩
  ·obtain ⟨out,h,m0,hm⟩:=yIE hP hG h
   split at h
   ·exact h.elim
   ·rename_i F' hF'
    rw [yA0] at h
    obtain ⟨F2,H2,qs,hk,ha,hb,m1,hm1⟩:=yA4 hP hG r (i+1) F' out.h (yF7 E F H o::ps) K h
    refine ⟨F2,H2,yF7 E F H o::qs,hk,by simpa using ha,hb,max m0 m1,fun n e m hn hp hle=>?_⟩
    obtain ⟨qt,ht,hq⟩:=hm1 n e m (by omega) hp (by omega)
    have ho:=hm n e m (by omega) hp (by omega)
    have e0:yiy e (ybE e m) o (F,H)=some (F',out.h):=by
     simp only [yiy,hg,ho,hF',Option.map]
    refine ⟨(yeA E F H o).tight H out.h::qt,⟨?_,ht⟩,?_⟩
    ·simp only [yeA,hg,yF7]
     exact yJ9 (hP n e hp) ho _ _ [] []
    ·simp only [yn6,e0,hq,hfp n e hp]
  ·obtain ⟨F2,H2,qs,hk,ha,hb,m1,hm1⟩:=yA4 hP hG r (i+1) (ypI F o.dst) H (fpNo o::ps) K h
   refine ⟨F2,H2,fpNo o::qs,hk,by simpa using ha,hb,m1,fun n e m hn hp hle=>?_⟩
   obtain ⟨qt,ht,hq⟩:=hm1 n e m hn hp hle
   have e0:yiy e (ybE e m) o (F,H)=some (ypI F o.dst,H):=by
    simp only [yiy,hg]
    cases o.dst <;> rfl
   have e2:yeA E F H o=fpNo o:=by simp only [yeA,hg,fpNo]
   refine ⟨(fpNo o).tight H H::qt,⟨Cov.tight _ _ _,ht⟩,?_⟩
   simp only [yn6,e0,hq,hfp n e hp,e2]
def yIF (P:EP) (c:AC) (F:Frm) (H:Hp) (Q:Ex→Frm→Hp→Prop):Prop :=
 ∃ x F' H',Q x F' H'∧∃ m0,∀ n e m,m0≤n→P n e→m0≤m→exec e m c F H=some (x,F',H')
def yof (P:EP) (c:TC) (F:Frm) (H:Hp) (Q:Ex→Frm→Hp→Prop):Prop:=yIF P (ybC c) F H Q
def ydu:TC→Bool
 | .seq a b | .cond _ a b=>ydu a&&ydu b
 | .block _ b=>ydu b
 | .loop _ b=>ydu b
 | .lG _ b=>ydu b
 | .join _ b=>ydu b
 | .rangeF _ _ _ _ _ _ _=>false
 | _=>true
def LpOk (P:EP) (E:Env) (lp:LP) (G:Frm):TC→Prop
 | .seq a b=>LpOk P E lp G a∧LpOk P E lp G b
 | .cond _ a b=>LpOk P E lp G a∧LpOk P E lp G b
 | .block _ b=>LpOk P E lp G b
 | .loop id b=>LpOk P E lp G b∧∀ F H Q,lp id G F H Q→yof P (.loop id b) F H Q
 | .lG id b=>LpOk P E lp G b∧∀ F H Q,lp id G F H Q→yof P (.lG id b) F H Q
 | .join id b=>LpOk P E lp G b∧∀ F H Q,lp id G F H Q→yof P (.join id b) F H Q
 | .rangeF _ f np ib ps az bd=>(∃ rs,E.fns f=some ⟨np,rs,ybC ib⟩∧rs.length=0)∧(ydu ib=true∧ydu az=true∧ydu bd=true)∧(∀ G,LpOk (Rng E G ps (ybC az) (ybC bd)) E lp G ib)∧LpOk (Ats E) E lp [] az∧LpOk (Ats E) E lp [] bd
 | _=>True
def ycH:TC→List (Nat×TC)
 | .seq a b | .cond _ a b=>ycH a++ycH b
 | .block _ b=>ycH b
 | .loop id b=>ycH b++[(id,.loop id b)]
 | .lG id b=>ycH b++[(id,.lG id b)]
 | .join id b=>ycH b++[(id,.join id b)]
 | _=>[]
theorem yiM {P:EP} {E:Env} {lp:LP} {G:Frm}:∀ (c:TC),ydu c=true→(∀ p∈ycH c,∀ F H Q,lp p.1 G F H Q→yof P p.2 F H Q)→LpOk P E lp G c
 | .skip,_,_ | .ops _ _ _ _,_,_ | .exit _,_,_ | .ret,_,_ | .bad,_,_ | .yret _ _ _ _ _ _ _,_,_ | .cut _,_,_=>trivial
 | .rangeF _ _ _ _ _ _ _,hf,_=>by simp [ydu] at hf
 | .seq a b,hf,h=>by
  simp only [ydu,qAc] at hf
  exact ⟨yiM a hf.1 fun p hp=>h p (by simp only [ycH,qA1];exact .inl hp),yiM b hf.2 fun p hp=>h p (by simp only [ycH,qA1];exact .inr hp)⟩
 | .cond _ a b,hf,h=>by
  simp only [ydu,qAc] at hf
  exact ⟨yiM a hf.1 fun p hp=>h p (by simp only [ycH,qA1];exact .inl hp),yiM b hf.2 fun p hp=>h p (by simp only [ycH,qA1];exact .inr hp)⟩
 | .block _ b,hf,h=>yiM b hf h
 | .loop id b,hf,h=>⟨yiM b hf fun p hp=>h p (by simp only [ycH,qA1];exact .inl hp),h (id,.loop id b) (by simp [ycH])⟩
 | .lG id b,hf,h=>⟨yiM b hf fun p hp=>h p (by simp only [ycH,qA1];exact .inl hp),h (id,.lG id b) (by simp [ycH])⟩
 | .join id b,hf,h=>⟨yiM b hf fun p hp=>h p (by simp only [ycH,qA1];exact .inl hp),h (id,.join id b) (by simp [ycH])⟩
def YOk (P:EP) (E:Env) (yk:YK):Prop:=∀ vs H K,yk vs H K→∃ r H',K r H'∧∃ m0,∀ n e,m0≤n→P n e→e.yl e.yn E.yn vs H=some (r,H')
theorem YOk.no (P:EP) (E:Env):YOk P E noYK:=fun _ _ _ h=>h.elim
def ynq (P:EP) (E:Env) (callK:CK) (c:TC):Prop:=ydu c=false→Good (Uni E) callK∧∀ n e,P n e→e=E
theorem yIF.up {P:EP} {c:AC} {F:Frm} {H:Hp} {Q:Ex→Frm→Hp→Prop} {x:Ex} {F':Frm} {H':Hp} {m0:Nat} (hk:Q x F' H') (h:∀ n e k,m0≤n→P n e→m0≤k→exec e (k+1) c F H=some (x,F',H')):yIF P c F H Q :=
 ⟨x,F',H',hk,m0+1,fun n e m hn hp hm=>by
  obtain ⟨k,rfl⟩:∃ k,m=k+1:=⟨m-1,by omega⟩
  exact h n e k (by omega) hp (by omega)⟩
theorem yvx {lp:LP}:∀ (c:TC) (P:EP) (_:Sub P E) (_:Good P callK) (_:ynq P E callK c) (G:Frm) (yk:YK) (_:YOk P E yk) (_:LpOk P E lp G c) (F:Frm) (H:Hp) (Q:Ex→Frm→Hp→Prop),WC E callK lp G yk c F H Q→yIF P (ybC c) F H Q
 | .skip,P,hP,hG,hR,G,yk,hY,_,F,H,Q,h=>by
  simp only [WC] at h
  exact yIF.up (m0:=0) h fun n e k _ _ _=>by simp only [ybC,exec]
 | .exit id,P,hP,hG,hR,G,yk,hY,_,F,H,Q,h=>by
  simp only [WC] at h
  exact yIF.up (m0:=0) h fun n e k _ _ _=>by simp only [ybC,exec]
 | .ret,P,hP,hG,hR,G,yk,hY,_,F,H,Q,h=>by
  simp only [WC] at h
  exact yIF.up (m0:=0) h fun n e k _ _ _=>by simp only [ybC,exec]
 | .bad,P,hP,hG,hR,G,yk,hY,_,F,H,Q,h=>by simp only [WC] at h
 | .cut _,P,hP,hG,hR,G,yk,hY,_,F,H,Q,h=>by simp only [WC] at h
 | .ops l an ps fg,P,hP,hG,hR,G,yk,hY,_,F,H,Q,h=>by
  cases ps with
  | nil =>
   simp only [WC] at h
   obtain ⟨F',H',hk,m0,hm⟩:=yA2 hP hG l 0 F H _ h
   rw [yA0] at hk
   exact yIF.up (m0:=m0) hk fun n e k hn hp hle=>by simp only [ybC,exec,ykK,hm n e k hn hp hle]
  | cons p ps =>
   simp only [WC] at h
   obtain ⟨F',H',qs,hk,ha,hb,m0,hm⟩:=yA4 hP hG l 0 _ H [] _ h
   rw [yA0] at hk
   refine yIF.up (m0:=m0) hk fun n e k hn hp hle=>?_
   obtain ⟨qt,ht,hq⟩:=hm n e k hn hp hle
   simp only [ybC,exec,ykK,hq]
   rw [if_pos ⟨yvw ht _ (by simpa using ha),hb⟩]
 | .seq a b,P,hP,hG,hR,G,yk,hY,hl,F,H,Q,h=>by
  simp only [WC] at h
  simp only [LpOk] at hl
  have hRa:ynq P E callK a:=fun hf=>hR (by simp only [ydu,hf,qB4])
  have hRb:ynq P E callK b:=fun hf=>hR (by simp only [ydu,hf,Bool.and_false])
  obtain ⟨x,F',H',hk,m0,hm⟩:=yvx a P hP hG hRa G yk hY hl.1 F H _ h
  cases x with
  | norm =>
   obtain ⟨x2,F2,H2,hk2,m1,hm1⟩:=yvx b P hP hG hRb G yk hY hl.2 F' H' Q hk
   exact yIF.up (m0:=max m0 m1) hk2 fun n e k hn hp hle=>by simp only [ybC,exec,hm n e k (by omega) hp (by omega),hm1 n e k (by omega) hp (by omega)]
  | exit i=>exact yIF.up (m0:=m0) hk fun n e k hn hp hle=>by simp only [ybC,exec,hm n e k hn hp hle]
  | ret=>exact yIF.up (m0:=m0) hk fun n e k hn hp hle=>by simp only [ybC,exec,hm n e k hn hp hle]
  | brk _ _=>exact yIF.up (m0:=m0) hk fun n e k hn hp hle=>by simp only [ybC,exec,hm n e k hn hp hle]
 | .cond c a b,P,hP,hG,hR,G,yk,hY,hl,F,H,Q,h=>by
  simp only [WC] at h
  simp only [LpOk] at hl
  have hRa:ynq P E callK a:=fun hf=>hR (by simp only [ydu,hf,qB4])
  have hRb:ynq P E callK b:=fun hf=>hR (by simp only [ydu,hf,Bool.and_false])
  split at h
  ·rename_i t ht
   have hte:∀ n e,P n e→evV e F c=some (.bool t):=fun n e hp=>by
    have hl:=hP n e hp
    unfold Like at hl
    rw [hl,ygS];exact ht
   obtain ⟨h1,h2⟩:=yfq.1 h
   cases t with
   | true =>
    obtain ⟨x,F',H',hk,m0,hm⟩:=yvx a P hP hG hRa G yk hY hl.1 F H Q (yGa ht ▸ h1 rfl)
    exact yIF.up (m0:=m0) hk fun n e k hn hp hle=>by simp only [ybC,exec,hte n e hp,hm n e k hn hp hle]
   | false =>
    obtain ⟨x,F',H',hk,m0,hm⟩:=yvx b P hP hG hRb G yk hY hl.2 F H Q (yGa ht ▸ h2 rfl)
    exact yIF.up (m0:=m0) hk fun n e k hn hp hle=>by simp only [ybC,exec,hte n e hp,hm n e k hn hp hle]
  ·exact h.elim
 | .block id b,P,hP,hG,hR,G,yk,hY,hl,F,H,Q,h=>by
  simp only [WC] at h
  simp only [LpOk] at hl
  have hRb:ynq P E callK b:=fun hf=>hR (by simp only [ydu,hf])
  obtain ⟨x,F',H',hk,m0,hm⟩:=yvx b P hP hG hRb G yk hY hl F H _ h
  cases x with
  | norm=>exact yIF.up (m0:=m0) hk fun n e k hn hp hle=>by simp only [ybC,exec,hm n e k hn hp hle]
  | exit i =>
   simp only at hk
   cases hb:Nat.beq i id with
   | true =>
    rw [hb] at hk
    have e:=qAf hb
    subst e
    exact yIF.up (m0:=m0) (x:=.norm) hk fun n e k hn hp hle=>by simp only [ybC,exec,hm n e k hn hp hle,if_true]
   | false =>
    rw [hb] at hk
    have e:¬i=id:=fun e=>by subst e;rw [Nat.beq_refl] at hb;cases hb
    exact yIF.up (m0:=m0) (x:=.exit i) hk fun n e' k hn hp hle=>by simp only [ybC,exec,hm n e' k hn hp hle,e,if_false]
  | ret=>exact yIF.up (m0:=m0) hk fun n e k hn hp hle=>by simp only [ybC,exec,hm n e k hn hp hle]
  | brk _ _=>exact yIF.up (m0:=m0) hk fun n e k hn hp hle=>by simp only [ybC,exec,hm n e k hn hp hle]
 | .loop id b,P,hP,hG,hR,G,yk,hY,hl,F,H,Q,h=>by
  simp only [WC] at h
  simp only [LpOk] at hl
  exact hl.2 F H Q h
 | .lG id b,P,hP,hG,hR,G,yk,hY,hl,F,H,Q,h=>by
  simp only [WC] at h
  simp only [LpOk] at hl
  exact hl.2 F H Q h
 | .join id b,P,hP,hG,hR,G,yk,hY,hl,F,H,Q,h=>by
  simp only [WC] at h
  simp only [LpOk] at hl
  exact hl.2 F H Q h
 | .yret ..,P,hP,hG,hR,G,yk,hY,_,F,H,Q,h=>by simp only [WC] at h
 | .rangeF ..,P,hP,hG,hR,G,yk,hY,_,F,H,Q,h=>by simp only [WC] at h
theorem yof.intro {id:Nat} {P:EP} (hP:Sub P E) (hG:Good P callK) {lp:LP} {b:TC} (hf:ydu b=true) {G:Frm} {yk:YK} (hY:YOk P E yk) (hl:LpOk P E lp G b) {Q:Ex→Frm→Hp→Prop} (R:Nat→Frm→Hp→Prop) (h0:∀ F H,¬R 0 F H)
  (hs:∀ n F H,R (n+1) F H→WC E callK lp G yk b F H fun x F' H'=>match x with | .norm=>R n F' H' | .exit i=>Q (.exit i) F' H' | .ret=>Q .ret F' H' | .brk k i=>Q (.brk k i) F' H') :
  ∀ n F H,R n F H→yof P (.loop id b) F H Q
 | 0,F,H,h=>(h0 F H h).elim
 | n+1,F,H,h=>by
  obtain ⟨x,F',H',hk,m0,hm⟩:=yvx b P hP hG (fun hf'=>by rw [hf] at hf';cases hf') G yk hY hl F H _ (hs n F H h)
  cases x with
  | norm =>
   have hk:R n F' H':=hk
   obtain ⟨x2,F2,H2,hk2,m1,hm1⟩:=yof.intro (id:=id) hP hG hf hY hl R h0 hs n F' H' hk
   simp only [ybC] at hm1
   exact yIF.up (m0:=max m0 m1) hk2 fun n e k hn hp hle=>by simp only [ybC,exec,hm n e k (by omega) hp (by omega),hm1 n e k (by omega) hp (by omega)]
  | exit i=>exact yIF.up (m0:=m0) hk fun n e k hn hp hle=>by simp only [ybC,exec,hm n e k hn hp hle]
  | ret=>exact yIF.up (m0:=m0) hk fun n e k hn hp hle=>by simp only [ybC,exec,hm n e k hn hp hle]
  | brk _ _=>exact yIF.up (m0:=m0) hk fun n e k hn hp hle=>by simp only [ybC,exec,hm n e k hn hp hle]
theorem yof.introG {id:Nat} {P:EP} (hP:Sub P E) (hG:Good P callK) {lp:LP} {b:TC} (hf:ydu b=true) {G:Frm} {yk:YK} (hY:YOk P E yk) (hl:LpOk P E lp G b) {Q:Ex→Frm→Hp→Prop} (R:Nat→Frm→Hp→Prop) (h0:∀ F H,¬R 0 F H)
  (hs:∀ n F H,R (n+1) F H→WC E callK lp G yk b F H fun x F' H'=>match x with | .norm=>R n F' (gcH F' H.length H') | .exit i=>Q (.exit i) F' H' | .ret=>Q .ret F' H' | .brk k i=>Q (.brk k i) F' H') :
  ∀ n F H,R n F H→yof P (.lG id b) F H Q
 | 0,F,H,h=>(h0 F H h).elim
 | n+1,F,H,h=>by
  obtain ⟨x,F',H',hk,m0,hm⟩:=yvx b P hP hG (fun hf'=>by rw [hf] at hf';cases hf') G yk hY hl F H _ (hs n F H h)
  cases x with
  | norm =>
   have hk:R n F' (gcH F' H.length H'):=hk
   obtain ⟨x2,F2,H2,hk2,m1,hm1⟩:=yof.introG (id:=id) hP hG hf hY hl R h0 hs n F' _ hk
   simp only [ybC] at hm1
   exact yIF.up (m0:=max m0 m1) hk2 fun n e k hn hp hle=>by simp only [ybC,exec,hm n e k (by omega) hp (by omega),hm1 n e k (by omega) hp (by omega)]
  | exit i=>exact yIF.up (m0:=m0) hk fun n e k hn hp hle=>by simp only [ybC,exec,hm n e k hn hp hle]
  | ret=>exact yIF.up (m0:=m0) hk fun n e k hn hp hle=>by simp only [ybC,exec,hm n e k hn hp hle]
  | brk _ _=>exact yIF.up (m0:=m0) hk fun n e k hn hp hle=>by simp only [ybC,exec,hm n e k hn hp hle]
end
def AnsP (P:EP) (n:Nat) (az:List PV) (r:PV):Prop:=∃ m0,∀ k e m,m0≤k→P k e→m0≤m→ydK e (ybE e m) n az=some r
def Ans (E:Env) (n:Nat) (az:List PV) (r:PV):Prop:=AnsP (Uni E) n az r
def AnsS (E:Env) (n:Nat) (az:List PV) (r:PV):Prop:=AnsP (Solo E) n az r
theorem AnsP.sub {P P':EP} {n:Nat} {az:List PV} {r:PV} (h:AnsP P n az r) (hs:∀ k e,P' k e→P k e):AnsP P' n az r:=by
 obtain ⟨m0,hm⟩:=h
 exact ⟨m0,fun k e m h1 h2 h3=>hm k e m h1 (hs k e h2) h3⟩
theorem Ans.solo {E:Env} {n:Nat} {az:List PV} {r:PV} (h:Ans E n az r):AnsS E n az r:=AnsP.sub h fun _ e h=>by cases h;rfl
def yDh (E:Env):Prop:=∀ n az H x,E.eff n az H=some x→E.qui n=false∧E.frz n=false∧(∀ az,E.sum n az=none)∧E.rb n=false
def AnsL (P:EP) (n:Nat) (az:List PV) (b:HB) (q:PV) (rows:List PV):Prop:=∃ m0,∀ k e m,m0≤k→P k e→m0≤m→yAA (ybE e m) n az b=some (q,rows)
structure SEOk (P:EP) (S:SE):Prop where
 sb:Sub P S.E
 sum:∀ n wp,S.sumK n=some wp→∀ az K,wp az K→∃ r,K r∧AnsP P n az r
 inl:∀ n fn,S.inl n=some fn→S.E.fns n=some fn.fn∧S.E.qui n=false∧S.E.frz n=false∧(∀ az,S.E.sum n az=none)∧(∀ az H,S.E.eff n az H=none)∧ydu fn.body=true∧LpOk P S.E S.lp [] fn.body
 eff:yDh S.E
 sumL:∀ n wp,S.sumL n=some wp→∀ az b K,wp az b K→∃ q rows,K q rows∧AnsL P n az b q rows
section
variable {S:SE} {P:EP} {callK:CK} {H:Hp}
theorem ygT {E e:Env} (h:Like E e):e.fns=E.fns∧e.sum=E.sum∧e.qui=E.qui∧e.frz=E.frz∧e.rb=E.rb∧e.nl=E.nl∧e.eff=E.eff:=by
 unfold Like at h
 rw [h]
 exact ⟨rfl,rfl,rfl,rfl,rfl,rfl,rfl⟩
theorem yEM (hP:Sub P S.E) (hG:Good P callK) {fn:TFn} (hR:ynq P S.E callK fn.body) (hl:LpOk P S.E S.lp [] fn.body) {n:Nat} (hf:S.E.fns n=some fn.fn) (he:∀ az H,S.E.eff n az H=none) {args:List PV} {K:PV→Hp→Prop} (h:WFn S.E callK S.lp fn args H K) :
  ∃ r H',K r H'∧∃ m0,∀ k e m,m0≤k→P k e→m0≤m→ybE e m n args H=some (r,H'):=by
 obtain ⟨h1,h⟩:=yaB.1 h
 have h1:args.length=fn.nparams:=by simpa using h1
 obtain ⟨x,F',H',hk,m0,hm⟩:=yvx fn.body P hP hG hR [] noYK (YOk.no _ _) hl _ H _ h
 have key:(match yhz F' H' fn.results with | some ps=>K (yhA ps) H' | none=>False)→(x=.norm∨x=.ret) →
   ∃ r H',K r H'∧∃ m0,∀ k e m,m0≤k→P k e→m0≤m→ybE e m n args H=some (r,H'):=by
  intro hk hx
  split at hk
  ·rename_i ps hps
   refine ⟨_,_,hk,m0+1,fun k e m hkl hp hle=>?_⟩
   obtain ⟨q,rfl⟩:∃ q,m=q+1:=⟨m-1,by omega⟩
   have e0:=hm k e q (by omega) hp (by omega)
   obtain ⟨l1,_,_,_,_,_,l7⟩:=ygT (hP k e hp)
   simp only [ybE,Env.effx,yj5,l7,l1,he,hf,TFn.fn,h1,if_true]
   rw [e0]
   rcases hx with rfl | rfl <;> simp only [hps]
  ·exact hk.elim
 cases x with
 | norm=>exact key hk (.inl rfl)
 | exit i=>exact hk.elim
 | brk _ _=>exact hk.elim
 | ret=>exact key hk (.inr rfl)
theorem yHh {H:Hp} {x:PV} {K:PV→Hp→Prop} (h:yA1 H x K):∃ q H',K q H'∧yzH H x=some (q,H'):=by
 cases x with
 | tup ps =>
  simp only [yA1] at h
  obtain ⟨ys,H',h,e⟩:=yoe ps H _ h
  exact ⟨_,_,h,by simp only [yzH,e]⟩
 | _ =>
  simp only [yA1] at h
  obtain ⟨y,H',h,e⟩:=ylq h
  exact ⟨_,_,h,by simp only [yzH,e]⟩
theorem ysP {e:Env} {call:Nat→List PV→Hp→Option (PV×Hp)} {f:PV} {args:List PV} (h:yqo e f args=none):yj7 e call f args H=yil e call f args H:=by
 simp only [yj7,h]
theorem ya3 (hS:SEOk P S):∀ d,Good P (yqA S d)
 | 0,f,args,H,K,h=>h.elim
 | d+1,f,args,H,K,h=>by
  unfold yqA at h
  split at h
  ·rename_i n first captured
   split at h
   ·rename_i x hx
    split at h
    ·rename_i wp hwp
     unfold WLoc at h
     obtain ⟨az,H',h,hp⟩:=yoe _ _ _ h
     split at h
     ·rename_i b hb
      obtain ⟨hc,h⟩:=yaB.1 h
      simp only [qAc,qAv] at hc
      obtain ⟨q,rows,hk,m0,hm⟩:=hS.sumL _ wp hwp _ _ _ h
      refine ⟨q,_,hk,m0,fun k e m hkl he hle=>?_⟩
      simp only [yj7,ymg (hS.sb k e he),hx,yt5,hp,hb]
      rw [if_pos hc]
      simp only [hm k e m hkl he hle]
     ·exact h.elim
    ·exact h.elim
   rename_i hx
   have hx':∀ k e,P k e→yqo e (.fn (.func n) first captured) args=none:=fun k e he=>(ymg (hS.sb k e he) _ _).trans hx
   split at h
   ·rename_i wp hwp
    cases hb:S.E.rb n with
    | true =>
     rw [hb,cond_true] at h
     obtain ⟨az,h,hp⟩:=yz1 _ _ h
     obtain ⟨r,hk,m0,hm⟩:=hS.sum n wp hwp az _ h
     obtain ⟨hs,hk⟩:=yaB.1 hk
     refine ⟨r,_,hk,m0,fun k e m hkl he hle=>?_⟩
     obtain ⟨_,_,_,_,l5,_,_⟩:=ygT (hS.sb k e he)
     rw [ysP (hx' k e he)]
     simp only [yil,l5,hb,if_true,hp,hm k e m hkl he hle,hs]
    | false =>
     rw [hb,cond_false] at h
     obtain ⟨az,H',h,hp⟩:=yoe _ _ _ h
     obtain ⟨r,hk,m0,hm⟩:=hS.sum n wp hwp az _ h
     refine ⟨r,_,hk,m0,fun k e m hkl he hle=>?_⟩
     obtain ⟨_,_,_,_,l5,_,_⟩:=ygT (hS.sb k e he)
     rw [ysP (hx' k e he)]
     simp only [yil,l5,hb,qAo,if_false,hp,hm k e m hkl he hle]
     cases r.scalar <;> simp
   ·split at h
    ·rename_i fn hfn
     obtain ⟨h1,h2,h3,h4,h6,h7,h5⟩:=hS.inl n fn hfn
     cases hb:S.E.rb n with
     | true =>
      rw [hb,cond_true] at h
      exact h.elim
     | false =>
      rw [hb,cond_false] at h
      obtain ⟨r,H',hk,m0,hm⟩:=yEM hS.sb (ya3 hS d) (fun hf=>by rw [h7] at hf;cases hf) h5 h1 h6 h
      refine ⟨r,H',hk,m0,fun k e m hkl he hle=>?_⟩
      obtain ⟨_,l2,l3,l4,l5,_,_⟩:=ygT (hS.sb k e he)
      have e0:∀ az,ydK e (ybE e m) n az=none:=by
       intro az;simp only [ydK,l2,l3,h4 az,h2];rfl
      rw [ysP (hx' k e he)]
      simp only [yil,e0,l3,l4,l5,h2,h3,hb]
      cases ya7 H (first++args++captured) <;> simp only [qAo,if_false,hm k e m hkl he hle]
    ·split at h
     ·rename_i c t x y he
      obtain ⟨hc,h⟩:=yaB.1 h
      subst hc
      obtain ⟨h2,h3,h4,h7⟩:=hS.eff n _ _ _ he
      obtain ⟨r,H',h,hrt⟩:∃ r H',K r H'∧(bif t then x else y)=(r,H'):=by
       cases t with
       | true=>exact ⟨_,_,h,rfl⟩
       | false=>exact ⟨_,_,h,rfl⟩
      refine ⟨r,H',h,1,fun k e m hkl hp hle=>?_⟩
      obtain ⟨k,rfl⟩:∃ k,m=k+1:=⟨m-1,by omega⟩
      obtain ⟨_,l2,l3,l4,l5,_,l7⟩:=ygT (hS.sb _ e hp)
      have e0:∀ az,ydK e (ybE e (k+1)) n az=none:=by
       intro az;simp only [ydK,l2,l3,h4 az,h2];rfl
      have hi:ybE e (k+1) n (first++args++captured) H=some (r,H'):=by
       simp only [ybE,Env.effx,yj5,l7,he,hrt]
      rw [ysP (hx' _ e hp)]
      simp only [yil,e0,l3,l4,l5,h2,h3,h7]
      cases ya7 H (first++args++captured) <;> simp only [qAo,if_false,hi]
     ·exact h.elim
  ·exact h.elim
theorem yLI (hS:SEOk P S) {d:Nat} {fn:TFn} {n:Nat} (hR:ynq P S.E (yqA S d) fn.body) (hl:LpOk P S.E S.lp [] fn.body) (hf:S.E.fns n=some fn.fn) (hq:S.E.qui n=true) (hs:∀ az,S.E.sum n az=none) (he:∀ az H,S.E.eff n az H=none) {az:List PV} {K:PV→Prop} (h:WP S d fn az K) (hn:S.E.nl n=false:=by kernel_rfl) :
  ∃ r,K r∧AnsP P n az r:=by
 unfold WP at h
 obtain ⟨r,H',hk,m0,hm⟩:=yEM hS.sb (ya3 hS d) hR hl hf he h
 obtain ⟨q,hk,hq'⟩:=yIC hk
 refine ⟨q,hk,m0,fun k e m hkl hp hle=>?_⟩
 obtain ⟨_,l2,l3,_,_,l6,_⟩:=ygT (hS.sb k e hp)
 simp only [ydK,l2,l3,l6,hs az,hq,hm k e m hkl hp hle,hn,purN,cond_false,hq',if_true]
theorem yxG (hS:SEOk P S) {d:Nat} {fn:TFn} {n:Nat} (hR:ynq P S.E (yqA S d) fn.body) (hl:LpOk P S.E S.lp [] fn.body) (hf:S.E.fns n=some fn.fn) (he:∀ az H,S.E.eff n az H=none) {az:List PV} {b:HB} {K:PV→List PV→Prop} (h:WPL S d fn az b K) :
  ∃ q rows,K q rows∧AnsL P n az b q rows:=by
 unfold WPL at h
 obtain ⟨r,H',hk,m0,hm⟩:=yEM hS.sb (ya3 hS d) hR hl hf he h
 obtain ⟨q,H2,hk,hq'⟩:=yHh hk
 split at hk
 ·rename_i b2 hb2
  obtain ⟨hc,hk⟩:=yaB.1 hk
  simp only [qAc,qAv,decide_eq_true_eq] at hc
  refine ⟨q,_,hk,m0,fun k e m hkl hp hle=>?_⟩
  simp only [yAA,hm k e m hkl hp hle,hq',hb2]
  rw [if_pos hc]
 ·exact hk.elim
theorem ynq.flat {E:Env} {c:TC} (h:ydu c=true:=by kernel_rfl):ynq P E callK c:=fun hf=>by rw [h] at hf;cases hf
end
def AllL (P:EP) (lp:LP) (G:Frm):List (Nat×TC)→Prop
 | []=>True
 | p::r=>(∀ F H Q,lp p.1 G F H Q→yof P p.2 F H Q)∧AllL P lp G r
theorem AllL.mem {P:EP} {lp:LP} {G:Frm}:∀ {l:List (Nat×TC)},AllL P lp G l→∀ p∈l,∀ F H Q,lp p.1 G F H Q→yof P p.2 F H Q
 | [],_,p,hp=>by cases hp
 | q::r,h,p,hp=>by
  rcases qAq.1 hp with rfl | hp
  ·exact h.1
  ·exact AllL.mem h.2 p hp
theorem ybq {P:EP} {E:Env} {lp:LP} {G:Frm} {c:TC} {l:List (Nat×TC)} (h:AllL P lp G l) (e:ycH c=l) (hf:ydu c=true:=by kernel_rfl):LpOk P E lp G c:=yiM c hf (by rw [e];exact h.mem)
theorem yaq {P:EP} {E:Env} {lp:LP} {G:Frm} {c:TC} (e:ycH c=[]) (hf:ydu c=true:=by kernel_rfl):LpOk P E lp G c:=ybq (l:=[]) trivial e hf
def ygu:List (Nat×(List PV→(PV→Prop)→Prop))→Nat→Option (List PV→(PV→Prop)→Prop)
 | [],_=>none
 | (k,f)::r,n=>bif Nat.beq k n then some f else ygu r n
def ygv:List (Nat×TFn)→Nat→Option TFn
 | [],_=>none
 | (k,f)::r,n=>bif Nat.beq k n then some f else ygv r n
def AllS (P:EP):List (Nat×(List PV→(PV→Prop)→Prop))→Prop
 | []=>True
 | (k,f)::r=>(∀ az K,f az K→∃ q,K q∧AnsP P k az q)∧AllS P r
def AllI (P:EP) (E:Env) (lp:LP):List (Nat×TFn)→Prop
 | []=>True
 | (k,f)::r=>(E.fns k=some f.fn∧E.qui k=false∧E.frz k=false∧(∀ az,E.sum k az=none)∧(∀ az H,E.eff k az H=none)∧ydu f.body=true∧LpOk P E lp [] f.body)∧AllI P E lp r
theorem yxH {P:EP}:∀ (l:List (Nat×(List PV→(PV→Prop)→Prop))),AllS P l→∀ n wp,ygu l n=some wp→∀ az K,wp az K→∃ r,K r∧AnsP P n az r
 | [],_,_,_,h=>by simp [ygu] at h
 | (k,f)::r,hl,n,wp,h=>by
  simp only [AllS] at hl
  simp only [ygu] at h
  cases hc:Nat.beq k n with
  | true =>
   rw [hc] at h
   simp only [cond_true,qAa] at h
   have:=qAf hc
   subst this;subst h
   exact hl.1
  | false =>
   rw [hc] at h
   exact yxH r hl.2 n wp (by simpa using h)
theorem yxI {P:EP} {E:Env} {lp:LP}:∀ (l:List (Nat×TFn)),AllI P E lp l→∀ n fn,ygv l n=some fn→E.fns n=some fn.fn∧E.qui n=false∧E.frz n=false∧(∀ az,E.sum n az=none)∧(∀ az H,E.eff n az H=none)∧ydu fn.body=true∧LpOk P E lp [] fn.body
 | [],_,_,_,h=>by simp [ygv] at h
 | (k,f)::r,hl,n,fn,h=>by
  simp only [AllI] at hl
  simp only [ygv] at h
  cases hc:Nat.beq k n with
  | true =>
   rw [hc] at h
   simp only [cond_true,qAa] at h
   have:=qAf hc
   subst this;subst h
   exact hl.1
  | false =>
   rw [hc] at h
   exact yxI r hl.2 n fn (by simpa using h)
def ylr:List (Nat×(List PV→HB→(PV→List PV→Prop)→Prop))→Nat→Option (List PV→HB→(PV→List PV→Prop)→Prop)
 | [],_=>none
 | (k,f)::r,n=>bif Nat.beq k n then some f else ylr r n
def yGb (P:EP):List (Nat×(List PV→HB→(PV→List PV→Prop)→Prop))→Prop
 | []=>True
 | (k,f)::r=>(∀ az b K,f az b K→∃ q rows,K q rows∧AnsL P k az b q rows)∧yGb P r
theorem yDi {P:EP}:∀ (l:List (Nat×(List PV→HB→(PV→List PV→Prop)→Prop))),yGb P l→∀ n wp,ylr l n=some wp→∀ az b K,wp az b K→∃ q rows,K q rows∧AnsL P n az b q rows
 | [],_,_,_,h=>by simp [ylr] at h
 | (k,f)::r,hl,n,wp,h=>by
  simp only [yGb] at hl
  simp only [ylr] at h
  cases hc:Nat.beq k n with
  | true =>
   rw [hc] at h
   simp only [cond_true,qAa] at h
   have:=qAf hc
   subst this;subst h
   exact hl.1
  | false =>
   rw [hc] at h
   exact yDi r hl.2 n wp (by simpa using h)
theorem yid {P:EP} {E:Env} {ls:List (Nat×(List PV→(PV→Prop)→Prop))} {li:List (Nat×TFn)} {lp:LP} {ll:List (Nat×(List PV→HB→(PV→List PV→Prop)→Prop))} (hb:Sub P E) (hs:AllS P ls) (hi:AllI P E lp li) (he:yDh E) (hL:yGb P ll):SEOk P ⟨E,ygu ls,ygv li,lp,ylr ll⟩ where
 sb:=hb
 sum:=fun n wp h=>yxH ls hs n wp h
 inl:=fun n fn h=>yxI li hi n fn h
 eff:=he
 sumL:=fun n wp h=>yDi ll hL n wp h
theorem yaz {P:EP} {E:Env} {ls:List (Nat×(List PV→(PV→Prop)→Prop))} {li:List (Nat×TFn)} {lp:LP} (hb:Sub P E) (hs:AllS P ls) (hi:AllI P E lp li) (he:yDh E):SEOk P ⟨E,ygu ls,ygv li,lp,fun _=>none⟩ where
 sb:=hb
 sum:=fun n wp h=>yxH ls hs n wp h
 inl:=fun n fn h=>yxI li hi n fn h
 eff:=he
 sumL:=fun n wp h=>by cases h
theorem yz4 {add sub n:Nat} (h1:Nat.beq n add=false) (h2:Nat.beq n sub=false) (az:List PV):sumC add sub n az=none:=by
 unfold sumC
 split
 ·rw [h1,h2];rfl
 ·rfl
def yjd (p0 p1 p2:Int) (K:Int→Int→Prop):Prop :=
 asr (decide (p2.toNat≤1)) (K (((p0.toNat+p1.toNat+p2.toNat) % 18446744073709551616:Nat):Int) (((p0.toNat+p1.toNat+p2.toNat) / 18446744073709551616:Nat):Int))
def ygU:List PV:=([0,1,2,2,3,3,3,3,4,4,4,4,4,4,4,4,5,5,5,5,5,5,5,5,5,5,5,5,5,5,5,5,6,6,6,6,6,6,6,6,6,6,6,6,6,6,6,6,6,6,6,6,6,6,6,6,6,6,6,6,6,6,6,6,7,7,7,7,7,7,7,7,7,7,7,7,7,7,7,7,7,7,7,7,7,7,7,7,7,7,7,7,7,7,7,7,7,7,7,7,7,7,7,7,7,7,7,7,7,7,7,7,7,7,7,7,7,7,7,7,7,7,7,7,7,7,7,7,8,8,8,8,8,8,8,8,8,8,8,8,8,8,8,8,8,8,8,8,8,8,8,8,8,8,8,8,8,8,8,8,8,8,8,8,8,8,8,8,8,8,8,8,8,8,8,8,8,8,8,8,8,8,8,8,8,8,8,8,8,8,8,8,8,8,8,8,8,8,8,8,8,8,8,8,8,8,8,8,8,8,8,8,8,8,8,8,8,8,8,8,8,8,8,8,8,8,8,8,8,8,8,8,8,8,8,8,8,8,8,8,8,8,8,8,8,8,8,8,8,8,8,8,8,8,8,8]:List Int).map (PV.int .u8)
def yre (w:Int→Int→Int→(Int→Int→Prop)→Prop) (az:List PV) (K:PV→Prop):Prop :=
 match az with
 | [(.int .u64 p0),(.int .u64 p1),(.int .u64 p2)]=>w p0 p1 p2 (fun (r0:Int) (r1:Int)=>K (.tup [(.int .u64 r0),(.int .u64 r1)]))
 | _=>False
def yrf (az:List PV) (K:PV→Prop):Prop:=yre yjd az K
def yje (p0 p1 p2:Int) (K:Int→Int→Prop):Prop :=
 asr (decide (p2.toNat≤1)) (K (((p0.toNat+18446744073709551616-p1.toNat-p2.toNat) % 18446744073709551616:Nat):Int) ((bif Nat.ble (p1.toNat+p2.toNat) p0.toNat then 0 else 1:Nat):Int))
def yrg (w:Int→Int→Int→(Int→Int→Prop)→Prop) (az:List PV) (K:PV→Prop):Prop :=
 match az with
 | [(.int .u64 p0),(.int .u64 p1),(.int .u64 p2)]=>w p0 p1 p2 (fun (r0:Int) (r1:Int)=>K (.tup [(.int .u64 r0),(.int .u64 r1)]))
 | _=>False
def yrh (az:List PV) (K:PV→Prop):Prop:=yrg yje az K
theorem yGc {P:Program} {E:Env} (hE:EO P E) (hm:P.follows .mixedOrders=true) {n:Nat} {az:List PV} {r:PV} (hs:E.sum n az=none) (hq:E.qui n=true) (h:AnsS E n az r):ylp P E.glob n az r:=by
 obtain ⟨m0,hm0⟩:=h
 have:=hm0 m0 E m0 (qAi _) rfl (qAi _)
 simp only [ydK,hs,hq,if_true] at this
 refine yFV hE hm (n:=m0) ?_
 unfold topV
 split at this
 ·rename_i x H hx;rw [hx];exact this
 ·cases this
end Go.Pf
namespace Go.Pf
open Go Go.RowKit
section
variable {P:Program} {E:Env}
theorem yHi {b:Bool} {call} (hc:ybj P E call) {I:Nat→Prop} {w:World} {f:Nat} {args:List PV} {vs:List Value} {r q:PV} {H:Hp} (himm:∀ b,I b→b<w.heap.size)
  (hg:∀ n x,E.glob n=some x→I n∧∃ vs,0<vs.length∧RC I w x vs∧At w n 0 vs) (hv:VRs ⟨fun _=>none,fun _=>none,I,fun _=>none⟩ [] w args vs) (hin:call f args []=some (r,H)) (h:purN b H r=some q) :
  yib P f vs.toArray w fun v w'=>Bel w.heap.size w w'∧VP (fun b=>I b∨(w.heap.size≤b∧b<w'.heap.size)) w' q v:=by
 let g0:Gh:=⟨fun _=>none,fun _=>none,I,fun _=>none⟩
 have hr:Rel E 0 g0 [] [] #[] w:=by
  refine ⟨qBd _,fun s fv e=>by simp [fget] at e,fun id hb e=>by simp at e,fun id id' hb b o b' o' e=>by simp at e,fun id b o e=>by simp [g0] at e,fun s s' b e=>by simp [g0] at e,fun s b id o e=>by simp [g0] at e,fun s b e=>by simp [g0] at e,himm,hg⟩
 refine (hc f args [] r H hin 0 g0 [] #[] w vs hr (Lps.none_ fun _=>rfl) hv).mono ?_
 rintro v w' ⟨g',n1,r1,hvr⟩
 obtain ⟨g2,H2,r2,n2,hvp⟩:=yxd r1 hvr h
 have n3:=n1.trans n2
 have noR:∀ b,¬RngR g0 b:=fun b ⟨id,o,e⟩=>by simp [g0] at e
 have noM:∀ b,¬MutF g0 b:=fun b ⟨s,e⟩=>by simp [g0] at e
 refine ⟨⟨⟨n3.os,n3.tape,n3.output,n3.size,fun k hk=>n3.kept k hk (noR k) (noM k)⟩,n3.drawn⟩,yAO (fun b hb=>⟨?_,rfl⟩) hvp⟩
 rcases qAz b w.heap.size with h1 | h1
 ·rcases hb with hb | hb
  ·rcases n3.immb b h1 hb with h2 | h2
   ·exact .inl h2
   ·exact absurd h2 (noR b)
  ·exact absurd (n3.rng b h1 hb) (noR b)
 ·exact .inr ⟨h1,hb.elim (r2.imm b) r2.brng⟩
theorem yK8 (hE:EO P E) (hm:P.follows .mixedOrders=true) {n f:Nat} {q:PV} (h:∀ b,topV E n f [.mt b]=some q):ylp P E.glob f [.data []] q:=by
 intro I w vs himm hgl hv
 simp only [VPs,VP1,RC] at hv
 obtain ⟨v,vr,rfl,⟨a,len,cap,e,hl,hc,hm2,_⟩,rfl⟩:=hv
 simp only [qAs,and_true] at e
 subst e
 have hl:len=0:=hl
 subst hl
 have hh:=h a.isNone
 unfold topV at hh
 split at hh
 ·rename_i r H hin
  refine yHi (ypH hE hm n) himm hgl (args:=[.mt a.isNone]) ?_ hin hh
  simp only [VRs,VR]
  exact ⟨_,_,rfl,⟨a,cap,rfl,hm2,rfl⟩,rfl⟩
 ·cases hh
end
def yju (esz bytes:Nat) (z:PV):AFn:=⟨1,[.tmp 2],
 (.seq
  (.ops [⟨some 2,(.mv (.c .nils)),none⟩] [] [2])
  (.seq
   (.seq
    (.ops [⟨some 3,(.mv (.t 0)),none⟩,
     ⟨some 4,(.eqN false (.t 3)),none⟩] [] [3])
    (.cond (.t 4)
     (.seq (.ops [⟨some 2,(.mv (.c .nils)),none⟩] [] [0,4]) .ret)
     .skip))
   (.seq
    (.ops [⟨some 5,(.bSl true esz z 0 []),none⟩,
     ⟨some 6,(.mv (.t 0)),none⟩,
     ⟨some 7,(.app true esz bytes (.t 5) (.t 6)),none⟩,
     ⟨some 2,(.mv (.t 7)),none⟩] [] [0,4,5,6,7])
    .ret)))⟩
abbrev yeC:=List (Nat×Nat×Nat)
def yea (esz bytes:Nat) (rows:List PV):Bool:=ydC esz rows&&decide ((rows.length+64)*(bytes+1)≤room)
def ygV:yeC→Nat→List PV→Option PV
 | [],_,_=>none
 | (k,esz,bytes)::r,n,az=>bif Nat.beq k n then (match az with
  | [.data rows]=>(bif yea esz bytes rows then some (.data rows) else none)
  | _=>none) else ygV r n az
def ysQ:yeC→Nat→Bool
 | [],_=>false
 | (k,_,_)::r,n=>Nat.beq k n||ysQ r n
section
variable {P:Program} {E:Env}
theorem yIG {n esz bytes:Nat} {z:PV} (hf:E.fns n=some (yju esz bytes z)) (he:∀ az H,E.eff n az H=none) (hnl:E.nl n=false) (b:Bool):topV E 12 n [.mt b]=some (.data []):=by
 unfold topV
 cases b <;> simp [ybE,Env.effx,yj5,he,exec,hf,yju,ykK,yez,yhy,yde,yas,evV,ev,yim,fget,fset,fdels,fdel,yeJ,ydg,outV,Option.map,yhz,yvh,yhA,purN,hnl,purR,ybM,yeI,appV,ygc,ydC,ynk]
theorem yEN {n esz bytes:Nat} {z:PV} (hf:E.fns n=some (yju esz bytes z)) (he:∀ az H,E.eff n az H=none) (hnl:E.nl n=false) {x:PV} {r:List PV} (h:yea esz bytes (x::r)=true):topV E 12 n [.data (x::r)]=some (.data (x::r)):=by
 simp only [yea,qAc,decide_eq_true_eq,qAn] at h
 obtain ⟨h1,h2⟩:=h
 unfold topV
 simp [ybE,Env.effx,yj5,he,exec,hf,yju,ykK,yez,yhy,yde,yas,evV,ev,yim,fget,fset,fdels,fdel,yeJ,ydg,outV,Option.map,yhz,yvh,yhA,purN,hnl,purR,ybM,yeI,appV,ygc,h1,ynk,ycx,h2]
theorem yvy (hE:EO P E) (hm:P.follows .mixedOrders=true) (he:∀ n az H,E.eff n az H=none) (hnl:∀ n,E.nl n=false):∀ (cl:yeC),(∀ n esz bytes,(n,esz,bytes)∈cl→∃ z,E.fns n=some (yju esz bytes z))→∀ n az r,ygV cl n az=some r→ylp P E.glob n az r
 | [],_,_,_,_,h=>by simp [ygV] at h
 | (k,esz,bytes)::t,hc,n,az,r,h=>by
  simp only [ygV] at h
  cases hb:Nat.beq k n with
  | false=>rw [hb] at h;exact yvy hE hm he hnl t (fun n e b hm=>hc n e b (qAj _ hm)) n az r (by simpa using h)
  | true =>
   rw [hb] at h
   have e:=qAf hb
   subst e
   simp only [cond_true] at h
   split at h
   ·rename_i rows
    cases hk:yea esz bytes rows with
    | false=>rw [hk] at h;simp at h
    | true =>
     rw [hk] at h
     simp only [cond_true,qAa] at h
     subst h
     obtain ⟨z,hf⟩:=hc k esz bytes qAm
     cases rows with
     | nil=>exact yK8 hE hm (fun b=>yIG hf (he k) (hnl k) b)
     | cons x r=>exact yFV hE hm (yEN hf (he k) (hnl k) hk)
   ·cases h
end
def yKB:List (Nat×PV)→Nat→Option PV
 | [],_=>none
 | (k,a)::r,n=>bif Nat.beq k n then some a else yKB r n
theorem ylp.any {P:Program} {G:Nat→Option PV} {f:FuncId} {az:List PV} {r:PV} (h:ylp P (fun _=>none) f az r):ylp P G f az r :=
 fun I w vs hI _ hv=>h I w vs hI (fun _ _ e=>nomatch e) hv
def ynr (add sub:Nat) (tab:List (Nat×AFn)) (qui:List Nat) (cl:yeC) (gl:List (Nat×PV)):Env :=
 { glob:=yKB gl,sum:=fun n az=>match sumC add sub n az with | some r=>some r | none=>ygV cl n az,fns:=yxo tab,frz:=fun _=>false,qui:=memN qui,nl:=fun n=>memN qui (n+1000000),rb:=fun n=>memN qui (n+3000000),lo:=fun n=>bif memN qui (n+4000000) then some 1 else bif memN qui (n+5000000) then some 0 else bif memN qui (n+2000000) then some 4 else none,dn:=fun n=>memN qui (n+6000000) }
def ysR (add sub:Nat) (cl:yeC) (n:Nat):Bool:=Nat.beq n add||(Nat.beq n sub||ysQ cl n)
theorem yqC:∀ (cl:yeC) (n:Nat) (az:List PV),ysQ cl n=false→ygV cl n az=none
 | [],_,_,_=>rfl
 | (k,_,_)::r,n,az,h=>by
  simp only [ysQ,qB0] at h
  simp only [ygV,h.1,cond_false]
  exact yqC r n az h.2
theorem yEO {add sub:Nat} {tab:List (Nat×AFn)} {qui:List Nat} {cl:yeC} {gl:List (Nat×PV)} {n:Nat} (h:ysR add sub cl n=false) (az:List PV):(ynr add sub tab qui cl gl).sum n az=none:=by
 simp only [ysR,qB0] at h
 simp only [ynr,yz4 h.1 h.2.1,yqC cl n az h.2.2]
def yGd (esz bytes:Nat) (p0:List PV) (K:List PV→Prop):Prop:=asr (yea esz bytes p0) (K p0)
def yxJ (w:List PV→(List PV→Prop)→Prop) (az:List PV) (K:PV→Prop):Prop :=
 match az with
 | [(.data p0)]=>w p0 (fun r0=>K (.data r0))
 | _=>False
def yxK (esz bytes:Nat) (az:List PV) (K:PV→Prop):Prop:=yxJ (yGd esz bytes) az K
def ysS:yeC→Nat→Option (Nat×Nat)
 | [],_=>none
 | (k,e,b)::r,n=>bif Nat.beq k n then some (e,b) else ysS r n
theorem yvz {n esz bytes:Nat} {rows:List PV}:∀ (cl:yeC),ysS cl n=some (esz,bytes)→yea esz bytes rows=true→ygV cl n [.data rows]=some (.data rows)
 | [],h,_=>by simp [ysS] at h
 | (k,e,b)::r,h,hk=>by
  simp only [ysS] at h
  simp only [ygV]
  cases hb:Nat.beq k n with
  | true=>rw [hb] at h;simp only [cond_true,qAa,Prod.mk.injEq] at h;obtain ⟨rfl,rfl⟩:=h;simp only [cond_true,hk]
  | false=>rw [hb] at h;simp only [cond_false] at h ⊢;exact yvz r h hk
theorem yIH {P:Program} {add sub:Nat} {tab:List (Nat×AFn)} {qui:List Nat} {cl:yeC} {gl:List (Nat×PV)} (hm:P.follows .mixedOrders=true) (ha:IsExtern P add add64Entry) (hs:IsExtern P sub yxr) (ht:yxp P tab)
  (hd:∀ n∈dnL qui,yLH P n) (hc:∀ n esz bytes,(n,esz,bytes)∈cl→∃ z,yxo tab n=some (yju esz bytes z)):EO P (ynr add sub tab qui cl gl) where
 sum:=by
  intro n az r h
  simp only [ynr] at h
  split at h
  ·rename_i q hq;cases h;exact yFX ha hs n az _ hq
  ·exact (yvy (yJ2 (qui:=[]) ha hs ht) hm (fun _ _ _=>rfl) (fun _=>rfl) cl (fun n e b hmem=>hc n e b hmem) n az r h).any
 fns:=fun n fn h=>yxq tab ht n fn h
 eff:=fun _ _ _ _ _ _ _ h=>by cases h
 dn:=fun n h=>hd n (yFY h)
 top:=fun _ _=>rfl
 yl:=fun _ _ _ _ _ _ h=>by cases h
end Go.Pf
namespace Go.Pf
abbrev Ls:Type:=List PV
def O (d:Nat) (x:AOp):AO:=⟨some d,x,none⟩
def M (d s:Nat):AO:=⟨some d,.mv (.t s),none⟩
def I (n:Int):Opd:=.c (.int .i64 n)
abbrev OkF (E:Env) (wp:List PV→(PV→Prop)→Prop) (n:Nat):Prop:=∀ az K,wp az K→∃ r,K r∧Ans E n az r
abbrev OkL (E:Env) (wp:List PV→HB→(PV→List PV→Prop)→Prop) (n:Nat):Prop:=∀ az b K,wp az b K→∃ q rows,K q rows∧AnsL (Uni E) n az b q rows
abbrev OkS (E:Env) (wp:List PV→(PV→Prop)→Prop) (n:Nat):Prop:=∀ az K,wp az K→∃ r,K r∧AnsS E n az r
theorem OkF.solo {E:Env} {wp:List PV→(PV→Prop)→Prop} {n:Nat} (h:OkF E wp n):OkS E wp n:=fun az K k=>by
 obtain ⟨r,h1,h2⟩:=h az K k
 exact ⟨r,h1,h2.solo⟩
theorem AnsS.unique {E:Env} {n:Nat} {az:List PV} {r r':PV} (h:AnsS E n az r) (h':AnsS E n az r'):r=r':=by
 obtain ⟨m,hm⟩:=h
 obtain ⟨m',hm'⟩:=h'
 have e:=hm (m+m') E (m+m') (by omega) rfl (by omega)
 rw [hm' (m+m') E (m+m') (by omega) rfl (by omega)] at e
 exact (Option.some.inj e).symm
theorem detS {E:Env} {n:Nat} {wp:List PV→(PV→Prop)→Prop} (ok:OkS E wp n) {az:List PV} {x:PV}
  (h:∀ K:PV→Prop,K x→wp az K) {K:PV→Prop} (k:wp az K):K x:=by
 obtain ⟨r,h1,h2⟩:=ok az K k
 obtain ⟨q,h3,h4⟩:=ok az (fun y=>y=x) (h _ rfl)
 subst h3
 rw [← h2.unique h4]
 exact h1
theorem detC {E:Env} {n:Nat} {wp:List PV→(PV→Prop)→Prop} (ok:∀ az K,wp az K→∃ r,K r∧Ans E n az r) {az:List PV} {x:PV}
 (h:∀ K:PV→Prop,K x→wp az K) {K:PV→Prop} (k:wp az K):K x:=detS (OkF.solo ok) h k
end Go.Pf
namespace Go.Pf
open Go
inductive DS where
 | b
 | i (k:IntKind)
 | s (e:DS)
 | a (l:List DS)
def DS.isA:DS→Bool
 | .a _=>true
 | _=>false
def PV.isAgg:PV→Bool
 | .agg _=>true
 | _=>false
mutual
def HasF:DS→List PV→Prop
 | .b,c=>∃ x,c=[.bool x]
 | .i k,c=>∃ n,c=[.int k n]∧inK k n
 | .s e,c=>∃ rows:List PV,c=[.data rows]∧rows.length≤maxLen∧∀ x∈rows,x.isAgg=e.isA∧HasF e x.cells
 | .a l,c=>HasL l c
def HasL:List DS→List PV→Prop
 | [],c=>c=[]
 | d::l,c=>∃ c1 c2,c=c1++c2∧HasF d c1∧HasL l c2
end
mutual
def tyOk (P:Program):DS→TypeId→Bool
 | .b,t=>(match P.underlying t with | some .bool=>true | _=>false)
 | .i k,t=>(match P.underlying t with | some (.int q)=>decide (q=k) | _=>false)
 | .s e,t=>(match P.underlying t with | some (.slice u)=>decide (0<P.cellsOf u)&&tyOk P e u | _=>false)
 | .a l,t=>(match P.underlying t with | some (.struct fs)=>tyL P l (fs.toList.map (·.type)) | some (.array n u)=>tyL P l (List.replicate n u) | _=>false)
def tyL (P:Program):List DS→List TypeId→Bool
 | [],[]=>true
 | d::l,t::r=>tyOk P d t&&tyL P l r
 | _,_=>false
end
theorem yGe (P:Program):∀ (l:List DS) (ts:List TypeId),tyL P l ts=true→l.length=ts.length
 | [],[],_=>rfl
 | _::l,_::r,h=>by
  unfold tyL at h
  simp only [qAc] at h
  simp [yGe P l r h.2]
 | [],_::_,h=>by unfold tyL at h;cases h
 | _::_,[],h=>by unfold tyL at h;cases h
theorem yGf (P:Program):∀ (l:List DS) (ts:List TypeId),tyL P l ts=true→∀ (j:Nat) d t,l[j]?=some d→ts[j]?=some t→tyOk P d t=true
 | [],[],_,_,_,_,h,_=>by simp at h
 | d::l,t::r,h,0,d',t',h1,h2=>by
  unfold tyL at h
  simp only [qAc] at h
  simp only [List.getElem?_cons_zero,qAa] at h1 h2
  subst h1;subst h2;exact h.1
 | d::l,t::r,h,j+1,d',t',h1,h2=>by
  unfold tyL at h
  simp only [qAc] at h
  exact yGf P l r h.2 j d' t' (by simpa using h1) (by simpa using h2)
 | [],_::_,h,_,_,_,_,_=>by unfold tyL at h;cases h
 | _::_,[],h,_,_,_,_,_=>by unfold tyL at h;cases h
section
variable {H:Type} {enc:TypeId×Value→H} {P:Program} {w:World} {I:Nat→Prop}
theorem yEP {l1 l2:List PV} {v1 v2:List Value} (h1:ya0 I w l1 v1) (h2:ya0 I w l2 v2):ya0 I w (l1++l2) (v1++v2):=ykN h1 h2
def yKC (enc:TypeId×Value→H) (P:Program) (w:World) (I:Nat→Prop) (n:Nat):Prop :=
 ∀ (d:DS) (t:TypeId) (cs:List Value) (x:DataW H×List MemPlace),t<P.types.size→tyOk P d t=true→DataW.trod enc P w 0 (fun _=>true) true n t cs=some x→(∀ p∈x.2,I p.block)→∃ pcs,HasF d pcs∧ya0 I w pcs cs
theorem yxL {n:Nat} (ih:yKC enc P w I n) {l:List DS} {ts:List TypeId} (hl:tyL P l ts=true) (hrow:∀ t∈ts,t<P.types.size) {cs:List Value} {xs:List (DataW H×List MemPlace)} (off:Nat→Nat)
  (hoff:∀ j t,ts[j]?=some t→off (j+1)=off j+P.cellsOf t) (hend:cs.length≤off ts.length) (hx:∀ j t,ts[j]?=some t→DataW.trod enc P w 0 (fun _=>true) true n t ((cs.drop (off j)).take (P.cellsOf t))=xs[j]?)
  (hxl:xs.length=ts.length) (hI:∀ p∈xs.flatMap (·.2),I p.block) :
  ∀ (r j:Nat),j+r=ts.length→∃ pcs,HasL (l.drop j) pcs∧ya0 I w pcs (cs.drop (off j)):=by
 have hll:=yGe P l ts hl
 intro r
 induction r with
 | zero =>
  intro j hj
  refine ⟨[],?_,?_⟩
  ·rw [qBg (by omega)];simp only [HasL]
  ·rw [qBg (by rw [show j=ts.length by omega];exact hend)];simp only [ya0]
 | succ r ihr =>
  intro j hj
  obtain ⟨pcs,h1,h2⟩:=ihr (j+1) (by omega)
  have ht:ts[j]?=some ts[j]:=qAd (by omega)
  have hd:l[j]?=some l[j]:=qAd (by omega)
  have hxj:xs[j]?=some xs[j]:=qAd (by omega)
  have h:=hx j _ ht
  rw [hxj] at h
  obtain ⟨pc,k1,k2⟩:=ih l[j] ts[j] _ _ (hrow _ (List.getElem_mem _)) (yGf P l ts hl j _ _ hd ht) h (fun p hp=>hI p (List.mem_flatMap.2 ⟨xs[j],List.getElem_mem _,hp⟩))
  refine ⟨pc++pcs,?_,?_⟩
  ·rw [List.drop_eq_getElem_cons (by omega)]
   simp only [HasL]
   exact ⟨pc,pcs,rfl,k1,h1⟩
  ·have e:cs.drop (off j)=(cs.drop (off j)).take (P.cellsOf ts[j])++cs.drop (off (j+1)):=by
    rw [hoff j _ ht,← List.drop_drop,List.take_append_drop]
   rw [e]
   exact yEP k2 h2
theorem yK9 {d:DS} {pcs:List PV} (h:HasF d pcs):∃ x:PV,x.isAgg=d.isA∧x.cells=pcs∧∀ vs,ya0 I w pcs vs→RC I w x vs:=by
 have one:∀ y:PV,y.isAgg=false→pcs=[y]→d.isA=false→∃ x:PV,x.isAgg=d.isA∧x.cells=pcs∧∀ vs,ya0 I w pcs vs→RC I w x vs:=by
  intro y hy e hd
  refine ⟨y,hy.trans hd.symm,?_,?_⟩
  ·subst e;cases y <;> first | rfl | cases hy
  ·intro vs hv
   subst e
   simp only [ya0] at hv
   obtain ⟨v,vr,rfl,_,h1,rfl⟩:=hv
   exact h1
 cases d with
 | b=>simp only [HasF] at h;obtain ⟨x,e⟩:=h;exact one _ rfl e rfl
 | i k=>simp only [HasF] at h;obtain ⟨x,e,_⟩:=h;exact one _ rfl e rfl
 | s e=>simp only [HasF] at h;obtain ⟨x,e,_⟩:=h;exact one _ rfl e rfl
 | a l=>exact ⟨.agg pcs,rfl,rfl,fun vs hv=>by simp only [RC];exact hv⟩
theorem yEQ (K:Kids P (·<P.types.size)):∀ n,yKC enc P w I n:=by
 intro n
 induction n with
 | zero=>intro d t cs x _ _ h;simp [DataW.trod] at h
 | succ n ih =>
  intro d t cs x hrow hty h hI
  cases d with
  | b =>
   unfold tyOk at hty
   split at hty
   ·rename_i ht
    obtain ⟨b,rfl,_⟩:=DataW.trod_bool ht h
    refine ⟨[.bool b],by simp only [HasF];exact ⟨b,rfl⟩,?_⟩
    simp only [ya0,RC]
    exact ⟨_,_,rfl,rfl,rfl,rfl⟩
   ·cases hty
  | i k =>
   unfold tyOk at hty
   split at hty
   ·rename_i q ht
    simp only [decide_eq_true_eq] at hty
    subst hty
    obtain ⟨m,rfl,_,hw⟩:=DataW.trod_int ht h
    have hk:inK q m:=by
     unfold inK
     simpa [Lit.wf] using hw
    refine ⟨[.int q m],by simp only [HasF];exact ⟨m,rfl,hk⟩,?_⟩
    simp only [ya0,RC]
    exact ⟨_,_,rfl,rfl,⟨rfl,hk⟩,rfl⟩
   ·cases hty
  | s e =>
   unfold tyOk at hty
   split at hty
   ·rename_i u ht
    simp only [qAc,decide_eq_true_eq] at hty
    obtain ⟨hpos,hty⟩:=hty
    rcases DataW.trod_slice ht h with ⟨rfl,_⟩ | ⟨a,len,cap,elems,rest,m,hm,rfl,rfl,_,hle,hcap,hlen,hel,_⟩
    ·refine ⟨[.data []],?_,?_⟩
     ·simp only [HasF];exact ⟨[],rfl,by simp,by simp⟩
     ·simp only [ya0,RC]
      exact ⟨_,_,rfl,rfl,⟨none,0,0,rfl,rfl,by omega,by decide,by simp⟩,rfl⟩
    ·have hmn:m=n:=by omega
     subst hmn
     have hru:=K.slice hrow ht
     have hspot0:len≠0→a.spot=none:=by
      intro h0
      have hb:=hel 0 (by omega)
      rw [qAd (by omega)] at hb
      obtain ⟨cs',hc,hy⟩:=Option.bind_eq_some_iff.1 hb
      obtain ⟨_,hcl,hcg⟩:=World.cells?_some hc
      have h0:=hcg 0 hpos
      rw [qAd (by omega)] at h0
      have e0:(a.add (0*P.cellsOf u)).add 0=a:=by simp [Addr.add]
      rw [e0] at h0
      unfold World.cell? at h0
      split at h0
      ·split at h0
       ·cases h0
       ·rename_i hs;simpa using hs
      ·cases h0
     have hadd:a.spot=none→∀ k i:Nat,(a.add k).add i=⟨a.block,a.off+k+i,none⟩:=by
      intro hs k i
      obtain ⟨ab,ao,az⟩:=a
      simp only at hs
      subst hs
      simp only [Addr.add]
      by_cases h1:k=0 <;> by_cases h2:i=0 <;> simp [h1,h2,Nat.add_assoc]
     have ygc:∀ (r j:Nat),j+r=len→∃ rows:List PV,rows.length=r∧(∀ x∈rows,x.isAgg=e.isA∧HasF e x.cells)∧(r≠0→a.spot=none∧I a.block)∧ybS I w rows (P.cellsOf u) a.block (a.off+j*P.cellsOf u):=by
      intro r
      induction r with
      | zero=>intro j _;exact ⟨[],rfl,by simp,fun h=>absurd rfl h,by simp only [ybS]⟩
      | succ r ihr =>
       intro j hj
       obtain ⟨rows,l1,l2,_,l4⟩:=ihr (j+1) (by omega)
       have hj2:j<elems.length:=by omega
       have hb:=hel j (by omega)
       rw [qAd hj2] at hb
       obtain ⟨cs',hc,hy⟩:=Option.bind_eq_some_iff.1 hb
       obtain ⟨_,hcl,hcg⟩:=World.cells?_some hc
       obtain ⟨pcs,k1,k2⟩:=ih e u cs' _ hru hty hy (fun p hp=>hI p (by
        simp only [qA1,List.mem_flatMap]
        exact .inr ⟨elems[j],.inl (List.getElem_mem _),hp⟩))
       obtain ⟨x,x1,x2,x3⟩:=yK9 (I:=I) (w:=w) k1
       have hspot:=hspot0 (by omega)
       have hIa:I a.block:=hI (.cell a.block a.off) (by
        simp only [qA1]
        left
        exact MemPlace.mem_row.2 ⟨0,Nat.mul_pos (by omega) hpos,rfl⟩)
       refine ⟨x::rows,by simp [l1],?_,fun _=>⟨hspot,hIa⟩,?_⟩
       ·intro y hy
        rcases qAq.1 hy with rfl | hy
        ·exact ⟨x1,by rw [x2];exact k1⟩
        ·exact l2 y hy
       ·simp only [ybS]
        refine ⟨⟨cs',hcl,x3 _ k2,?_⟩,?_⟩
        ·intro i v hi
         have hi2:i<P.cellsOf u:=by rw [← hcl];exact (qBw.1 hi).1
         have:=hcg i hi2
         rw [hi] at this
         rw [← this,hadd hspot]
        ·rw [Nat.add_assoc,show j*P.cellsOf u+P.cellsOf u=(j+1)*P.cellsOf u by rw [qAl,qA7]]
         exact l4
     obtain ⟨rows,l1,l2,l3,l4⟩:=ygc len 0 (by omega)
     refine ⟨[.data rows],?_,?_⟩
     ·simp only [HasF];exact ⟨rows,rfl,by omega,l2⟩
     ·simp only [ya0,RC]
      refine ⟨_,_,rfl,rfl,⟨some a,len,cap,rfl,l1.symm,hle,hcap,?_⟩,rfl⟩
      by_cases h0:len=0
      ·left;exact qBk (by omega)
      ·right
       obtain ⟨hs,hIa⟩:=l3 h0
       refine ⟨a.block,a.off,P.cellsOf u,?_,hIa,hpos,by simpa using l4⟩
       cases a;simp only at hs;subst hs;rfl
   ·cases hty
  | a l =>
   unfold tyOk at hty
   split at hty
   ·rename_i fs ht
    obtain ⟨xs,m,hm,rfl,hcl,hxl,hxs⟩:=DataW.trod_struct ht h
    have hmn:m=n:=by omega
    subst hmn
    obtain ⟨k1,k2,k3⟩:=K.struct hrow ht
    have:=yxL ih (l:=l) (ts:=fs.toList.map (·.type)) hty (fun t ht=>by obtain ⟨f,hf,rfl⟩:=List.mem_map.1 ht;exact k1 f hf) (cs:=cs) (xs:=xs) (fun j=>((fs.toList.take j).map fun f=>P.cellsOf f.type).sum)
     (fun j t hj=>by
      rw [qBj,qAx] at hj
      obtain ⟨f,hf,rfl⟩:=hj
      obtain ⟨hlt,hf2⟩:=qBw.1 hf
      show ((fs.toList.take (j+1)).map _).sum=_
      rw [List.take_add_one,hf]
      simp)
     (by simp only [qBc,qAu];rw [hcl,k2];exact qAi _)
     (fun j t hj=>by
      rw [qBj,qAx] at hj
      obtain ⟨f,hf,rfl⟩:=hj
      have:=hxs j f (by simpa using hf)
      rw [← this,k3 j f hf])
     (by simp [hxl]) hI (fs.toList.map (·.type)).length 0 (by omega)
    obtain ⟨pcs,p1,p2⟩:=this
    exact ⟨pcs,by simp only [HasF];exact p1,by simpa using p2⟩
   ·rename_i q u ht
    obtain ⟨xs,m,hm,rfl,hcl,hxl,hxs⟩:=DataW.trod_array ht h
    have hmn:m=n:=by omega
    subst hmn
    obtain ⟨k1,k2⟩:=K.array hrow ht
    have:=yxL ih (l:=l) (ts:=List.replicate q u) hty (fun t ht=>by rw [(List.mem_replicate.1 ht).2];exact k1) (cs:=cs) (xs:=xs) (fun j=>j*P.cellsOf u)
     (fun j t hj=>by
      have:t=u:=(List.mem_replicate.1 (List.mem_of_getElem? hj)).2
      subst this
      show (j+1)*_=_
      rw [qAl,qA7])
     (by rw [qBt,hcl,k2];exact qAi _)
     (fun j t hj=>by
      have e:t=u:=(List.mem_replicate.1 (List.mem_of_getElem? hj)).2
      subst e
      have hlt:j<q:=by have:=(qBw.1 hj).1;simpa using this
      exact hxs j hlt)
     (by simp [hxl]) hI (List.replicate q u).length 0 (by omega)
    obtain ⟨pcs,p1,p2⟩:=this
    exact ⟨pcs,by simp only [HasF];exact p1,by simpa using p2⟩
   ·cases hty
end
end Go.Pf
namespace Go.Pf
open Go Go.ChangeShapes Go.WideShapes Go.ChangeAt Go.RowKit
def ysT:List DS→List PV→Prop
 | [],az=>az=[]
 | d::l,az=>∃ x r,az=x::r∧x.isAgg=d.isA∧HasF d x.cells∧ysT l r
section
variable {H:Type} {enc:TypeId×Value→H} {P:Program}
theorem yII (K:Kids P (·<P.types.size)) {w:World} {I:Nat→Prop} {base:Nat} {d:DS} {t:TypeId} {v:Value} {x:DataW H} {p:List MemPlace} (hrow:t<P.types.size) (hty:tyOk P d t=true)
  (hval:Value.okWide P w .any base t v) (h:DataW.Trod enc P w 0 (fun _=>true) true t v x p) (hI:∀ q∈p,I q.block) :
  ∃ y:PV,y.isAgg=d.isA∧HasF d y.cells∧VP1 I w y v:=by
 obtain ⟨n,hn⟩:=h
 obtain ⟨pcs,h1,h2⟩:=yEQ (I:=I) K n d t _ _ hrow hty hn hI
 have single:∀ y:PV,pcs=[y]→y.isAgg=false→d.isA=false→v.cells.toList=[v]→∃ y:PV,y.isAgg=d.isA∧HasF d y.cells∧VP1 I w y v:=by
  intro y e hy hd hv
  subst e
  refine ⟨y,hy.trans hd.symm,?_,?_⟩
  ·have:y.cells=[y]:=by cases y <;> first | rfl | cases hy
   rw [this];exact h1
  ·rw [hv] at h2
   simp only [ya0] at h2
   obtain ⟨u,vr,e,_,h3,h4⟩:=h2
   simp only [qAs] at e
   obtain ⟨rfl,_⟩:=e
   cases y <;> first | exact h3 | (simp only [RC] at h3;done) | (simp only [VP1];exact h3) | cases hy
 cases d with
 | b =>
  unfold tyOk at hty
  split at hty
  ·rename_i ht
   obtain ⟨b,rfl⟩:=okWide_bool ht hval
   simp only [HasF] at h1
   obtain ⟨z,e⟩:=h1
   exact single _ e rfl rfl rfl
  ·cases hty
 | i k =>
  unfold tyOk at hty
  split at hty
  ·rename_i q ht
   obtain ⟨m,rfl⟩:=okWide_int ht hval
   simp only [HasF] at h1
   obtain ⟨z,e,_⟩:=h1
   exact single _ e rfl rfl rfl
  ·cases hty
 | s e =>
  unfold tyOk at hty
  split at hty
  ·rename_i u ht
   obtain ⟨a,len,cap,rfl⟩:=okWide_slice ht hval
   simp only [HasF] at h1
   obtain ⟨z,e,_⟩:=h1
   exact single _ e rfl rfl rfl
  ·cases hty
 | a l =>
  have key:∀ cs,v=.agg cs→∃ y:PV,y.isAgg=(DS.a l).isA∧HasF (DS.a l) y.cells∧VP1 I w y v:=by
   rintro cs rfl
   refine ⟨.agg pcs,rfl,h1,?_⟩
   simp only [VP1]
   exact ⟨cs.toList,rfl,h2⟩
  unfold tyOk at hty
  split at hty
  ·rename_i fs ht
   obtain ⟨cs,e,_⟩:=okWide_struct ht hval
   exact key cs e
  ·rename_i q u ht
   have hval2:=hval
   unfold Value.okWide at hval2
   rw [ht] at hval2
   obtain ⟨cs,e,_⟩:=hval2
   exact key cs e
  ·cases hty
theorem yz5 (K:Kids P (·<P.types.size)) {w:World} {I:Nat→Prop} {base:Nat}:∀ (ts:List TypeId) (dss:List DS) (vs:List Value) (xs:List (DataW H)) (p:List MemPlace),tyL P dss ts=true→(∀ t∈ts,t<P.types.size) →
  (∀ (j:Nat) t v,ts[j]?=some t→vs[j]?=some v→Value.okWide P w .any base t v)→DataW.TrodAll enc P w 0 (fun _=>true) true ts vs xs p→(∀ q∈p,I q.block)→∃ az,ysT dss az∧VPs I w az vs
 | [],[],[],[],p,_,_,_,_,_=>⟨[],by simp only [ysT],by simp only [VPs]⟩
 | t::ts,d::dss,v::vs,x::xs,p,hty,hrow,hval,h,hI=>by
  unfold tyL at hty
  simp only [qAc] at hty
  obtain ⟨p1,q,h1,h2,rfl⟩:=h
  obtain ⟨y,y1,y2,y3⟩:=yII K (hrow t (qAm ..)) hty.1 (hval 0 t v rfl rfl) h1 (fun z hz=>hI z (List.mem_append_left _ hz))
  obtain ⟨az,a1,a2⟩:=yz5 K ts dss vs xs q hty.2 (fun u hu=>hrow u (qAj _ hu)) (fun j u z hj hz=>hval (j+1) u z hj hz) h2 (fun z hz=>hI z (List.mem_append_right _ hz))
  refine ⟨y::az,?_,?_⟩
  ·simp only [ysT];exact ⟨y,az,rfl,y1,y2,a1⟩
  ·simp only [VPs];exact ⟨v,vs,rfl,y3,a2⟩
 | [],_::_,_,_,_,hty,_,_,_,_=>by unfold tyL at hty;cases hty
 | _::_,[],_,_,_,hty,_,_,_,_=>by unfold tyL at hty;cases hty
 | [],[],_::_,_,_,_,_,_,h,_=>h.elim
 | [],[],[],_::_,_,_,_,_,h,_=>h.elim
 | _::_,_::_,[],_,_,_,_,_,h,_=>h.elim
 | _::_,_::_,_::_,[],_,_,_,_,h,_=>h.elim
theorem yHj (K:Kids P (·<P.types.size)) {n:FuncId} {fn:Func} {G:Nat→Option PV} {dss:List DS} {ts:List TypeId} (hty:tyL P dss ts=true) (hrow:∀ t∈ts,t<P.types.size)
  (hf : P.funcs[n]? = some fn) (hn : (fn.name == "runtime.NumGoroutine") = false) (hb : fn.body.isSome = true) (hsum : ∀ az, ysT dss az → ylp P G n az (.bool true))
  {W:World} {base:Nat} {args:Array Value} {ds:List (DataW H)} {p:List MemPlace} {I:Nat→Prop} (hval:∀ (j:Nat) t v,ts[j]?=some t→args.toList[j]?=some v→Value.okWide P W .any base t v)
  (hA:DataW.TrodAll enc P W 0 (fun _=>true) true ts args.toList ds p) (hI:∀ q∈p,I q.block) (himm:∀ b,I b→b<W.heap.size) (hG:yEp G I W) :
  Calls P n args W fun e W'=>e=.returned (.bool true)∧Below W.heap.size W W':=by
 obtain ⟨az,a1,a2⟩:=yz5 (I:=I) K ts dss args.toList ds p hty hrow hval hA hI
 have h:=hsum az a1 I W args.toList himm hG a2
 have e:(callFunc n (args.toList).toArray).run P W=.ok (.enter n args) W:=by
  have h1 : fn.name ≠ "runtime.NumGoroutine" := by simpa using hn
  obtain ⟨c,hc⟩:=qB8.1 hb
  simp [callFunc,hf,h1,hc]
 unfold yib at h
 rw [e] at h
 refine Calls.mono h fun e w' he=>?_
 cases e with
 | returned v =>
  obtain ⟨h1,h2⟩:=he
  simp only [VP,VP1,RC,qAs,and_true] at h2
  exact ⟨by rw [h2],h1.toBelow⟩
 | panicked ch=>exact he.elim
 | outgrown=>exact he.elim
theorem yER (K:Kids P (·<P.types.size)) (hz:∀ t e,t<P.types.size→P.underlying t=some (.slice e)→0<P.cellsOf e) {W W':World} (hb:Below W.heap.size W W') {sp:Nat→Bool} :
  ∀ {ts:List TypeId} {vs:List Value} {ds:List (DataW H)} {ps:List MemPlace},(∀ t∈ts,t<P.types.size)→DataW.TrodAll enc P W 0 (fun _=>true) true ts vs ds ps→(∀ p∈ps,p.block<W.heap.size)→(∀ p∈ps,sp p.block=true)→DataW.TrodAll enc P W' 0 sp true ts vs ds ps:=by
 intro ts vs ds ps hT h hlt hs
 have carry:∀ {ts:List TypeId} {vs:List Value} {ds:List (DataW H)} {ps:List MemPlace},DataW.TrodAll enc P W 0 (fun _=>true) true ts vs ds ps→(∀ p∈ps,p.block<W.heap.size)→DataW.TrodAll enc P W' 0 (fun _=>true) true ts vs ds ps:=by
  intro ts
  induction ts with
  | nil =>
   intro vs ds ps h _
   cases vs with
   | nil=>cases ds with
    | nil=>exact h
    | cons _ _=>exact h.elim
   | cons _ _=>exact h.elim
  | cons t ts ih =>
   intro vs ds ps h hlt
   cases vs with
   | nil=>exact h.elim
   | cons v vs=>cases ds with
    | nil=>exact h.elim
    | cons d ds =>
     obtain ⟨p,q,⟨n,h1⟩,h2,e⟩:=h
     subst e
     exact ⟨p,q,⟨n,DataW.trod_carry n _ _ _ h1 (fun x hx=>hb.same (hlt x (List.mem_append_left _ hx)))⟩,ih h2 (fun x hx=>hlt x (List.mem_append_right _ hx)),rfl⟩
 exact DataW.TrodAll.respare K hz hT (carry h hlt) hs
theorem yxM {f:Func} {s:ChangeSpec} {yjg fresh handsOn again:Bool} {W W':World} {args:Array Value} {v:Value} {ds gs:List (DataW H)} {before pa pv:List MemPlace}
  (hW:DataW.Whole enc P f.params.toList s.vars yjg W args.toList ds gs before)
  (hres:∀ (b:Nat) (sp:Nat→Bool) (hd:Bool),DataW.TrodAll enc P W' b sp hd f.resultTypes.toList (v.resultList f.resultTypes.size) (s.fn H (ds++gs)).results [])
  (hargs:∀ sp:Nat→Bool,(∀ p∈before,sp p.block=true)→DataW.TrodAll enc P W' 0 sp true f.params.toList args.toList (s.fn H (ds++gs)).args pa)
  (hvars:∀ sp:Nat→Bool,(∀ p∈before,sp p.block=true)→DataW.TrodVars enc P W' sp s.vars (s.fn H (ds++gs)).vars pv)
  (hps:before=pa++pv) (hb:Below W.heap.size W W')
  (hok:∀ (j:Nat) (t:TypeId) (r:Value),f.resultTypes[j]?=some t→(v.resultList f.resultTypes.size)[j]?=some r→Value.okWide P W' .any 0 t r) :
  s.post enc P f yjg fresh handsOn again W args v W':=by
 have hlt:∀ p∈before,p.block<W.heap.size:=fun p hp=>hW.lt p hp
 have hold:∀ p∈before,(fun b=>decide (b<W.heap.size)) p.block=true:=fun p hp=>by simpa using hlt p hp
 refine ⟨ds,gs,before,[],pa,pv,hW,hres _ _ _,hargs _ hold,hvars _ hold,World.keptBut_mono (fun p hp=>⟨hp,?_⟩) (hb.frame (·∈before)),fun _=>?_⟩
 ·rw [hps,qA1] at hp
  exact Or.inr hp
 ·obtain ⟨_,_,_,_,_,hz,hn⟩:=hW
  refine ⟨hok,_,_,([]++pa)++pv,⟨[]++pa,pv,trodAll_append (hargs _ (fun _ _=>rfl)) (hres _ _ _),hvars _ (fun _ _=>rfl),rfl,?_,?_⟩,?_⟩
  ·intro b off hp
   have hin:MemPlace.cell b off∈before:=by rw [hps];simpa using hp
   rw [hb.frozen (hlt _ hin)]
   exact hz b off hin
  ·intro ha
   have:=hn ha
   rw [hps] at this
   simpa using this
  ·intro p hp _
   rw [hps]
   simpa using hp
theorem yIJ (K:Kids P (·<P.types.size)) (hz:∀ t e,t<P.types.size→P.underlying t=some (.slice e)→0<P.cellsOf e) {n:FuncId} {fn:Func} {G:Nat→Option PV} {dss:List DS} {s:ChangeSpec} {bt:TypeId}
  (hty : tyL P dss fn.params.toList = true) (hrow : ∀ t ∈ fn.params.toList, t < P.types.size) (hf : P.funcs[n]? = some fn) (hn : (fn.name == "runtime.NumGoroutine") = false) (hb : fn.body.isSome = true)
  (hvars:s.vars=[]) (hfn:∀ ds:List (DataW H),ds.length=fn.params.toList.length→s.fn H (ds++[])={ results:=[.lit (.bool true)],args:=ds })
  (hrt:fn.resultTypes.toList=[bt]) (hbt:P.underlying bt=some .bool) (hsum:∀ az,ysT dss az→ylp P G n az (.bool true)) {yjg fresh handsOn again:Bool}
  {W:World} {base:Nat} {args:Array Value} {ds gs:List (DataW H)} {before:List MemPlace} (hval:∀ (j:Nat) t v,fn.params[j]?=some t→args[j]?=some v→Value.okWide P W .any base t v)
  (hW:DataW.Whole enc P fn.params.toList s.vars yjg W args.toList ds gs before) (J:Nat→Prop) (hJ:∀ b,J b→b<W.heap.size) (hG:yEp G (fun b=>(∃ p∈before,p.block=b)∨J b) W) :
  Calls P n args W fun e W'=>∃ v,e=.returned v∧s.post enc P fn yjg fresh handsOn again W args v W':=by
 have hW':=hW
 obtain ⟨p,q,hA,hV,hpq,hfz,hnd⟩:=hW
 have hlt:∀ x∈before,x.block<W.heap.size:=fun x hx=>hW'.lt x hx
 rw [hvars] at hV
 obtain ⟨hgs,hq⟩:=trodVars_none hV
 subst hgs;subst hq
 rw [List.append_nil] at hpq
 subst hpq
 have hlen:ds.length=fn.params.toList.length:=by
  have len:∀ {ts:List TypeId} {vs:List Value} {xs:List (DataW H)} {ps:List MemPlace},DataW.TrodAll enc P W 0 (fun _=>true) true ts vs xs ps→xs.length=ts.length:=by
   intro ts
   induction ts with
   | nil =>
    intro vs xs ps h
    cases vs with
    | nil=>cases xs with
     | nil=>rfl
     | cons _ _=>exact h.elim
    | cons _ _=>exact h.elim
   | cons t ts ih =>
    intro vs xs ps h
    cases vs with
    | nil=>exact h.elim
    | cons v vs=>cases xs with
     | nil=>exact h.elim
     | cons x xs =>
      obtain ⟨_,_,_,h2,_⟩:=h
      simp [ih h2]
  exact len hA
 have hc:=yHj (I:=fun b=>(∃ x∈before,x.block=b)∨J b) K hty hrow hf hn hb hsum (W:=W) (base:=base) (args:=args) (fun j t v h1 h2=>hval j t v (by simpa using h1) (by simpa using h2)) hA (fun x hx=>.inl ⟨x,hx,rfl⟩)
  (fun b hb=>by
   rcases hb with ⟨x,hx,rfl⟩ | hb
   ·exact hlt x hx
   ·exact hJ b hb) hG
 refine hc.mono fun e W' ⟨he,hg⟩=>?_
 subst he
 have hrs:fn.resultTypes=#[bt]:=by rw [← qBv];exact hrt
 refine ⟨_,rfl,yxM (pa:=before) (pv:=[]) hW' ?_ ?_ ?_ (by simp) hg ?_⟩
 ·intro b sp hd
  rw [hfn ds hlen,hrs]
  exact trodAll_mk1 (shut_bool hbt true)
 ·intro sp hs
  rw [hfn ds hlen]
  exact yER K hz hg hrow hA hlt hs
 ·intro sp hs
  rw [hfn ds hlen,hvars];rfl
 ·intro j t r h1 h2
  rw [hrs] at h1 h2
  have hj:j=0:=by
   rcases j with _ | j
   ·rfl
   ·simp at h1
  subst hj
  simp at h1
  subst h1
  have:r=.bool true:=by
   have h3:((Value.bool true).resultList (#[bt]:Array TypeId).size)[0]?=some (.bool true):=rfl
   rw [h3] at h2
   exact (Option.some.inj h2).symm
  subst this
  exact okWide_bool_mk hbt true
end
end Go.Pf
namespace Go.Pf
open Go
def yz6:PV→Value
 | .int k n=>.int k n
 | _=>.bool false
def okL:List IntKind→List PV→Bool
 | [],[]=>true
 | k::ks,.int q n::r=>decide (q=k)&&(decide (k.min≤n)&&(decide (n≤k.max)&&okL ks r))
 | _,_=>false
def okI (ks:List IntKind):PV→Bool
 | .agg cs=>okL ks cs
 | _=>false
def encI (x:PV):List Value:=x.cells.map yz6
structure Srt where
 n:Nat
 g:Nat
 ks:List IntKind
 good:PV→Bool
 z:PV
def Srt.gd (s:Srt) (x:PV):Bool:=okI s.ks x&&s.good x
abbrev Srt.El (s:Srt):Type:={x:PV // s.gd x=true}
def Srt.enc (s:Srt) (x:s.El):List Value:=encI x.1
def Srt.rows? (s:Srt):List PV→Option (List s.El)
 | []=>some []
 | x::r=>if h:s.gd x=true then (match s.rows? r with | some l=>some (⟨x,h⟩::l) | none=>none) else none
theorem Srt.rows?_val {s:Srt}:∀ {l:List PV} {d:List s.El},s.rows? l=some d→d.map (·.1)=l
 | [],d,h=>by simp only [Srt.rows?] at h;cases h;rfl
 | x::r,d,h=>by
  simp only [Srt.rows?] at h
  split at h
  ·split at h
   ·rename_i l hl
    cases h
    rw [qBy,Srt.rows?_val hl]
   ·cases h
  ·cases h
def Srt.sorted (s:Srt) (srt:Array s.El→Array s.El) (l:List PV):List PV :=
 match s.rows? l with
 | some d=>(srt d.toArray).toList.map (·.1)
 | none=>l
def Srt.cond (s:Srt) (rows:List PV) (lo len ext esz:Nat) (fz:Bool):Bool :=
 decide (rows.length=ext)&&(decide (lo+len≤ext)&&(decide (0<len)&&(decide (esz=s.ks.length)&&(!fz&&(decide (len<4611686018427387904)&&(s.rows? ((rows.drop lo).take len)).isSome)))))
def yxN (s:Srt) (srt:Array s.El→Array s.El) (n:Nat) (xs:List PV) (H:Hp):Option (Bool×Bool×(PV×Hp)×(PV×Hp)) :=
 bif Nat.beq n s.n then
  (match xs with
   | [.own id lo len ext _,.fn (.func g) [] []] =>
    bif Nat.beq g s.g then
     (match H[id]? with
      | some b=>some (s.cond b.rows lo len ext b.esz b.fz,true,(.tup [],H.set id { b with rows:=b.rows.take lo++(s.sorted srt ((b.rows.drop lo).take len)++b.rows.drop (lo+len)) }),(.nils,[]))
      | none=>none)
    else none
   | [.nils,.fn (.func g) [] []]=>bif Nat.beq g s.g then some (true,true,(.tup [],H),(.nils,[])) else none
   | [.emp,.fn (.func g) [] []]=>bif Nat.beq g s.g then some (true,true,(.tup [],H),(.nils,[])) else none
   | _=>none)
 else none
theorem yIK {s:Srt} {srt:Array s.El→Array s.El} {n:Nat} {xs:List PV} {H:Hp} {x:Bool×Bool×(PV×Hp)×(PV×Hp)} (h:yxN s srt n xs H=some x):n=s.n:=by
 unfold yxN at h
 cases hb:Nat.beq n s.n with
 | true=>exact qAf hb
 | false=>rw [hb] at h;cases h
structure Srts where
 s:Srt
 cf:s.El→s.El→Int
def Srts.srt (s:Srts) [Inhabited s.s.El] (d:Array s.s.El):Array s.s.El:=Go.Sort.pdq (fun x y=>decide (s.cf x y<0)) d 0 d.size (Go.Lib.bitLen d.size) true true
def yES (k esz bytes n:Nat) (xs:List PV) (H:Hp):Option (Bool×Bool×(PV×Hp)×(PV×Hp)) :=
 bif Nat.beq n k then
  (match xs with
   | [.data rows]=>some (yea esz bytes rows,List.isEmpty rows,(.emp,H),(.own H.length 0 (List.length rows) (List.length rows) none,H++[⟨false,true,esz,rows⟩]))
   | _=>none)
 else none
theorem yHk {E:Env} {n esz bytes:Nat} {z:PV} (hf:E.fns n=some (yju esz bytes z)) (he:∀ az H,E.eff n az H=none) (b:Bool) (H:Hp):ybE E 12 n [.mt b] H=some (bif b then .nils else .emp,H):=by
 cases b <;> simp [ybE,Env.effx,yj5,he,exec,hf,yju,ykK,yez,yhy,yde,yas,evV,ev,yim,fget,fset,fdels,fdel,yeJ,ydg,outV,Option.map,yhz,yvh,yhA,appV,ygc,ydC,ynk]
theorem yDj {E:Env} {n esz bytes:Nat} {z:PV} (hf:E.fns n=some (yju esz bytes z)) (he:∀ az H,E.eff n az H=none) {x:PV} {r:List PV} (h:yea esz bytes (x::r)=true) (H:Hp) :
  ybE E 12 n [.data (x::r)] H=some (.own H.length 0 (x::r).length (x::r).length none,H++[⟨false,true,esz,x::r⟩]):=by
 simp only [yea,qAc,decide_eq_true_eq,qAn] at h
 obtain ⟨h1,h2⟩:=h
 simp [ybE,Env.effx,yj5,he,exec,hf,yju,ykK,yez,yhy,yde,yas,evV,ev,yim,fget,fset,fdels,fdel,yeJ,ydg,outV,Option.map,yhz,yvh,yhA,appV,ygc,h1,ynk,ycx,h2]
theorem yHl {P:Program} {E:Env} {k esz bytes:Nat} {z:PV} (hf:E.fns k=some (yju esz bytes z)) (he:∀ az H,E.eff k az H=none) (hcall:ybj P E (ybE E 12)) :
  ybj P E (fun n xs H=>yj5 (yES k esz bytes n xs H)):=by
 intro f args H r H' h nt g F tmps w vs hr hL hv
 dsimp only at h
 unfold yj5 at h
 split at h
 case h_2=>cases h
 rename_i c t x y hc
 unfold yES at hc
 cases hb:Nat.beq f k with
 | false=>rw [hb] at hc;cases hc
 | true =>
  rw [hb,cond_true] at hc
  obtain rfl:=qAf hb
  split at hc
  case h_2=>cases hc
  rename_i rows
  simp only [qAa,Prod.mk.injEq] at hc
  obtain ⟨hk,rfl,rfl,rfl⟩:=hc
  cases rows with
  | cons q l =>
   cases h
   exact hcall _ _ _ _ _ (yDj hf he hk H) nt g F tmps w vs hr hL hv
  | nil =>
   cases h
   simp only [VRs,VR,RC] at hv
   obtain ⟨v,_,rfl,⟨a,len,cap,hs,hl,h3,h4,_⟩,rfl⟩:=hv
   simp only [qAs,and_true] at hs
   subst hs
   simp only [List.length_nil] at hl
   subst hl
   have hv2:VRs g H w [.mt a.isNone] [.slice a 0 cap]:=by
    simp only [VRs,VR]
    exact ⟨_,_,rfl,⟨a,cap,rfl,h4,rfl⟩,rfl⟩
   refine (hcall _ _ _ _ _ (yHk hf he a.isNone H) nt g F tmps w _ hr hL hv2).mono fun v w' ⟨g',h5,h6,h7⟩=>⟨g',h5,h6,?_⟩
   cases hn:a.isNone with
   | true =>
    rw [hn] at h7
    simp only [cond_true,VR] at h7
    simp only [VR]
    exact ⟨none,h7⟩
   | false =>
    rw [hn] at h7
    exact h7
abbrev EffF:Type:=Nat→List PV→Hp→Option (Bool×Bool×(PV×Hp)×(PV×Hp))
def ysU:List (Nat×EffF)→EffF
 | [],_,_,_=>none
 | (k,e)::r,n,xs,H=>bif Nat.beq n k then (match e n xs H with | some x=>some x | none=>ysU r n xs H) else ysU r n xs H
theorem yGg:∀ {l:List (Nat×EffF)} {n:Nat} {xs:List PV} {H:Hp} {x:Bool×Bool×(PV×Hp)×(PV×Hp)},ysU l n xs H=some x→∃ e∈l,n=e.1
 | [],_,_,_,_,h=>by cases h
 | (k,e)::r,n,xs,H,x,h=>by
  simp only [ysU] at h
  cases hb:Nat.beq n k with
  | true=>exact ⟨(k,e),qAm,qAf hb⟩
  | false =>
   rw [hb,cond_false] at h
   obtain ⟨e2,h1,h2⟩:=yGg h
   exact ⟨e2,qAj _ h1,h2⟩
theorem yog {P:Program} {E:Env}:∀ {l:List (Nat×EffF)},(∀ e∈l,ybj P E (fun n xs H=>yj5 (e.2 n xs H)))→ybj P E (fun n xs H=>yj5 (ysU l n xs H))
 | [],_=>fun _ _ _ _ _ h=>by cases h
 | (k,e)::r,h=>by
  intro f args H q H' hc
  dsimp only [ysU] at hc
  cases hb:Nat.beq f k with
  | false =>
   rw [hb,cond_false] at hc
   exact yog (fun e2 h2=>h e2 (qAj _ h2)) f args H q H' hc
  | true =>
   rw [hb,cond_true] at hc
   cases he:e f args H with
   | some x =>
    rw [he] at hc
    refine h (k,e) qAm f args H q H' ?_
    dsimp only
    rw [he]
    exact hc
   | none =>
    rw [he] at hc
    exact yog (fun e2 h2=>h e2 (qAj _ h2)) f args H q H' hc
def yns (add sub:Nat) (tab:List (Nat×AFn)) (qui:List Nat) (cl:yeC) (gl:List (Nat×PV)) (ef:List (Nat×EffF)):Env:={ ynr add sub tab qui cl gl with eff:=ysU ef }
theorem ycp {add sub:Nat} {tab:List (Nat×AFn)} {qui:List Nat} {cl:yeC} {gl:List (Nat×PV)} {ef:List (Nat×EffF)} {n:Nat} (h:ysR add sub cl n=false) (xs:List PV):(yns add sub tab qui cl gl ef).sum n xs=none:=yEO (tab:=tab) (qui:=qui) (gl:=gl) h xs
theorem yHm {add sub:Nat} {tab:List (Nat×AFn)} {qui:List Nat} {cl:yeC} {gl:List (Nat×PV)} {ef:List (Nat×EffF)} (h:(ef.all fun e=>!memN qui e.1&&(!ysR add sub cl e.1&&!memN qui (e.1+3000000)))=true):yDh (yns add sub tab qui cl gl ef):=by
 intro n xs H x hx
 obtain ⟨e,h1,rfl⟩:=yGg hx
 have h2:=List.all_eq_true.1 h e h1
 simp only [qAc,qAv] at h2
 exact ⟨h2.1,rfl,fun xs=>ycp (tab:=tab) (qui:=qui) (gl:=gl) (ef:=ef) h2.2.1 xs,h2.2.2⟩
theorem yDk {P:Program} {add sub:Nat} {tab:List (Nat×AFn)} {qui:List Nat} {cl:yeC} {gl:List (Nat×PV)} {ef:List (Nat×EffF)} (h:EO P (ynr add sub tab qui cl gl))
  (hs:∀ e∈ef,∀ y,ybj P ((ynr add sub tab qui cl gl).ats y) (fun n xs H=>yj5 (e.2 n xs H))):EO P (yns add sub tab qui cl gl ef) where
 sum:=h.sum
 fns:=h.fns
 eff:=EO.eff' (E:=ynr add sub tab qui cl gl) (E':=yns add sub tab qui cl gl ef) rfl rfl rfl fun y _=>yog fun e he=>hs e he y
 dn:=h.dn
 top:=h.top
 yl:=h.yl' (E':=yns add sub tab qui cl gl ef) rfl rfl rfl rfl
end Go.Pf
namespace Go.Pf
abbrev lt {α:Type} (x:α) (f:α→Prop):Prop:=f x
abbrev jn {α:Type} (f:α→Prop) (k:α):Prop:=f k
def rvB (n d:Int):Bool:=decide (1≤d)&&(decide (d≤1000000000000000000)&&(decide (-1000000000000000000≤n)&&(decide (n≤1000000000000000000)&&decide (Nat.gcd n.natAbs d.natAbs=1))))
def cmpI (a b c d:Int):Int:=if a*d<c*b then -1 else if c*b<a*d then 1 else 0
def yri:PV→Bool
 | .agg [.int _ a,.int _ b,_,_]=>rvB a b
 | _=>false
def yLa:PV→Bool
 | .agg [.int _ a,.int _ b]=>rvB a b
 | _=>false
def ynt:PV→PV→Int
 | .agg [.int _ a,.int _ b,_,_],.agg [.int _ c,.int _ d,_,_]=>cmpI a b c d
 | _,_=>0
def yLJ:PV→PV→Int
 | .agg [.int _ a,.int _ b],.agg [.int _ c,.int _ d]=>cmpI a b c d
 | _,_=>0
def ykf (n g:Nat):Srts:=⟨⟨n,g,[.i64,.i64,.i64,.i64],yri,.agg [.int .i64 0,.int .i64 1,.int .i64 0,.int .i64 1]⟩,fun x y=>ynt x.1 y.1⟩
def yLK (n g:Nat):Srts:=⟨⟨n,g,[.i64,.i64],yLa,.agg [.int .i64 0,.int .i64 1]⟩,fun x y=>yLJ x.1 y.1⟩
instance (n g:Nat):Inhabited (ykf n g).s.El:=⟨⟨.agg [.int .i64 0,.int .i64 1,.int .i64 0,.int .i64 1],rfl⟩⟩
instance (n g:Nat):Inhabited (yLK n g).s.El:=⟨⟨.agg [.int .i64 0,.int .i64 1],rfl⟩⟩
theorem yxO {n:Nat} {xs:List PV} {H:Hp}:∀ {l:List (Nat×EffF)},memN (l.map (·.1)) n=false→ysU l n xs H=none
 | [],_=>rfl
 | (k,e)::r,h=>by
  simp only [qBy,memN] at h
  simp only [ysU]
  cases hb:Nat.beq k n with
  | true=>rw [hb] at h;cases h
  | false =>
   rw [hb,cond_false] at h
   have hb2:Nat.beq n k=false:=by
    cases hc:Nat.beq n k with
    | false=>rfl
    | true =>
     have:=qAf hc
     subst this
     rw [Nat.beq_refl] at hb
     cases hb
   rw [hb2,cond_false]
   exact yxO h
structure EffG (E:List (Nat×EffF)→Env) (nums:List Nat) (e:List (Nat×EffF)):Prop where
 ok:yDh (E e)
 num:∀ n,memN nums n=false→∀ xs H,(E e).eff n xs H=none
theorem yHn {add sub:Nat} {tab:List (Nat×AFn)} {qui:List Nat} {cl:yeC} {gl:List (Nat×PV)} {ef:List (Nat×EffF)} {n esz bytes:Nat} (h1:Nat.beq n add=false) (h2:Nat.beq n sub=false) (hc:ysS cl n=some (esz,bytes)) :
  ∀ az K,yxK esz bytes az K→∃ r,K r∧Ans (yns add sub tab qui cl gl ef) n az r:=by
 intro az K h
 unfold yxK yxJ at h
 split at h
 ·rename_i rows
  obtain ⟨hk,h⟩:=yaB.1 h
  refine ⟨_,h,0,fun k e m _ hl _=>?_⟩
  have hl:=(ygT hl).2.1
  simp only [ydK,hl,yns,ynr,yz4 h1 h2,yvz cl hc hk]
 ·exact h.elim
theorem yHo {add sub:Nat} {tab:List (Nat×AFn)} {qui:List Nat} {cl:yeC} {gl:List (Nat×PV)} {ef:List (Nat×EffF)}:∀ az K,yrf az K→∃ r,K r∧Ans (yns add sub tab qui cl gl ef) add az r:=by
 intro az K h
 unfold yrf yre at h
 split at h
 ·rename_i a b c
  obtain ⟨h1,h⟩:=yaB.1 h
  have h1:c.toNat≤1:=by simpa using h1
  refine ⟨_,h,0,fun k e m _ hl _=>?_⟩
  have hl:=(ygT hl).2.1
  have e0:sumC add sub add [.int .u64 a,.int .u64 b,.int .u64 c]=some (.tup [u64 ((a.toNat+b.toNat+c.toNat) % 18446744073709551616),u64 ((a.toNat+b.toNat+c.toNat) / 18446744073709551616)]):=by
   simp only [sumC,Nat.beq_refl,qBq,Nat.ble_eq_true_of_le h1,cond_true]
  simp only [ydK,hl,yns,ynr,e0,u64]
 ·exact h.elim
theorem yHp {add sub:Nat} (hne:Nat.beq sub add=false) {tab:List (Nat×AFn)} {qui:List Nat} {cl:yeC} {gl:List (Nat×PV)} {ef:List (Nat×EffF)}:∀ az K,yrh az K→∃ r,K r∧Ans (yns add sub tab qui cl gl ef) sub az r:=by
 intro az K h
 unfold yrh yrg at h
 split at h
 ·rename_i a b c
  obtain ⟨h1,h⟩:=yaB.1 h
  have h1:c.toNat≤1:=by simpa using h1
  refine ⟨_,h,0,fun k e m _ hl _=>?_⟩
  have hl:=(ygT hl).2.1
  have e0:sumC add sub sub [.int .u64 a,.int .u64 b,.int .u64 c]=some (.tup [u64 ((a.toNat+18446744073709551616-b.toNat-c.toNat) % 18446744073709551616),u64 (bif Nat.ble (b.toNat+c.toNat) a.toNat then 0 else 1)]):=by
   simp only [sumC,hne,Nat.beq_refl,qBq,qB4,Nat.ble_eq_true_of_le h1,cond_true,cond_false]
  simp only [ydK,hl,yns,ynr,e0,u64]
 ·exact h.elim
end Go.Pf
namespace Go.Pf
open Go Go.Sort
theorem Srts.sorted_is (S:Srts) [Inhabited S.s.El] (h:SWO (fun x y=>decide (S.cf x y<0))) {rows:List PV} {d:List S.s.El} (hd:S.s.rows? rows=some d) :
  ∃ d':List S.s.El,d'.Perm d∧d'.Pairwise (fun x y=>¬S.cf y x<0)∧Srt.sorted S.s S.srt rows=d'.map (·.1):=by
 have e:Srt.sorted S.s S.srt rows=(S.srt d.toArray).toList.map (·.1):=by unfold Srt.sorted;rw [hd]
 obtain ⟨⟨h1,_,h3⟩,h4⟩:=pdq_sorts _ h d.toArray 0 d.toArray.size (Go.Lib.bitLen d.toArray.size) true true (qBd _) (qAi _) (Or.inl rfl)
 refine ⟨(S.srt d.toArray).toList,?_,?_,e⟩
 ·have h5:(S.srt d.toArray).size=d.toArray.size:=h1
  have e1:(S.srt d.toArray).extract 0 d.toArray.size=S.srt d.toArray:=by rw [← h5];exact Array.extract_size
  have e2:d.toArray.extract 0 d.toArray.size=d.toArray:=Array.extract_size
  have h6:((S.srt d.toArray).extract 0 d.toArray.size).toList.Perm (d.toArray.extract 0 d.toArray.size).toList:=h3
  rw [e1,e2] at h6
  simpa using h6
 ·have h5:(S.srt d.toArray).size=d.toArray.size:=h1
  rw [List.pairwise_iff_getElem]
  intro i j hi hj hij hlt
  rw [qB7] at hi hj
  have h6:SortedIn (fun x y=>decide (S.cf x y<0)) 0 d.toArray.size (S.srt d.toArray):=h4
  have:=h6 i j (qBd _) hij (by rw [← h5];exact hj)
  rw [getElem!_pos (S.srt d.toArray) i hi,getElem!_pos (S.srt d.toArray) j hj] at this
  simp only [Array.getElem_toList] at hlt
  simp [hlt] at this
end Go.Pf
namespace Go.Pf
abbrev Es:Type:=List (Nat×EffF)
def okB:Option Bool→Prop | none=>True | some b=>b=true
def asB:Option Bool→Prop→Prop | none,x=>x | some b,x=>asr b x
theorem ywH {g:Option Bool} {x:Prop}:asB g x↔okB g∧x:=by cases g <;> simp [asB,okB,yaB]
def blen (H:Hp) (id:Nat):Nat:=match H[id]? with | some b=>b.rows.length | none=>0
structure Pat (α:Type) where
 T:Type
 A:Type→Type
 app:{R:Type}→A R→T→R
 of:(Nat→Nat)→T→α
 get:(Nat→Nat)→α→Option Bool→Option (T×Option Bool)
 inv:∀ {H x g t g'},get H x g=some (t,g')→okB g'→okB g∧x=of H t
section
variable {α β:Type}
def pAt:Pat α:=⟨α,fun R=>α→R,fun g t=>g t,fun _ t=>t,fun _ x g=>some (x,g),fun h k=>by cases h;exact ⟨k,rfl⟩⟩
def pCst (c:α) (f:α→Bool) (h:∀ x,f x=true→x=c):Pat α :=
 ⟨Unit,fun R=>R,fun g _=>g,fun _ _=>c,fun _ x g=>bif f x then some ((),g) else none,fun {H x g t g'} e k=>by
  cases hf:f x with
  | true=>rw [hf] at e;cases e;exact ⟨k,h _ hf⟩
  | false=>rw [hf] at e;cases e⟩
def pSub (m:β→α) (s:α→Option β) (h:∀ x b,s x=some b→x=m b) (p:Pat β):Pat α :=
 ⟨p.T,p.A,p.app,fun H t=>m (p.of H t),fun H x g=>match s x with | none=>none | some b=>p.get H b g,fun {H x g t g'} e k=>by
  cases hs:s x with
  | none=>rw [hs] at e;cases e
  | some b =>
   rw [hs] at e
   obtain ⟨h1,h2⟩:=p.inv e k
   exact ⟨h1,by rw [h _ _ hs,h2]⟩⟩
def pPr (p:Pat α) (q:Pat β):Pat (α×β) :=
 ⟨p.T×q.T,fun R=>p.A (q.A R),fun g t=>q.app (p.app g t.1) t.2,fun H t=>(p.of H t.1,q.of H t.2),
  fun H x g=>match p.get H x.1 g with | none=>none | some (a,g1)=>(match q.get H x.2 g1 with | none=>none | some (b,g2)=>some ((a,b),g2)),fun {H x g t g'} e k=>by
   cases h1:p.get H x.1 g with
   | none=>rw [h1] at e;cases e
   | some y =>
    obtain ⟨a,g1⟩:=y
    rw [h1] at e
    simp only at e
    cases h2:q.get H x.2 g1 with
    | none=>rw [h2] at e;cases e
    | some z =>
     obtain ⟨b,g2⟩:=z
     rw [h2] at e
     cases e
     obtain ⟨k2,e2⟩:=q.inv h2 k
     obtain ⟨k1,e1⟩:=p.inv h1 k2
     exact ⟨k1,Prod.ext e1 e2⟩⟩
end
def nK (n:Nat):Pat Nat:=pCst n (fun x=>Nat.beq x n) fun _ h=>qAf h
def nT (id:Nat):Pat Nat :=
 ⟨Unit,fun R=>R,fun g _=>g,fun H _=>H id,fun H x g=>some ((),match g with | none=>some (decide (x=H id)) | some b=>some (b&&decide (x=H id))),fun {H x g t g'} e k=>by
  cases e
  cases g with
  | none=>exact ⟨trivial,of_decide_eq_true k⟩
  | some b =>
   have k:(b&&decide (x=H id))=true:=k
   simp only [qAc,decide_eq_true_eq] at k
   exact ⟨k.1,k.2⟩⟩
abbrev nV:Pat Nat:=pAt
abbrev LPt:Type 1:=Pat (List PV)
abbrev VPt:Type 1:=Pat PV
def vI (k:IntKind):VPt:=pSub (.int k) (fun x=>match x with | .int q n=>bif decide (q=k) then some n else none | _=>none) (fun x b h=>by
 split at h
 ·rename_i q n
  by_cases e:q=k
  ·subst e;rw [decide_eq_true rfl] at h;cases h;rfl
  ·rw [decide_eq_false e] at h;cases h
 ·cases h) pAt
def vB:VPt:=pSub .bool (fun x=>match x with | .bool b=>some b | _=>none) (fun x b h=>by cases x <;> cases h;rfl) pAt
def vDl (p:LPt):VPt:=pSub .data (fun x=>match x with | .data b=>some b | _=>none) (fun x b h=>by cases x <;> cases h;rfl) p
def vD:VPt:=vDl pAt
def vA (p:LPt):VPt:=pSub .agg (fun x=>match x with | .agg b=>some b | _=>none) (fun x b h=>by cases x <;> cases h;rfl) p
def vNs:VPt:=pCst .nils (fun x=>match x with | .nils=>true | _=>false) fun x h=>by cases x <;> cases h;rfl
def vE:VPt:=pCst .emp (fun x=>match x with | .emp=>true | _=>false) fun x h=>by cases x <;> cases h;rfl
def vP (id o:Nat) (e i:Pat Nat):VPt:=pSub (fun b=>.ptr id b.1 b.2 o) (fun x=>match x with | .ptr a e i f=>bif Nat.beq a id&&Nat.beq f o then some (e,i) else none | _=>none) (fun x b h=>by
 split at h
 ·rename_i a e i f
  cases hc:(Nat.beq a id&&Nat.beq f o) with
  | false=>rw [hc] at h;cases h
  | true =>
   rw [hc] at h
   simp only [qAc] at hc
   cases h
   rw [qAf hc.1,qAf hc.2]
 ·cases h) (pPr e i)
def vSub (id o n z:Nat) (e i:Pat Nat):VPt:=pSub (fun b=>.sub id b.1 b.2 o n z) (fun x=>match x with | .sub a e i f m y=>bif Nat.beq a id&&(Nat.beq f o&&(Nat.beq m n&&Nat.beq y z)) then some (e,i) else none | _=>none) (fun x b h=>by
 split at h
 ·rename_i a e i f m y
  cases hc:(Nat.beq a id&&(Nat.beq f o&&(Nat.beq m n&&Nat.beq y z))) with
  | false=>rw [hc] at h;cases h
  | true =>
   rw [hc] at h
   simp only [qAc] at hc
   cases h
   rw [qAf hc.1,qAf hc.2.1,qAf hc.2.2.1,qAf hc.2.2.2]
 ·cases h) (pPr e i)
def vX (o:Nat) (p:VPt):VPt:=pSub (fun b=>.eptr [b] 0 o) (fun x=>match x with | .eptr [y] i f=>bif Nat.beq i 0&&Nat.beq f o then some y else none | _=>none) (fun x b h=>by
 split at h
 ·rename_i y i f
  cases hc:(Nat.beq i 0&&Nat.beq f o) with
  | false=>rw [hc] at h;cases h
  | true =>
   rw [hc] at h
   simp only [qAc] at hc
   cases h
   rw [qAf hc.1,qAf hc.2]
 ·cases h) p
def vO (id:Nat) (lo len ext c:Pat Nat):VPt:=pSub (fun b=>.own id b.1 b.2.1 b.2.2.1 (some b.2.2.2)) (fun x=>match x with | .own a lo len ext (some c)=>bif Nat.beq a id then some (lo,len,ext,c) else none | _=>none) (fun x b h=>by
 split at h
 ·rename_i a lo len ext c
  cases hc:Nat.beq a id with
  | false=>rw [hc] at h;cases h
  | true=>rw [hc] at h;cases h;rw [qAf hc]
 ·cases h) (pPr lo (pPr len (pPr ext c)))
def vW (id:Nat) (lo len ext:Pat Nat):VPt:=pSub (fun b=>.own id b.1 b.2.1 b.2.2 none) (fun x=>match x with | .own a lo len ext none=>bif Nat.beq a id then some (lo,len,ext) else none | _=>none) (fun x b h=>by
 split at h
 ·rename_i a lo len ext
  cases hc:Nat.beq a id with
  | false=>rw [hc] at h;cases h
  | true=>rw [hc] at h;cases h;rw [qAf hc]
 ·cases h) (pPr lo (pPr len ext))
def vF (n:Nat) (p q:LPt):VPt:=pSub (fun b=>.fn (.func n) b.1 b.2) (fun x=>match x with | .fn (.func k) a b=>bif Nat.beq k n then some (a,b) else none | _=>none) (fun x b h=>by
 split at h
 ·rename_i k a b
  cases hc:Nat.beq k n with
  | false=>rw [hc] at h;cases h
  | true=>rw [hc] at h;cases h;rw [qAf hc]
 ·cases h) (pPr p q)
def lN:LPt:=pCst [] (fun x=>match x with | []=>true | _::_=>false) fun x h=>by cases x <;> cases h;rfl
def lC (p:VPt) (q:LPt):LPt:=pSub (fun b=>b.1::b.2) (fun x=>match x with | y::r=>some (y,r) | []=>none) (fun x b h=>by cases x <;> cases h;rfl) (pPr p q)
def fN:Pat Frm:=pCst [] (fun x=>match x with | []=>true | _::_=>false) fun x h=>by cases x <;> cases h;rfl
def fV (s:Nat) (p:VPt) (q:Pat Frm):Pat Frm:=pSub (fun b=>(s,.v b.1)::b.2) (fun x=>match x with | (k,.v y)::r=>bif Nat.beq k s then some (y,r) else none | _=>none) (fun x b h=>by
 split at h
 ·rename_i k y r
  cases hc:Nat.beq k s with
  | false=>rw [hc] at h;cases h
  | true=>rw [hc] at h;cases h;rw [qAf hc]
 ·cases h) (pPr p q)
def fX (s:Nat) (p:VPt) (q:Pat Frm):Pat Frm:=pSub (fun b=>(s,.box b.1)::b.2) (fun x=>match x with | (k,.box y)::r=>bif Nat.beq k s then some (y,r) else none | _=>none) (fun x b h=>by
 split at h
 ·rename_i k y r
  cases hc:Nat.beq k s with
  | false=>rw [hc] at h;cases h
  | true=>rw [hc] at h;cases h;rw [qAf hc]
 ·cases h) (pPr p q)
def rhN:Pat Hp:=pCst [] (fun x=>match x with | []=>true | _::_=>false) fun x h=>by cases x <;> cases h;rfl
def rhB (fz pu:Bool) (esz:Nat) (p:LPt) (q:Pat Hp):Pat Hp:=pSub (fun b=>⟨fz,pu,esz,b.1⟩::b.2) (fun x=>match x with | ⟨a,b,c,rows⟩::r=>bif (a == fz)&&((b == pu)&&Nat.beq c esz) then some (rows,r) else none | []=>none) (fun x b h=>by
 split at h
 ·rename_i a b c rows r
  cases hc:((a == fz)&&((b == pu)&&Nat.beq c esz)) with
  | false=>rw [hc] at h;cases h
  | true =>
   rw [hc] at h
   simp only [qAc,beq_iff_eq] at hc
   cases h
   rw [hc.1,hc.2.1,qAf hc.2.2]
 ·cases h) (pPr p q)
structure RPt where
 p:LPt
 n:∀ r r' t,(p.of r t).length=(p.of r' t).length
structure HPt where
 p:Pat Hp
 n:∀ r r' t id,blen (p.of r t) id=blen (p.of r' t) id
def rA:RPt:=⟨pAt,fun _ _ _=>rfl⟩
def rN:RPt:=⟨lN,fun _ _ _=>rfl⟩
def rC (p:VPt) (q:RPt):RPt:=⟨lC p q.p,fun r r' t=>congrArg (·+1) (q.n r r' t.2)⟩
def hN:HPt:=⟨rhN,fun _ _ _ _=>rfl⟩
def hB (fz pu:Bool) (esz:Nat) (p:RPt) (q:HPt):HPt:=⟨rhB fz pu esz p.p q.p,fun r r' t id=>by
 cases id with
 | zero=>exact p.n r r' t.1
 | succ k=>exact q.n r r' t.2 k⟩
abbrev Sta:Type:=Hp×Frm×Frm
abbrev r0:Nat→Nat:=fun _=>0
def pS (h:HPt) (p o:Pat Frm):Pat Sta :=
 ⟨h.p.T×p.T×o.T,fun R=>h.p.A (p.A (o.A R)),fun g t=>o.app (p.app (h.p.app g t.1) t.2.1) t.2.2,fun _ t=>(h.p.of (blen (h.p.of r0 t.1)) t.1,p.of (blen (h.p.of r0 t.1)) t.2.1,o.of (blen (h.p.of r0 t.1)) t.2.2),
  fun _ x g=>match h.p.get (blen x.1) x.1 g with | none=>none | some (a,g1)=>(match p.get (blen x.1) x.2.1 g1 with | none=>none | some (b,g2)=>(match o.get (blen x.1) x.2.2 g2 with | none=>none | some (c,g3)=>some ((a,b,c),g3))),fun {H x g t g'} e k=>by
   obtain ⟨X,Y,Z⟩:=x
   cases h1:h.p.get (blen X) X g with
   | none=>simp only [h1] at e;cases e
   | some y =>
    obtain ⟨a,g1⟩:=y
    simp only [h1] at e
    cases h2:p.get (blen X) Y g1 with
    | none=>rw [h2] at e;cases e
    | some z =>
     obtain ⟨b,g2⟩:=z
     rw [h2] at e
     simp only at e
     cases h3:o.get (blen X) Z g2 with
     | none=>rw [h3] at e;cases e
     | some w =>
      obtain ⟨c,g3⟩:=w
      rw [h3] at e
      cases e
      obtain ⟨k3,e3⟩:=o.inv h3 k
      obtain ⟨k2,e2⟩:=p.inv h2 k3
      obtain ⟨k1,e1⟩:=h.p.inv h1 k2
      refine ⟨k1,?_⟩
      show (X,Y,Z)=(h.p.of (blen (h.p.of r0 a)) a,p.of (blen (h.p.of r0 a)) b,o.of (blen (h.p.of r0 a)) c)
      have e4:blen (h.p.of r0 a)=blen X:=funext fun id=>by
       rw [h.n r0 (blen X) a id,← e1]
      rw [e4,← e1,← e2,← e3]⟩
structure St where
 p:Pat Sta
 g:Nat→p.A Prop
def runS:List St→Nat→Sta→Prop
 | [],_,_=>False
 | s::r,n,x=>match s.p.get r0 x none with | some (t,b)=>asB b (s.p.app (s.g n) t) | none=>runS r n x
def runE:List St→Sta→Prop
 | [],_=>False
 | s::r,x=>match s.p.get r0 x none with | some (t,b)=>asB b (∃ n,s.p.app (s.g n) t) | none=>runE r x
theorem yET {x:Sta}:∀ {L:List St},runE L x→∃ n,runS L n x
 | [],h=>h.elim
 | s::r,h=>by
  unfold runE at h
  unfold runS
  split at h
  ·rename_i t b e
   obtain ⟨hb,n,h⟩:=ywH.1 h
   exact ⟨n,ywH.2 ⟨hb,h⟩⟩
  ·obtain ⟨n,h⟩:=yET h
   exact ⟨n,h⟩
theorem yoh {x:Sta} {n:Nat}:∀ {L:List St},runS L n x→∃ s,s∈L∧∃ t,x=s.p.of r0 t∧s.p.app (s.g n) t
 | [],h=>h.elim
 | s::r,h=>by
  unfold runS at h
  split at h
  ·rename_i t b e
   obtain ⟨hb,h⟩:=ywH.1 h
   exact ⟨s,qAm,t,(s.p.inv e hb).2,h⟩
  ·obtain ⟨s',h1,h2⟩:=yoh h
   exact ⟨s',qAj _ h1,h2⟩
def bodS (gc:Bool) (L:List St) (n:Nat) (G:Frm) (k:Nat) (F':Frm) (H':Hp):Prop:=runS L n (bif gc then gcH F' k H' else H',F',G)
def AllB (E:Env) (callK:CK) (lp:LP) (yk:Frm→YK) (b:TC) (gc:Bool) (Q:Qx) (L:List St):List St→Prop
 | []=>True
 | s::r=>(∀ t,s.p.app (s.g 0) t=False)∧(∀ n t,WC E callK lp (s.p.of r0 t).2.2 (yk (s.p.of r0 t).2.2) b (s.p.of r0 t).2.1 (s.p.of r0 t).1 (exQ (bodS gc L n (s.p.of r0 t).2.2 (s.p.of r0 t).1.length) Q)=s.p.app (s.g (n+1)) t)∧AllB E callK lp yk b gc Q L r
theorem AllB.mem {E:Env} {callK:CK} {lp:LP} {yk:Frm→YK} {b:TC} {gc:Bool} {Q:Qx} {L:List St}:∀ {l:List St},AllB E callK lp yk b gc Q L l→∀ s∈l,(∀ t,s.p.app (s.g 0) t=False)∧(∀ n t,WC E callK lp (s.p.of r0 t).2.2 (yk (s.p.of r0 t).2.2) b (s.p.of r0 t).2.1 (s.p.of r0 t).1 (exQ (bodS gc L n (s.p.of r0 t).2.2 (s.p.of r0 t).1.length) Q)=s.p.app (s.g (n+1)) t)
 | [],_,s,h=>by cases h
 | x::r,h,s,hs=>by
  rcases qAq.1 hs with rfl | hs
  ·exact ⟨h.1,h.2.1⟩
  ·exact AllB.mem h.2.2 s hs
section
variable {E:Env} {callK:CK} {P:EP} {lp:LP} {yk:Frm→YK} {b:TC} {Q:Qx} {L:List St} {id:Nat} {F G:Frm} {H:Hp}
theorem yof.st (hP:Sub P E) (hG:Good P callK) (hY:YOk P E (yk G)) (hl:LpOk P E lp G b) (hb:AllB E callK lp yk b false Q L L) (h:runE L (H,F,G)) (hf:ydu b=true:=by kernel_rfl):yof P (.loop id b) F H Q:=by
 obtain ⟨n,h⟩:=yET h
 refine yof.intro (id:=id) hP hG hf hY hl (fun n F H=>runS L n (H,F,G)) (fun F H h=>?_) (fun n F H h=>?_) n F H h
 ·obtain ⟨s,hs,t,_,h⟩:=yoh h
  rw [(hb.mem s hs).1 t] at h
  exact h
 ·obtain ⟨s,hs,t,e,h⟩:=yoh h
  rw [← (hb.mem s hs).2 n t,← e] at h
  exact h
theorem yof.stG (hP:Sub P E) (hG:Good P callK) (hY:YOk P E (yk G)) (hl:LpOk P E lp G b) (hb:AllB E callK lp yk b true Q L L) (h:runE L (H,F,G)) (hf:ydu b=true:=by kernel_rfl):yof P (.lG id b) F H Q:=by
 obtain ⟨n,h⟩:=yET h
 refine yof.introG (id:=id) hP hG hf hY hl (fun n F H=>runS L n (H,F,G)) (fun F H h=>?_) (fun n F H h=>?_) n F H h
 ·obtain ⟨s,hs,t,_,h⟩:=yoh h
  rw [(hb.mem s hs).1 t] at h
  exact h
 ·obtain ⟨s,hs,t,e,h⟩:=yoh h
  rw [← (hb.mem s hs).2 n t,← e] at h
  exact h
end
abbrev yct (S:SE) (d:Nat) (yk:Frm→YK) (b:TC) (gc:Bool) (L:Qx→List St):Prop:=∀ Q,AllB S.E (yqA S d) S.lp yk b gc Q (L Q) (L Q)
abbrev a:Frm→YK:=fun _=>noYK
abbrev LpT (P:EP) (lp:LP) (G:Frm) (id:Nat) (c:TC):Prop:=∀ F H Q,lp id G F H Q→yof P c F H Q
def lpS:List (Nat×(Qx→List St))→LP
 | [],_,_,_,_,_=>False
 | p::r,id,G,F,H,Q=>bif Nat.beq id p.1 then runE (p.2 Q) (H,F,G) else lpS r id G F H Q
structure Sg where
 p:LPt
 R:Type
 k:(PV→Prop)→R
abbrev Sg.W (s:Sg):Type:=s.p.A (s.R→Prop)
def Sg.pw (s:Sg) (w:s.W) (az:List PV) (K:PV→Prop):Prop:=match s.p.get r0 az none with | some (t,b)=>asB b (s.p.app w t (s.k K)) | none=>False
def sE (E:Env) (l:List (Nat×(List PV→(PV→Prop)→Prop))) (lp:LP):SE:=⟨E,ygu l,ygv [],lp,fun _=>none⟩
def lp0:LP:=fun _ _ _ _ _=>False
def EqW (S:SE) (d:Nat) (t:TFn) (s:Sg) (w:s.W):Prop:=∀ a K,WP S d t (s.p.of r0 a) K=s.p.app w a (s.k K)
theorem Sg.inv {s:Sg} {w:s.W} {az:List PV} {K:PV→Prop} (h:s.pw w az K):∃ a,az=s.p.of r0 a∧s.p.app w a (s.k K):=by
 unfold Sg.pw at h
 split at h
 ·rename_i t b e
  obtain ⟨hb,h⟩:=ywH.1 h
  exact ⟨t,(s.p.inv e hb).2,h⟩
 ·exact h.elim
theorem okW {P:EP} {S:SE} {d n:Nat} {t:TFn} {s:Sg} {w:s.W} (hq:EqW S d t s w) (hS:SEOk P S) (hR:ynq P S.E (yqA S d) t.body) (hl:LpOk P S.E S.lp [] t.body) (hs:∀ az,S.E.sum n az=none) (he:∀ az H,S.E.eff n az H=none) (hf:S.E.fns n=some t.fn) (hu:S.E.qui n=true) (hn:S.E.nl n=false):∀ az K,s.pw w az K→∃ r,K r∧AnsP P n az r:=fun az K h=>by
 obtain ⟨a,e,k⟩:=Sg.inv h
 subst e
 rw [← hq a K] at k
 exact yLI hS hR hl hf hu hs he k hn
end Go.Pf
namespace Go.Pf.Vc
open Go Go.Pf
def ykg:Nat:=45
def yfr:Nat:=15
def yie:Nat:=62
def ykh:Nat:=53
def ypL:Nat:=20
def yki:Nat:=54
def yf9:Nat:=162
def yga:Nat:=163
def ydv:Nat:=129
def yeX:Nat:=81
def ydk:Nat:=38
def yiq:Nat:=40
def ydS:Nat:=85
def yc6:Nat:=84
def yiN:Nat:=116
def ykj:Nat:=134
def yeM:Nat:=133
def ycz:Nat:=87
def yeb:Nat:=159
def ygw:Nat:=160
def ydD:Nat:=167
def yec:Nat:=172
def yc0:Nat:=136
def yjf:Nat:=170
def yeY:Nat:=161
def yd4:Nat:=132
def ybb:Nat:=89
def yed:Nat:=166
def yeN:Nat:=188
def ydL:Nat:=177
def yee:Nat:=189
def ydw:Nat:=179
def yiO:Nat:=178
def yeZ:Nat:=138
def ye0:Nat:=165
def yfs:Nat:=164
def yhF:Nat:=173
def yhG:Nat:=174
def ypM:Nat:=201
def yef:Nat:=187
def yls:Nat:=176
def ypN:Nat:=175
def ye1:Nat:=137
def yd5:Nat:=90
def yif:Nat:=117
def yfZ:Nat:=169
def yvA:Nat:=168
def ykk:Nat:=131
def yeO:Nat:=83
def ydx:Nat:=202
def ygW:Nat:=186
def yhH:Nat:=171
def ymh:Nat:=140
def yce:Nat:=93
def ybA:Nat:=86
def yiP:Nat:=130
def yeg:Nat:=82
def ye2:Nat:=135
def ye3:Nat:=88
def ydE:Nat:=91
def ykl:Nat:=139
def ycO:Nat:=92
def ybU:Nat:=41
def ycm:Nat:=47
def yh2:Nat:=143
def ykm:Nat:=100
def yca:Nat:=144
def yz7:Nat:=200
def yGh:Nat:=182
def ye4:Nat:=192
def ygX:Nat:=181
def ybp:Nat:=145
def yf0:Nat:=147
def yc7:Nat:=146
def ygY:Nat:=101
def ygZ:Nat:=49
def ycc:Nat:=48
def yoi:Nat:=46
def yiQ:Nat:=16
def ylt:Nat:=55
def yoj:Nat:=22
def ymi:Nat:=52
def ymj:Nat:=18
def ykn:Nat:=21
def ylu:Nat:=39
def yg0:Nat:=11
def ygx:Nat:=58
def yhI:Nat:=57
def ygy:Nat:=24
def ygd:Nat:=56
def ygz:Nat:=59
def yjv:Nat:=60
def ydF:Nat:=25
def yko:Nat:=23
def ykp:Nat:=27
def yhJ:Nat:=61
def ymk:Nat:=26
def ykq:Nat:=63
def ykr:Nat:=103
def yiR:Nat:=104
def ypO:Nat:=150
def yjw:Nat:=107
def yks:Nat:=108
def ykt:Nat:=109
def ylv:Nat:=65
def ypP:Nat:=105
def ypQ:Nat:=106
def yku:Nat:=64
def ykv:Nat:=28
def yhK:Nat:=5
abbrev zI:Sh:=.one (.i .i64)
abbrev zD:Sh:=.one .d
abbrev z2:Sh:=.agg [.i .i64,.i .i64]
abbrev z4:Sh:=.agg [.i .i64,.i .i64,.i .i64,.i .i64]
abbrev zK:Sh:=.agg [.i .i64,.d,.d]
abbrev zE:Sh:=.agg [.d,.d]
def yLL (o:AO):Nat :=
 match o.dst with
 | some d=>d
 | none=>(match o.op with | .store _ (.t a) _=>a+100000 | _=>999999)
def anF:List (Sh×Nat×List Nat)→Nat→Option (Sh×Nat)
 | [],_=>none
 | (s,m,l)::r,k=>bif memN l k then some (s,m) else anF r k
def anL (tb:List (Sh×Nat×List Nat)):Nat→List AO→List An
 | _,[]=>[]
 | i,o::r=>(match anF tb (yLL o) with | some (s,m)=>⟨i,s,m⟩::anL tb (i+1) r | none=>anL tb (i+1) r)
def annT (tb:List (Sh×Nat×List Nat)) (lps:List (Nat×Nat)):Nat→AC→TC
 | _,.skip=>.skip
 | _,.ops l ps fg=>.ops l (anL tb 0 l) ps fg
 | k,.seq a b=>.seq (annT tb lps k a) (annT tb lps k b)
 | k,.cond c a b=>.cond c (annT tb lps k a) (annT tb lps k b)
 | _,.block id b=>.block id (annT tb lps id b)
 | k,.loop b=>.loop ((lps.lookup k).getD 0) (annT tb lps k b)
 | k,.lG b=>.lG ((lps.lookup k).getD 0) (annT tb lps k b)
 | _,.exit id=>.exit id
 | _,.ret=>.ret
 | _,.bad=>.bad
 | _,.rangeF g ps az bd=>.cut (.rangeF g ps az bd)
 | _,.yret c pre d y args e fgt=>.cut (.yret c pre d y args e fgt)
theorem ye5 (tb:List (Sh×Nat×List Nat)) (lps:List (Nat×Nat)):∀ (c:AC) (k:Nat),ybC (annT tb lps k c)=c
 | .skip,_=>rfl
 | .ops _ _ _,_=>rfl
 | .seq a b,k=>by simp only [annT,ybC,ye5 tb lps a,ye5 tb lps b]
 | .cond _ a b,k=>by simp only [annT,ybC,ye5 tb lps a,ye5 tb lps b]
 | .block _ b,k=>by simp only [annT,ybC,ye5 tb lps b]
 | .loop b,k=>by simp only [annT,ybC,ye5 tb lps b]
 | .lG b,k=>by simp only [annT,ybC,ye5 tb lps b]
 | .exit _,_=>rfl
 | .ret,_=>rfl
 | .bad,_=>rfl
 | .rangeF ..,_=>rfl
 | .yret ..,_=>rfl
def tfn (tb:List (Sh×Nat×List Nat)) (lps:List (Nat×Nat)):Option AFn→TFn
 | some f=>⟨f.nparams,f.results,annT tb lps 999999 f.body⟩
 | none=>⟨0,[],.bad⟩
theorem yLb {tb:List (Sh×Nat×List Nat)} {lps:List (Nat×Nat)} {o:Option AFn} (h:o.isSome=true):o=some (tfn tb lps o).fn:=by
 cases o with
 | none=>cases h
 | some f=>simp only [tfn,TFn.fn,ye5]
def yci (t:TFn) (id:Nat):TC :=
 match (ycH t.body).lookup id with
 | some (.loop _ b)=>b
 | some (.lG _ b)=>b
 | _=>.skip
def rg:Nat→Nat→List Nat
 | a,0=>[a]
 | a,n+1=>a::rg (a+1) n
def xp:List Nat→List Nat
 | a::b::r=>bif Nat.blt 5000 b then rg a (b-5000)++xp r else a::xp (b::r)
 | l=>l
def tl (tb:List (Sh×Nat×List Nat)) (lps:List (Nat×Nat)) (loc:List Nat) (fg:List (Nat×List Nat)) (f:Func):TFn:=tfn tb lps (yq7 Proofs.Tryz.prog loc (fun i=>xp ((fg.lookup i).getD [])) f)
theorem yaL {tb:List (Sh×Nat×List Nat)} {lps:List (Nat×Nat)} {loc:List Nat} {fg:List (Nat×List Nat)} {f:Func} (h:(yq7 Proofs.Tryz.prog loc (fun i=>xp ((fg.lookup i).getD [])) f).isSome=true):yq7 Proofs.Tryz.prog loc (fun i=>xp ((fg.lookup i).getD [])) f=some (tl tb lps loc fg f).fn:=yLb h
def yDl:TFn:=tl [(zK,0,[4,9])] [] [1] [(1,[1,3,5009]),(0,[0,2])] Proofs.Tryz.f45
def ylw:TFn:=tl [(zK,0,[12,13])] [(0,4277600)] [] [(6,[0,3,7,15,16,17]),(3,[8,9,14]),(5,[0,3,14]),(4,[7,10,5003]),(2,[4,5,6]),(0,[2])] Proofs.Tryz.f15
def yun:TC:=yci ylw 4277600
def yvB:TFn:=tl [(zK,0,[6,10,15,19,25,28,35,42,44,50,55,61,67,74,82,91]),(zI,0,[36,37,47,48,64,65,69,70,76,77,84,85,93,94])] [(0,94526800)] [1] [(14,[98]),(13,[98]),(12,[1,3,4,57,97]),(8,[58,59]),(11,[87,5009]),(10,[1,3,4,87]),(9,[57,60,5026]),(7,[53,5003]),(5,[52]),(4,[1,52]),(3,[13,5038]),(2,[1,13]),(1,[5,5007]),(0,[0,2])] Proofs.Tryz.f62
def yrj:TC:=yci yvB 94526800
def yok:TFn:=tl [(zE,0,[6,11,16,21,27,34,41,47,53]),(zK,0,[29,30,36,37,49,51,54,56])] [(0,6981300),(2,6981301)] [1] [(15,[1,4,43]),(12,[44,45,57]),(14,[1,4,57]),(13,[43,46,5010]),(11,[39,5003]),(10,[3,23]),(7,[24,25,32]),(9,[1,3,32,5006]),(8,[23,26,5005]),(6,[19,5003]),(5,[18]),(4,[1,18]),(3,[14,5003]),(2,[1,14]),(1,[5,5008]),(0,[0,2])] Proofs.Tryz.f53
def yuo:TC:=yci yok 6981300
def yup:TC:=yci yok 6981301
def yHq:TFn:=tl [] [] [] [(1,[0,3,5013]),(0,[2])] Proofs.Tryz.f20
def yDm:TFn:=tl [] [] [1,2,4,5,7,8] [(1,[1,5009]),(0,[0])] Proofs.Tryz.f54
def ynu:TFn:=tl [(zI,0,[10,11,21,22])] [(0,10434000)] [] [(8,[0,3,4,15,24]),(6,[16,17]),(7,[15,18,5005]),(5,[12,13,14]),(3,[7,9,10,11]),(2,[7,8]),(1,[5,6]),(0,[2])] Proofs.Tryz.f162
def yrk:TC:=yci ynu 10434000
def ynv:TFn:=tl [(zI,0,[10,11,21,22])] [(0,64079100)] [] [(8,[0,3,4,15,24]),(6,[16,17]),(7,[15,18,5005]),(5,[12,13,14]),(3,[7,9,10,11]),(2,[7,8]),(1,[5,6]),(0,[2])] Proofs.Tryz.f163
def yrl:TC:=yci ynv 64079100
def ysV:TFn:=tl [(zK,0,[6,9,16,24,32,39,45,54,59,67,72,78]),(zI,0,[33,34,42,43,56,57,62,63])] [(0,87419700)] [1] [(14,[81]),(13,[81]),(12,[1,49,50,51,66,5014]),(11,[64,65]),(10,[1,49,50,64]),(9,[4,53,5010]),(8,[51,52]),(6,[3,47,48]),(5,[1,3,47]),(4,[14,5032]),(3,[1,3,14]),(2,[8,5005]),(1,[5,6,7]),(0,[0,2])] Proofs.Tryz.f129
def yrm:TC:=yci ysV 87419700
def yol:TFn:=tl [(zE,0,[9,14,19,23,36,45]),(zK,0,[27,28,40,41,43,46,48])] [(0,12157600),(2,12157601)] [1,4,7] [(18,[1,36,5003]),(17,[49,50]),(16,[1,36,37,38,49]),(15,[7,42,5006]),(14,[39,40,41]),(12,[23,5003,35]),(11,[5,32,34]),(10,[1,5,23,24,25,32,33]),(9,[31]),(8,[4,29,30]),(7,[26,27,28]),(5,[21,22]),(4,[1,21]),(3,[17,5003]),(2,[1,17]),(1,[8,5008]),(0,[0,2])] Proofs.Tryz.f81
def yrn:TC:=yci yol 12157600
def yro:TC:=yci yol 12157601
def yv1:TFn:=tl [(zE,0,[10])] [] [1] [(6,[12]),(5,[12]),(4,[1,3,7,9,10,11]),(3,[1,3,7,8]),(2,[6]),(1,[4,5]),(0,[0,2])] Proofs.Tryz.f38
def yH6:TFn:=tl [(zI,0,[100018])] [] [] [(5,[0,2,3,14,16,17,18]),(4,[2,14,15]),(3,[4,13]),(2,[7,5005]),(1,[6]),(0,[5])] Proofs.Tryz.f40
def yxP:TFn:=tl [] [] [2] [(1,[0,3,4])] Proofs.Tryz.f85
def yuq:TFn:=tl [(zE,0,[11])] [] [2] [(1,[1,2,5,5009]),(0,[0,4])] Proofs.Tryz.f84
def ysW:TFn:=tl [(zK,0,[14,24,30]),(zI,0,[19,20,27,28,32,33])] [(0,45203600)] [1] [(10,[1,5,14,5003,38]),(9,[37]),(8,[6,7,21,5015]),(7,[17,5003]),(5,[13]),(4,[4,11]),(3,[1,4,11,12]),(2,[10]),(1,[8,9]),(0,[0,2,3])] Proofs.Tryz.f116
def yrp:TC:=yci ysW 45203600
def yDn:TFn:=tl [(zE,0,[18]),(zK,0,[20,21])] [] [2] [(6,[1,2,16,5008]),(5,[1,2,16]),(4,[6,10,12,5003]),(3,[1,2,6,10,11]),(2,[9]),(1,[7,8]),(0,[0,4,5])] Proofs.Tryz.f134
def ysX:TFn:=tl [] [] [] [(3,[0,1,6,9]),(2,[1,6,7,8]),(1,[5]),(0,[4])] Proofs.Tryz.f133
def yom:TFn:=tl [(zE,0,[8])] [] [4] [(1,[0,1,5,5009])] Proofs.Tryz.f87
def yA5:TFn:=tl [] [] [] [(3,[0,4,8,9]),(2,[0,4,5003]),(1,[3]),(0,[2])] Proofs.Tryz.f159
def yvC:TFn:=tl [] [(0,32725300)] [] [(3,[0,1,6,11]),(2,[6,5004]),(1,[5]),(0,[4])] Proofs.Tryz.f160
def yrq:TC:=yci yvC 32725300
def yyU:TFn:=tl [(z2,0,[4,8,11,18,21])] [] [1] [(3,[25]),(2,[25]),(1,[1,3,5021]),(0,[0,2])] Proofs.Tryz.f167
def yjx:TFn:=tl [(zI,0,[10,11])] [(0,38508400)] [] [(8,[3,6,5003,17]),(7,[5,14,16]),(6,[3,5,5003,14,15]),(5,[12,13]),(4,[9,10,11]),(2,[0]),(0,[2])] Proofs.Tryz.f172
def yrr:TC:=yci yjx 38508400
def yyV:TFn:=tl [] [] [9,2,3] [(1,[2,3,5,5005]),(0,[0,1,4])] Proofs.Tryz.f136
def yHr:TFn:=tl [] [] [] [(11,[0,1,48,49,50]),(10,[7,9,12,13,40,5007]),(9,[6,35,5004]),(8,[11,33,34]),(7,[31,32]),(6,[8,10,25,5005]),(5,[22,23,24]),(4,[20,21]),(3,[18,19]),(2,[16,17]),(1,[14,15]),(0,[4,5])] Proofs.Tryz.f170
def yxQ:TFn:=tl [] [] [6] [(5,[1,2,13,20,5004]),(4,[1,2,13,5006]),(3,[0,11]),(2,[0,1,2,11,12]),(1,[8,9,10]),(0,[7])] Proofs.Tryz.f161
def yDo:TFn:=tl [(z2,0,[25,28,31,34,71,74])] [] [2,3,4] [(10,[2,3,14,16,65,67,5015]),(9,[2,3,14,16,65,66]),(8,[13,15,62,63,64]),(7,[8,10,11,12,52,5009]),(6,[7,9,42,5009]),(5,[36,5005]),(4,[6,21,24,5011]),(3,[2,3,6,21,22,23]),(2,[20]),(1,[17,18,19]),(0,[0,1,5])] Proofs.Tryz.f132
def ylx:TFn:=tl [] [] [2,4] [(3,[1,2,6,9]),(2,[1,6,7,8]),(1,[5]),(0,[0])] Proofs.Tryz.f89
def yA6:TFn:=tl [] [] [2] [(1,[0,3,4])] Proofs.Tryz.f166
def ysY:TFn:=tl [] [] [] [(1,[0,3,4,5]),(0,[2])] Proofs.Tryz.f188
def yp1:TFn:=tl [] [] [] [(13,[19]),(12,[19]),(11,[0,1,16,17,18]),(10,[0,1,16]),(9,[13,14,15]),(8,[0,1,13]),(7,[6,11]),(6,[12]),(5,[12]),(4,[0,1,6,11]),(3,[5]),(2,[9,10]),(1,[7,8]),(0,[4])] Proofs.Tryz.f177
def yrs:TFn:=tl [] [] [] [(1,[0,3,4,5]),(0,[2])] Proofs.Tryz.f189
def yon:TFn:=tl [] [] [] [(13,[19]),(12,[19]),(11,[0,1,16,17,18]),(10,[0,1,16]),(9,[13,14,15]),(8,[0,1,13]),(7,[6,11]),(6,[12]),(5,[12]),(4,[0,1,6,11]),(3,[5]),(2,[9,10]),(1,[7,8]),(0,[4])] Proofs.Tryz.f179
def ysZ:TFn:=tl [(zI,0,[10,11])] [(0,53260600)] [] [(8,[3,6,5003,17]),(7,[5,14,16]),(6,[3,5,5003,14,15]),(5,[12,13]),(4,[9,10,11]),(2,[0]),(0,[2])] Proofs.Tryz.f178
def yrt:TC:=yci ysZ 53260600
def yDp:TFn:=tl [(z2,0,[19,22,26,28,32,35,42,45,59])] [] [56,2,3] [(11,[11,60,63]),(10,[60,61,62]),(9,[2,58,59]),(8,[7,5003,50,5007]),(7,[3,40,5009]),(6,[24,30,5009]),(5,[2,3,24,5005]),(4,[6,16,18,5005]),(3,[2,3,6,16,17]),(2,[15]),(1,[12,13,14]),(0,[0,1,4,5])] Proofs.Tryz.f138
def yDq:TFn:=tl [] [] [2,3] [(2,[5,13,14]),(1,[2,3,6,5006]),(0,[0,1,4])] Proofs.Tryz.f165
def yA7:TFn:=tl [(z2,0,[10]),(zK,0,[15])] [] [2,3] [(1,[2,3,5,5015]),(0,[0,1,4])] Proofs.Tryz.f164
def yHs:TFn:=tl [] [] [] [(10,[0,14,19,5005]),(9,[17,18]),(8,[14,15,16]),(7,[8,13]),(6,[11,12]),(5,[8,9,10]),(4,[4,7]),(2,[2,4,5,6]),(1,[3])] Proofs.Tryz.f201
def yru:TFn:=tl [] [] [] [(1,[0,3,4,5]),(0,[2])] Proofs.Tryz.f187
def yur:TFn:=tl [] [(0,60530100),(2,60530101)] [] [(28,[2,8,9,10,14,5004,113,120,5014]),(27,[119]),(26,[116,117,118]),(25,[113,114,115]),(24,[102,5010,120]),(23,[97,5004]),(22,[94,95,96]),(21,[11,13,16,78,85,5008]),(20,[84]),(19,[81,82,83]),(18,[78,79,80]),(17,[67,5010,85]),(16,[62,5004]),(15,[59,60,61]),(14,[12,57,58]),(13,[55,56]),(12,[1,52,53,54]),(11,[0,44,5007]),(10,[42,43]),(9,[40,41]),(8,[37,38,39]),(7,[27,34,35,36]),(6,[0,1,2,27,5006]),(5,[24,26]),(4,[24,25]),(3,[20,22,23]),(2,[20,21]),(1,[19]),(0,[6,7])] Proofs.Tryz.f176
def yrv:TC:=yci yur 60530100
def yrw:TC:=yci yur 60530101
def yHt:TFn:=tl [] [] [] [(2,[8,18]),(1,[0,1,2,7,9,5008]),(0,[6])] Proofs.Tryz.f175
def yDr:TFn:=tl [(z2,0,[29,32,37,40,49,52,60,63,66,140,145])] [] [2,3,4] [(26,[12,17,20,153,155,5005]),(25,[12,17,20,153,154]),(24,[19,152]),(23,[2,3,7,16,138,5013]),(22,[13,14,18,129,131,5006]),(21,[2,3,7,12,13,14,16,129,130]),(20,[127,128]),(19,[119,121,5005]),(18,[2,3,7,12,13,14,119,120]),(17,[114,5004]),(16,[8,10,15,107,5006]),(15,[9,11,94,101,5005]),(14,[99,100]),(13,[94,5004]),(12,[68,82,5011]),(11,[8,10,15,75,5006]),(10,[9,11,68,5006]),(9,[62,5005]),(8,[13,14,15]),(7,[59,60,61]),(6,[47,5011]),(5,[35,5011]),(4,[6,25,28,5006]),(3,[2,3,6,25,26,27]),(2,[24]),(1,[21,22,23]),(0,[0,1,5])] Proofs.Tryz.f137
def yDs:TFn:=tl [(z2,0,[15,100017])] [] [2,3,4] [(5,[2,3,18,5004]),(4,[6,11,14,5003]),(3,[2,3,6,11,12,13]),(2,[10]),(1,[7,8,9]),(0,[0,1,5])] Proofs.Tryz.f90
def yDt:TFn:=tl [(z2,0,[16,21,25,28,36,38])] [] [2,3,4] [(8,[2,3,19,34,5008]),(7,[2,3,19,23,5010]),(6,[14,20,21,22]),(5,[2,3,14,18]),(4,[6,11,15,16,17]),(3,[2,3,6,11,12,13]),(2,[10]),(1,[7,8,9]),(0,[0,1,5])] Proofs.Tryz.f117
def yqD:TFn:=tl [] [] [7,8,9,12,14] [(12,[5,6,7,14,15,41,48]),(11,[6,7,14,41,5006]),(10,[40]),(9,[3,4,9,20,33,5006]),(8,[5,13,29,31,32]),(7,[5,29,30]),(6,[28]),(5,[4,12,27]),(4,[3,6,7,9,20,5006]),(3,[17,18,19]),(2,[3,5004,9,17]),(1,[16]),(0,[0,1,2,8,11])] Proofs.Tryz.f169
def yvD:TFn:=tl [(zK,0,[14,22]),(zI,0,[19,20,25,26])] [(0,41613500)] [3,4,9,10,11] [(18,[2,3,4,14,5003]),(17,[8,9,31,61]),(16,[9,59,60]),(15,[2,3,4,9,14,15,16,59]),(14,[8,10,12,34,52,54,5004]),(13,[2,3,4,8,9,10,12,14,15,16,52,53]),(12,[51]),(11,[11,42,44,5006]),(10,[2,3,4,8,5004,14,15,16,42,43]),(9,[41]),(8,[34,5006]),(7,[33]),(6,[31,32]),(5,[28,29,30]),(4,[7,21,5006]),(3,[17,5003]),(1,[13]),(0,[0,1,6])] Proofs.Tryz.f168
def yrx:TC:=yci yvD 41613500
def yDu:TFn:=tl [(z2,0,[23,29,34,48]),(zI,0,[44,47,100010])] [] [3,4,6] [(15,[9,10,45,48]),(14,[9,10,45,46,47]),(13,[11,42,44]),(12,[11,42,43]),(11,[41]),(10,[3,4,5,37,5003]),(8,[35]),(7,[3,4,5,35,36]),(6,[31,33,34]),(5,[3,4,5,31,32]),(4,[8,15,18,5012]),(3,[3,4,5,8,15,16,17]),(2,[14]),(1,[12,13]),(0,[0,1,2,7])] Proofs.Tryz.f131
def ys0:TFn:=tl [(zE,0,[12]),(zK,0,[14,15])] [] [4,6,7,8] [(1,[1,4,6,7,10,5010]),(0,[0,2,3,9])] Proofs.Tryz.f83
def yGi:TFn:=tl [] [] [] [(3,[0,4,5003]),(2,[0,4]),(1,[3]),(0,[2])] Proofs.Tryz.f202
def ys1:TFn:=tl [(zK,0,[10,11,14,16,19])] [(0,94933800)] [22,5] [(7,[3,6,5003,25]),(6,[24]),(5,[5,12,5011]),(4,[9,10,11]),(2,[0]),(0,[2])] Proofs.Tryz.f186
def yry:TC:=yci ys1 94933800
def yly:TFn:=tl [(zE,0,[14,46,55,61,66]),((.agg [.i .i64,.i .u8,.i .i64,.i .i64,.i .i64,.i .i64,.i .i64,.i .i64]),0,[23,31,33,35,100052])] [] [69,3,4,6,7,10] [(13,[3,4,10,12,59,5013]),(12,[53,5005]),(11,[48,51,52]),(10,[3,4,10,48,49,50]),(9,[11,40,44,5003]),(8,[3,4,10,11,40,5003]),(7,[39]),(6,[2,25,28,5010]),(5,[2,3,4,25,26,27]),(4,[9,17,21,5003]),(3,[2,3,4,9,17,5003]),(2,[16]),(1,[13,14,15]),(0,[0,1,8])] Proofs.Tryz.f171
def yEU:TFn:=tl [] [] [4,6,7,8,9,11] [(2,[1,6,7,11,14,5010]),(1,[4,12,13]),(0,[0,2,3,10])] Proofs.Tryz.f140
def yp2:TFn:=tl [(zE,0,[16,100030])] [] [6,7,8,9,10] [(4,[10,31]),(3,[0,9,27,5003]),(2,[11,24,25,26]),(1,[1,6,7,12,5011]),(0,[2,3])] Proofs.Tryz.f93
def ynL:TFn:=tl [] [] [6,7,8,9,10] [(2,[0,1,6,7,10,21,5010]),(1,[11,5009]),(0,[2,3])] Proofs.Tryz.f86
def ys2:TFn:=tl [(zK,0,[42,50]),(zI,0,[47,48,53,54])] [(0,85339800)] [3,4,5,6,9,10,13,14,16] [(28,[3,5,9,10,42,5003,105]),(27,[13,70,104]),(26,[13,15,100,103]),(25,[3,5,9,10,13,15,42,43,44,100,101,102]),(24,[99]),(23,[16,90,93,5005]),(22,[3,5,9,10,13,15,16,42,43,44,90,91,92]),(21,[89]),(20,[12,14,79,82,5006]),(19,[3,5,9,10,12,5003,42,43,44,79,80,81]),(18,[78]),(17,[67,72,5005]),(16,[13,70,71]),(15,[12,67,68,69]),(14,[58,60,5006]),(13,[58,59]),(12,[56,57]),(11,[11,49,5006]),(10,[45,5003]),(8,[41]),(7,[4,40]),(6,[37,39]),(5,[3,4,5,37,38]),(4,[8,20,23,5013]),(3,[3,4,5,8,20,21,22]),(2,[19]),(1,[17,18]),(0,[0,1,2,7])] Proofs.Tryz.f130
def yrz:TC:=yci ys2 85339800
def yrA:TFn:=tl [(zE,0,[12]),(zK,0,[14,15])] [] [4,6,7,8] [(1,[1,4,6,7,10,5010]),(0,[0,2,3,9])] Proofs.Tryz.f82
def yDv:TFn:=tl [] [] [4,6,7,8,9,11] [(2,[1,6,7,11,14,5010]),(1,[4,12,13]),(0,[0,2,3,10])] Proofs.Tryz.f135
def ye6:TFn:=tl [(z4,0,[17,18,26,28]),(zE,0,[23,100042])] [(0,38310000)] [37,9,10,11] [(9,[0,1,7,13,5003,44]),(8,[43]),(7,[10,39,5003]),(6,[11,12,33,5005]),(5,[9,19,5013]),(4,[16,17,18]),(2,[2]),(0,[6])] Proofs.Tryz.f88
def yhL:TC:=yci ye6 38310000
def yqE:TFn:=tl [(zI,0,[11,12,17,18]),(z2,0,[22,23,26,27])] [(0,12610200)] [] [(9,[0,5,13,5003,35]),(8,[7,32,34]),(7,[7,32,33]),(6,[8,31]),(5,[9,19,5011]),(4,[16,17,18]),(2,[1]),(1,[10,11,12]),(0,[4])] Proofs.Tryz.f91
def yrB:TC:=yci yqE 12610200
def ykw:TFn:=tl [(zI,0,[9,10])] [(0,86939300)] [] [(7,[1,5,5003]),(6,[13,14]),(5,[1,5,6,7,13]),(4,[4,11,12]),(3,[8,9,10]),(1,[0]),(0,[2])] Proofs.Tryz.f139
def yrC:TC:=yci ykw 86939300
def ynw:TFn:=tl [(zI,0,[14,100004])] [(0,63461800)] [15] [(9,[1,3,6,7,18]),(8,[4,12,17]),(7,[4,12,5004]),(6,[5,10,11]),(5,[9]),(4,[7,8]),(0,[0,2]),(999999,[1])] Proofs.Tryz.f92
def yrD:TC:=yci ynw 63461800
def yoo:TFn:=tl [(zE,0,[17]),(zK,0,[18,20]),((.agg [.i .i64,.i .i64,.i .i64,.i .i64,.i .i64,.i .i64,.i .i64,.i .i64,.i .i64,.i .i64,.i .i64,.i .i64,.i .i64,.i .i64,.i .i64,.i .i64,.i .i64,.i .i64,.i .i64,.i .i64]),0,[44,47,102,108,119,140,147,151,154,158,163,166,173,100007,100112,100124,100127,100136,100145,100160,100172]),(z2,0,[54,55,61,62,79,80,83,84,88,89,92,93,122,123,128,100128]),(zI,0,[169,170])] [] [48,67,70,74,133,141,167,2,3,4,5,6,11] [(17,[7,173]),(16,[156,161,5011]),(15,[156,5004]),(14,[146,5009]),(13,[8,137,5008]),(12,[0,9,10,85,129,5007]),(11,[9,10,113,5015]),(10,[11,98,5014]),(9,[85,5012]),(8,[77,5007]),(7,[72,5004]),(6,[69,70,71]),(5,[50,5018]),(4,[41,5008]),(3,[3,5003,30,5010]),(2,[22,5007]),(1,[12,5009])] Proofs.Tryz.f41
def ynM:TFn:=tl [((.agg [.i .i64,.i .i64,.i .i64,.i .i64,.i .i64,.i .i64,.i .i64,.i .i64,.i .i64,.i .i64,.i .i64,.i .i64,.i .i64,.i .i64,.i .i64,.i .i64,.i .i64,.i .i64,.i .i64,.i .i64]),0,[17,19,28,32,42,51]),(z2,0,[35,36]),(zI,0,[66,67,72,73,90,91,98,99]),(z4,0,[68,69,74,75,85,86,92,93,100,101]),((.agg [.i .i64,.i .i64,.i .i64,.i .i64,.i .i64,.i .i64,.i .i64,.i .i64,.i .i64,.i .i64,.i .i64,.i .i64]),0,[100102,100103,100104])] [] [33,58,61,76,79,3,4,7,8,10] [(12,[10,105]),(11,[5,6,9,11,12,14,81,5023]),(10,[13,78,79,80]),(9,[0,63,5014]),(8,[60,61,62]),(7,[54,5005]),(5,[3,7,8,40,5013]),(4,[20,23,5016]),(3,[20,21,22]),(2,[15,5004]),(0,[1])] Proofs.Tryz.f47
def yyW:TFn:=tl [(z4,0,[7,9])] [] [1] [(2,[3,4,13,5005]),(1,[1,5,5007]),(0,[0,2])] Proofs.Tryz.f143
def yvE:TFn:=tl [(z4,0,[12,13])] [(0,56157900)] [4] [(9,[8,5003]),(8,[16,17]),(7,[8,9,10,16]),(6,[4,14,15]),(5,[11,12,13]),(3,[0,7]),(2,[0,7]),(1,[5,6]),(0,[2])] Proofs.Tryz.f100
def yrE:TC:=yci yvE 56157900
def ywI:TFn:=tl [] [] [] [(3,[0,4,5003]),(2,[0,4]),(1,[3]),(0,[2])] Proofs.Tryz.f144
def yLD:TFn:=tl [] [] [] [(7,[0,8,13,5005]),(6,[11,12]),(5,[8,9,10]),(4,[4,7]),(2,[2,4,5,6]),(1,[3])] Proofs.Tryz.f200
def yMq:TFn:=tl [] [] [] [(2,[0,6,7]),(1,[0,3,4,5]),(0,[2])] Proofs.Tryz.f182
def ycA:TFn:=tl [(z4,0,[25,26,30,31,45,46,49,50,51,52,100051,100052])] [(0,53122801),(2,53122800)] [] [(2,[9,15,16,34]),(5,[35,36]),(6,[34,37,5015]),(4,[18,5015]),(3,[14,17]),(1,[12,13]),(0,[10,11])] Proofs.Tryz.f192
def yLc:TC:=yci ycA 53122800
def yLd:TC:=yci ycA 53122801
def yg1:TFn:=tl [(z4,0,[88,89,92,93])] [(0,92709400)] [] [(30,[16,147]),(29,[2,140,5006]),(28,[18,19,20,125,137,138,139]),(27,[16,135,136]),(26,[1,129,5005]),(25,[18,19,20,125,5003]),(24,[123,124]),(23,[12,121,122]),(22,[115,5005]),(21,[17,114]),(20,[10,11,13,97,105,5008]),(19,[15,104]),(18,[1,12,13,97,5006]),(17,[75,80,5016]),(16,[75,5004]),(15,[14,56,68,5006]),(13,[62,5005]),(12,[14,56,5005]),(11,[55]),(10,[39,47,5007]),(9,[45,46]),(8,[39,5005]),(7,[32,38]),(6,[0,5004,10,11,12,32,5005]),(5,[25,31]),(4,[0,5004,10,11,12,25,5005]),(3,[24]),(2,[21,22,23])] Proofs.Tryz.f181
def yLe:TC:=yci yg1 92709400
def yus:TFn:=tl [] [] [] [(1,[0,1,4,7,5006]),(0,[5,6])] Proofs.Tryz.f145
def yyX:TFn:=tl [] [] [2,3] [(2,[5,13]),(1,[2,3,6,5006]),(0,[0,1,4])] Proofs.Tryz.f147
def yut:TFn:=tl [(z4,0,[6,8])] [] [2,3] [(1,[2,3,5,5004]),(0,[0,1,4])] Proofs.Tryz.f146
def yop:TFn:=tl [(z4,0,[15,16,23,27,29,34,38,40,47,48,100049])] [(0,63960300)] [52,5] [(13,[3,11,5003,55]),(12,[5,6,42,54]),(11,[5,6,32,50,5003]),(10,[5,6,42,5007]),(9,[32,5009]),(8,[19,5012]),(7,[17,18]),(6,[14,15,16]),(4,[0]),(2,[9,10]),(1,[7,8]),(0,[2])] Proofs.Tryz.f101
def yrF:TC:=yci yop 63960300
def yA8:TFn:=tl [] [] [] [(4,[0,4,8,10,11]),(3,[0,4,8,9]),(2,[7]),(1,[5,6]),(0,[2,3])] Proofs.Tryz.f49
def yml:TFn:=tl [] [] [] [(3,[0,1,6,9]),(2,[1,6,7,8]),(1,[5]),(0,[4])] Proofs.Tryz.f48
def yjy:TFn:=tl [((.agg [.i .i64,.i .i64,.i .i64,.i .i64,.i .i64,.i .i64,.i .i64,.i .i64,.i .i64,.i .i64,.i .i64,.i .i64]),0,[27]),(z4,0,[32,33,35,37])] [(0,52887901),(2,52887900)] [28,41,51,4,8] [(16,[54]),(15,[6,28,5003,44,5009]),(14,[8,38,43]),(13,[8,38,5004]),(12,[34,5003]),(11,[31,32,33]),(9,[5,18,5009]),(7,[16,17]),(5,[1,12]),(4,[1,12,13,14]),(3,[10,11]),(1,[9]),(0,[0]),(999999,[1])] Proofs.Tryz.f46
def ymm:TC:=yci yjy 52887900
def yrG:TC:=yci yjy 52887901
def yA9:TFn:=tl [(zI,0,[21,25,100005]),((.agg [.d]),0,[26,100002]),((.agg [.i .i64,.i .i64,.i .i64,.i .i64,.i .i64,.i .i64,.i .i64,.i .i64,.i .i64,.i .i64,.i .i64,.i .i64,.i .i64,.i .i64,.i .i64,.i .i64,.i .i64,.i .i64,.i .i64,.i .i64]),0,[27,100003]),(zE,0,[30,100007])] [] [1000002] [(8,[7,22,26,5004]),(7,[7,22,5003]),(6,[21]),(5,[19,20]),(4,[0,6,12,16,17,18]),(3,[0,6,12,5003]),(2,[11]),(1,[8,9,10]),(0,[4])] Proofs.Tryz.f16
def yIL:TFn:=tl [] [] [2] [(1,[0,3,4])] Proofs.Tryz.f55
def yIM:TFn:=tl [] [] [2] [(1,[0,3,4])] Proofs.Tryz.f22
def yxR:TFn:=tl [(z4,0,[19,20,23,24])] [(0,27088800)] [] [(8,[0,1,5,14]),(5,[15,16,25]),(7,[0,1,5,25]),(6,[14,17,5007]),(4,[11,12,13]),(3,[10]),(2,[0,1,10]),(1,[6,5003]),(0,[4])] Proofs.Tryz.f52
def yrH:TC:=yci yxR 27088800
def yxS:TFn:=tl [((.agg [.d]),0,[7,10,15,21,26]),(zD,0,[23,24,28,29])] [(0,70742100)] [2,3] [(8,[2,3,5,17]),(5,[18,19,31]),(7,[2,3,5,31]),(6,[17,20,5010]),(4,[13,5003]),(3,[12]),(2,[2,3,12]),(1,[6,5005]),(0,[0,1,4])] Proofs.Tryz.f18
def yrI:TC:=yci yxS 70742100
def yDw:TFn:=tl [] [] [47,51,55,56,1,2,5,6] [(4,[1,5003,6,30,5029]),(3,[5,15,5014]),(2,[14]),(1,[7,5006]),(0,[0])] Proofs.Tryz.f21
def yuu:TFn:=tl [] [] [] [(1,[1,2,3]),(0,[0])] Proofs.Tryz.f39
def yxT:TFn:=tl [(zI,0,[18,22,100004]),(zE,0,[24,100006]),((.agg [.i .i64,.i .i64,.i .i64,.i .i64,.i .i64,.i .i64,.i .i64,.i .i64,.i .i64,.i .i64,.i .i64,.i .i64,.i .i64,.i .i64,.i .i64,.i .i64,.i .i64,.i .i64,.i .i64,.i .i64]),0,[25,100003])] [] [1,2] [(8,[6,19,23,24,25]),(7,[6,19,5003]),(6,[18]),(5,[16,17]),(4,[1,5,10,14,15]),(3,[1,5,10,5003]),(2,[9]),(1,[7,8]),(0,[0])] Proofs.Tryz.f11
def yHu:TFn:=tl [] [] [] [(3,[0,4,10,11]),(2,[0,4,5005]),(1,[3]),(0,[2])] Proofs.Tryz.f58
def yz8:TFn:=tl [] [(0,16774900)] [] [(3,[0,1,6,11]),(2,[6,5004]),(1,[5]),(0,[4])] Proofs.Tryz.f57
def yrJ:TC:=yci yz8 16774900
def yDx:TFn:=tl [(z2,0,[4,8,13,18,23,26])] [] [1] [(3,[30]),(2,[30]),(1,[1,3,5026]),(0,[0,2])] Proofs.Tryz.f24
def yEV:TFn:=tl [] [] [2,3] [(3,[2,3,7,10,11]),(2,[2,3,7,8,9]),(1,[5,6]),(0,[0,1,4])] Proofs.Tryz.f56
def yDy:TFn:=tl [] [] [4] [(5,[5,7,9,10,11,35,5014]),(4,[6,26,5008]),(3,[8,20,5005]),(2,[1,16,5003]),(1,[0,12,5003])] Proofs.Tryz.f59
def yEW:TFn:=tl [((.agg [.i .u64,.i .u64]),0,[6,8,12,14,18,20])] [] [2,3] [(1,[2,3,5,5018]),(0,[0,1,4])] Proofs.Tryz.f60
def yEX:TFn:=tl [(z2,0,[8,11,15,18,21,25,28,32])] [] [2,3,5,6] [(6,[5,6,33,37,38,39]),(5,[5,6,33,5003]),(4,[2,31,32]),(3,[3,13,17,5013]),(2,[2,3,13,5003]),(1,[7,5005]),(0,[0,1,4])] Proofs.Tryz.f25
def yDz:TFn:=tl [(z4,0,[4,6,11,13])] [] [1] [(1,[1,3,5012]),(0,[0,2])] Proofs.Tryz.f23
def yvF:TFn:=tl [(zK,0,[7,14,19,25]),(zI,0,[16,17,22,23,27,28])] [(0,21661800)] [1] [(6,[1,3,4,9,32]),(4,[10,11]),(5,[9,12,5019]),(3,[5,5003]),(0,[0,2])] Proofs.Tryz.f27
def yrK:TC:=yci yvF 21661800
def yEY:TFn:=tl [((.agg [.i .u64,.i .u64]),0,[10,14,19,24,29,32]),(z2,0,[37,100039])] [] [4,5,6,8] [(6,[8,35,40]),(5,[35,5004]),(4,[0]),(3,[4,5,26,28,5006]),(2,[0,4,5,26,27]),(1,[9,5016]),(0,[1,2,7])] Proofs.Tryz.f61
def yEZ:TFn:=tl [] [] [4] [(5,[0,1,6,7,8,19,5015]),(4,[16,17,18]),(3,[10,12,5003]),(2,[0,1,10,11]),(1,[9]),(0,[5])] Proofs.Tryz.f26
def yDA:TFn:=tl [(z2,0,[10])] [] [3] [(1,[0,3,5,5014]),(0,[1,4])] Proofs.Tryz.f63
def yDB:TFn:=tl [] [] [2,3,4] [(3,[2,3,7,9]),(2,[2,3,7,8]),(1,[5,6]),(0,[0,1])] Proofs.Tryz.f103
def yBa:TFn:=tl [] [] [2,3,4] [(3,[2,3,7,9]),(2,[2,3,7,8]),(1,[5,6]),(0,[0,1])] Proofs.Tryz.f104
def yHv:TFn:=tl [(z2,0,[4,100006])] [] [1,2] [(2,[1,7]),(1,[3,5003]),(0,[0])] Proofs.Tryz.f150
def yE0:TFn:=tl [((.agg [.i .u64,.i .u64]),0,[8,10,13,15,19])] [] [2,3,4] [(5,[5,6,20,23,24,25]),(4,[20,21,22]),(3,[2,17,18,19]),(2,[3,12,5004]),(1,[7,5004]),(0,[0,1])] Proofs.Tryz.f107
def yDC:TFn:=tl [((.agg [.i .u64,.i .u64]),0,[7,9,12,14,20,22])] [] [2,3,4] [(4,[2,3,5,15,18,5006]),(3,[15,16,17]),(2,[11,5003]),(1,[6,5004]),(0,[0,1])] Proofs.Tryz.f108
def yvG:TFn:=tl [((.agg [.i .u64,.i .u64]),0,[15,23,42,100044])] [(0,22549700)] [2,4,6] [(14,[1,2,6,7,8,11,45,46]),(5,[12,13,37]),(13,[41,5003]),(12,[37,5003]),(11,[35,36]),(10,[32,33,34]),(9,[9,21,28,5003]),(8,[21,5006]),(7,[20]),(6,[11,14,5005]),(4,[10]),(0,[0,5])] Proofs.Tryz.f109
def yrL:TC:=yci yvG 22549700
def yHw:TFn:=tl [(z2,0,[25,28,32,35,41,44,50,56,59,72,96,101])] [] [2,3,4,7,8,10,11,14] [(17,[2,3,6,9,13,14,93,5015]),(16,[10,15,87,5005]),(15,[12,84,85,86]),(14,[11,76,78,5005]),(13,[2,3,6,9,10,76,77]),(12,[7,8,61,67,74,75]),(11,[71,72,73]),(10,[7,8,9,67,5003]),(9,[65,66]),(8,[61,5003]),(7,[55,5005]),(6,[52,53,54]),(5,[49,50,51]),(4,[31,5017]),(3,[19,24,5006]),(2,[2,3,19,5004]),(1,[16,17,18]),(0,[0,1,5])] Proofs.Tryz.f65
def yHx:TFn:=tl [] [] [2,3,4] [(3,[2,3,9,14,5005]),(2,[2,3,9,5004]),(1,[6,7,8]),(0,[0,1,5])] Proofs.Tryz.f105
def yHy:TFn:=tl [(z2,0,[17,20,24,27,31,34,39,44,48,53,59,64])] [] [2,3,4] [(4,[2,3,6,7,30,5041]),(3,[11,16,5013]),(2,[2,3,11,5004]),(1,[8,9,10]),(0,[0,1,5])] Proofs.Tryz.f106
def yDD:TFn:=tl [(zK,0,[16,24,37,56]),(zI,0,[18,19,27,28,39,40,58,59])] [] [4,6,7,8,10,11,12] [(7,[1,4,12,13,51,54,5009]),(6,[1,4,12,13,51,52,53]),(5,[50]),(4,[10,11,42,44,5005]),(3,[1,4,10,11,42,43]),(2,[31,5010]),(1,[6,7,14,5016]),(0,[0,2,3,9])] Proofs.Tryz.f64
def yvH:TFn:=tl [(zK,0,[19,25,39])] [(0,92446900)] [3,4,5,6,8,10] [(15,[3,4,5,8,9,41,66]),(8,[11,42,43,63]),(14,[3,4,5,8,9,11,63,64,65]),(13,[62]),(12,[10,53,56,5005]),(11,[3,4,5,8,5003,53,54,55]),(10,[52]),(9,[41,44,5007]),(7,[37,5003]),(5,[34,36]),(4,[3,4,5,34,35]),(3,[14,18,5015]),(2,[3,4,5,14,5003]),(1,[12,13]),(0,[0,1,2,7])] Proofs.Tryz.f28
def yrM:TC:=yci yvH 92446900
def yft:TFn:=tl [((.agg [.i .i64,.i .i64,.i .i64,.i .i64,.i .i64,.i .i64,.i .i64,.i .i64,.i .i64,.i .i64,.i .i64,.i .i64,.i .i64,.i .i64,.i .i64,.i .i64,.i .i64,.i .i64,.i .i64,.i .i64]),0,[34,39,56,71,75,80,86,91,99,108,116,125,131,138,145,156,161,163,181,185,188,192,213,217,220,224,240,245]),(zE,0,[44,49,59]),((.agg [.b,.b,.b]),0,[140,100146]),(zK,0,[149,151,169,170,177,178,209,210,234,235])] [(0,89186100),(2,89186101),(4,89186102)] [3,4,6,8,10,12,14,17] [(37,[0,4,14,15,16,229,260]),(33,[230,231,259]),(36,[0,4,14,15,16,259]),(35,[17,18,249,5009]),(34,[229,232,5016]),(32,[228]),(30,[206,5021]),(29,[0,4,206]),(28,[10,5003,196,5009]),(27,[175,5020]),(26,[166,5008]),(25,[0,4,166]),(24,[6,8,9,119,147,5018]),(20,[120,121]),(23,[141,5005]),(22,[0,4,6,8,9,141]),(21,[119,122,5018]),(19,[118]),(17,[7,66,117]),(9,[67,68]),(16,[111,5005]),(15,[0,4,6,7,111]),(14,[72,87,5023]),(13,[83,5003]),(12,[0,4,6,7,83]),(11,[72,5010]),(10,[66,69,70,71]),(8,[65]),(6,[63,64]),(5,[0,4,63]),(4,[3,5,30,5032]),(3,[21,23,5006]),(2,[0,21,22]),(1,[19,20]),(0,[2])] Proofs.Tryz.f5
def yrN:TC:=yci yft 89186100
def yrO:TC:=yci yft 89186101
def yrP:TC:=yci yft 89186102
def tab:List (Nat×AFn):=[(ykg,yDl.fn),(yfr,ylw.fn),(yie,yvB.fn),(ykh,yok.fn),(ypL,yHq.fn),(yki,yDm.fn),(yf9,ynu.fn),(yga,ynv.fn),(ydv,ysV.fn),(yeX,yol.fn),(ydk,yv1.fn),(yiq,yH6.fn),(ydS,yxP.fn),(yc6,yuq.fn),(yiN,ysW.fn),(ykj,yDn.fn),(yeM,ysX.fn),(ycz,yom.fn),(yeb,yA5.fn),(ygw,yvC.fn),(ydD,yyU.fn),(yec,yjx.fn),(yc0,yyV.fn),(yjf,yHr.fn),(yeY,yxQ.fn),(yd4,yDo.fn),(ybb,ylx.fn),(yed,yA6.fn),(yeN,ysY.fn),(ydL,yp1.fn),(yee,yrs.fn),(ydw,yon.fn),(yiO,ysZ.fn),(yeZ,yDp.fn),(ye0,yDq.fn),(yfs,yA7.fn),(ypM,yHs.fn),(yef,yru.fn),(yls,yur.fn),(ypN,yHt.fn),(ye1,yDr.fn),(yd5,yDs.fn),(yif,yDt.fn),(yfZ,yqD.fn),(yvA,yvD.fn),(ykk,yDu.fn),(yeO,ys0.fn),(ydx,yGi.fn),(ygW,ys1.fn),(yhH,yly.fn),(ymh,yEU.fn),(yce,yp2.fn),(ybA,ynL.fn),(yiP,ys2.fn),(yeg,yrA.fn),(ye2,yDv.fn),(ye3,ye6.fn),(ydE,yqE.fn),(ykl,ykw.fn),(ycO,ynw.fn),(ybU,yoo.fn),(ycm,ynM.fn),(yh2,yyW.fn),(ykm,yvE.fn),(yca,ywI.fn),(yz7,yLD.fn),(yGh,yMq.fn),(ye4,ycA.fn),(ygX,yg1.fn),(ybp,yus.fn),(yf0,yyX.fn),(yc7,yut.fn),(ygY,yop.fn),(ygZ,yA8.fn),(ycc,yml.fn),(yoi,yjy.fn),(yiQ,yA9.fn),(ylt,yIL.fn),(yoj,yIM.fn),(ymi,yxR.fn),(ymj,yxS.fn),(ykn,yDw.fn),(ylu,yuu.fn),(yg0,yxT.fn),(ygx,yHu.fn),(yhI,yz8.fn),(ygy,yDx.fn),(ygd,yEV.fn),(ygz,yDy.fn),(yjv,yEW.fn),(ydF,yEX.fn),(yko,yDz.fn),(ykp,yvF.fn),(yhJ,yEY.fn),(ymk,yEZ.fn),(ykq,yDA.fn),(ykr,yDB.fn),(yiR,yBa.fn),(ypO,yHv.fn),(yjw,yE0.fn),(yks,yDC.fn),(ykt,yvG.fn),(ylv,yHw.fn),(ypP,yHx.fn),(ypQ,yHy.fn),(yku,yDD.fn),(ykv,yvH.fn),(yhK,yft.fn)]
def quiL:List Nat:=[ykg,yfr,yie,ykh,ypL,yki,yf9,yga,ydv,yeX,ydk,ydS,yc6,yiN,ykj,yeM,yeb,ygw,ydD,yec,yc0,yjf,yeY,yd4,ybb,yed,yeN,ydL,yee,ydw,yiO,yeZ,ye0,yfs,yhF,yhG,ypM,yef,yls,ypN,ye1,yd5,yif,ykk,yeO,ydx,ygW,ymh,yiP,yeg,ye2,ydE,ycO,yh2,ykm,yz7,yGh,yf0,yc7,ygY,ygZ,ycc,yiQ,ylt,yoj,ymi,ymj,ykn,yg0,ygx,yhI,ygy,ygd,ygz,yjv,ydF,yko,ykp,yhJ,ymk,ykq,ykr,yiR,ypO,yjw,yks,ykt,ylv,ypP,ypQ,yku,ykv,yhK,(yce+5000000),(ybA+5000000),(ycz+5000000),(ybU+5000000),(ycm+5000000),(yiq+6000000)]
def cloL:yeC:=[(ydx,1,8)]
def gloL:List (Nat×PV):=[]
def E (ef:Es):Env:=(yns yhF yhG tab quiL cloL gloL ef)
def E0C:Env:=ynr yhF yhG tab quiL cloL gloL
abbrev yrQ:Srts:=ykf ybp yc7
def yGj:List Nat:=[ybp,yca]
abbrev EG (e:Es):Prop:=EffG E yGj e
theorem ybm:EG []:=⟨fun _ _ _ _ h=>(by cases h),fun _ _ _ _=>rfl⟩
def ef0:Es:=[(ybp,yxN yrQ.s yrQ.srt),(yca,yES yca 4 32)]
theorem okU {e:Es} (he:EG e) {P:EP} {S:SE} {d n:Nat} {t:TFn} {s:Sg} {w:s.W} (hq:EqW S d t s w) (hS:SEOk P S) (hR:ynq P S.E (yqA S d) t.body) (hl:LpOk P S.E S.lp [] t.body) (hE:S.E=E e:=by rfl) (hs:ysR yhF yhG cloL n=false:=by kernel_rfl) (hm:memN yGj n=false:=by kernel_rfl) (hf:S.E.fns n=some t.fn:=by kernel_rfl) (hu:S.E.qui n=true:=by kernel_rfl) (hn:S.E.nl n=false:=by kernel_rfl):∀ az K,s.pw w az K→∃ r,K r∧AnsP P n az r:=okW hq hS hR hl (fun _=>by rw [hE];exact ycp hs _) (by rw [hE];exact he.num _ hm) hf hu hn
theorem ydT:EG ef0:=⟨yHm (by kernel_rfl),fun n h xs H=>yxO (l:=ef0) h⟩
abbrev ycI:Type:=Ls→(Ls→Prop)→Prop
def ydy (p0:Ls) (K:Ls→Prop):Prop:=yGd 1 8 p0 K
def yrR (w:Ls→(Ls→Prop)→Prop) (az:Ls) (K:PV→Prop):Prop:=yxJ w az K
def yrS (az:Ls) (K:PV→Prop):Prop:=yxK 1 8 az K
theorem yrT (e:Es) (_:EG e):OkF (E e) yrS ydx:=yHn (by kernel_rfl) (by kernel_rfl) (by kernel_rfl)
abbrev yz9:Type:=Int→Int→Int→(Int→Int→Prop)→Prop
abbrev yAa:Type:=Int→Int→Int→(Int→Int→Prop)→Prop
theorem yE1 (e:Es) (_:EG e):OkF (E e) yrf yhF:=yHo
theorem yE2 (e:Es) (_:EG e):OkF (E e) yrh yhG:=yHp (by kernel_rfl)
set_option maxRecDepth 100000
abbrev yaJ:Type:=Int→(Int→Prop)→Prop
def ykP (p0:Int) (K:Int→Prop):Prop :=
 (cbr (decide (p0<(0:Int)))
 (K (IntKind.u64.wrap ((0:Int)-(IntKind.u64.wrap p0))))
 (K (IntKind.u64.wrap p0)))
def yeh:yaJ:=ykP
def pt0:VPt:=vI IntKind.i64
def pt1:LPt:=lC pt0 lN
def yqF:Sg:=⟨pt1,Int→Prop,fun K=>(fun r0=>K (.int .u64 r0))⟩
def yyY (e:Es):SE:=sE (E e) [] lp0
theorem yyZ (e:Es):EqW (yyY e) 6 yA5 yqF ykP:=fun _ _=>by kernel_rfl
theorem yh3 (e:Es) (he:EG e):OkF (E e) (yqF.pw yeh) yeb:=okU he (yyZ e) (yaz (Sub.uni _) trivial trivial he.ok) ynq.flat (yaq (by kernel_rfl))
abbrev yay:Type:=Int→Int→(Int→Prop)→Prop
def yeu (x0:Int→Int→Bool→Prop):Nat→Int→Int→Prop
 | 0,_,_=>False
 | n+1,i0,i1 =>
 (cbr (decide (i1>(0:Int)))
 (asr (!(decide (i1=(0:Int))))
 (yeu x0 n i1 (Int.tmod i0 i1)))
 (x0 i0 i1 false))
def ymn (p0 p1:Int) (K:Int→Prop):Prop :=
 (∃ n:Nat,yeu
 (fun a _ _=>(K a))
 n p0 p1)
def ycB:yay:=ymn
def pt2:VPt:=vI IntKind.u64
def pt3:LPt:=lC pt2 lN
def pt4:LPt:=lC pt2 pt3
def ys3:Sg:=⟨pt4,Int→Prop,fun K=>(fun r0=>K (.int .u64 r0))⟩
def yv2 (Q:Qx):Int→Int→Bool→Prop:=(fun i0 i1 b2=>Q (.exit 0) [(0,.v (.int .u64 i0)),(1,.v (.int .u64 i1)),(6,.v (.bool b2))] [])
def pt5:Pat Sta:=pS hN (fV 0 pt2 (fV 1 pt2 fN)) fN
def yoq (Q:Qx):List St:=[⟨pt5,yeu (yv2 Q)⟩]
def ys4:LP:=lpS [(32725300,yoq)]
def ymo (e:Es):SE:=sE (E e) [] (ys4)
theorem yqG (e:Es) (he:EG e):SEOk (Uni (E e)) (ymo e):=yaz (Sub.uni _) trivial trivial he.ok
theorem yuv (e:Es):yct (ymo e) 5 a yrq false (yoq):=fun _=>⟨fun _=>by kernel_rfl,fun _ _=>by kernel_rfl,trivial⟩
theorem yuw (e:Es) (he:EG e):LpT (Uni (E e)) (ys4) [] 32725300 (.loop 32725300 yrq):=fun _ _ _=>yof.st (Sub.uni _) (ya3 (yqG e he) 5) (YOk.no _ _) (yaq (by kernel_rfl)) (yuv e _)
theorem yBb (e:Es):EqW (ymo e) 6 yvC ys3 ymn:=fun _ _=>by kernel_rfl
theorem ymp (e:Es) (he:EG e):OkF (E e) (ys3.pw ycB) ygw:=okU he (yBb e) (yqG e he) ynq.flat (ybq (l:=[(32725300,.loop 32725300 yrq)]) ⟨yuw e he,trivial⟩ (by kernel_rfl))
def yjz (a0:yaJ) (a1:yay) (p0 p1:Int) (K:Int→Prop):Prop :=
 (cbr (decide (p1<(1:Int)))
 (K (8:Int))
 (a0 p0 (fun a =>
 (cbr (decide ((if (IntKind.u64.wrap p1)>a then (IntKind.u64.wrap p1) else a)>(1000000000000000000:Int)))
 (K (8:Int))
 (a0 p0 (fun b =>
 (a1 b (IntKind.u64.wrap p1) (fun c =>
 (cbr (decide (c>(1:Int)))
 (K (8:Int))
 (K (0:Int)))))))))))
def ybu:yay:=yjz yeh ycB
def pt6:LPt:=lC pt0 pt1
def pt7:VPt:=vA pt6
def pt8:LPt:=lC pt7 lN
def yor:Sg:=⟨pt8,Int→Prop,fun K=>(fun r0=>K (.int .i64 r0))⟩
def yxU (e:Es) (a0:yaJ) (a1:yay):SE:=sE (E e) [(yeb,yqF.pw a0),(ygw,ys3.pw a1)] lp0
theorem yxV (e:Es) (a0 a1):EqW (yxU e a0 a1) 6 yyU yor (yjz a0 a1):=fun _ _=>by kernel_rfl
theorem ye7 (e:Es) (he:EG e):OkF (E e) (yor.pw ybu) ydD:=okU he (yxV e _ _) (yaz (Sub.uni _) ⟨(yh3 e he),(ymp e he),trivial⟩ trivial he.ok) ynq.flat (yaq (by kernel_rfl))
abbrev yaF:Type:=Ls→(Int→Prop)→Prop
def ybH (x0:Int→Prop) (x1:Int→Ls→Int→Int→Bool→Prop):Nat→Int→Ls→Int→Int→Prop
 | 0,_,_,_,_=>False
 | n+1,i0,l1,i2,i3 =>
 (cbr (decide (i3<i2))
 (asr (decide ((0:Int)≤i3))
 (asr (decide (i3<(((List.length l1):Nat):Int)))
 (asr (conf zI (List.getD l1 (i3.toNat) .nils))
 (cbr ((yaa (List.getD l1 (i3.toNat) .nils)) != i0)
 (x0 (yaa (List.getD l1 (i3.toNat) .nils)))
 (ybH x0 x1 n i0 l1 i2 (IntKind.i64.wrap (i3+(1:Int))))))))
 (x1 i0 l1 i2 i3 false))
def yfM (p0:Ls) (K:Int→Prop):Prop :=
 (∃ n:Nat,ybH
 (fun a=>(K a))
 (fun b _ _ _ _=>(K b))
 n (0:Int) p0 (((List.length p0):Nat):Int) (0:Int))
def yei:yaF:=yfM
def pt9:LPt:=lC vD lN
def ycV:Sg:=⟨pt9,Int→Prop,fun K=>(fun r0=>K (.int .i64 r0))⟩
def ymq (Q:Qx):Int→Prop:=(fun i0=>Q .ret [(2,.v (.int .i64 i0))] [])
def ymr (Q:Qx):Int→Ls→Int→Int→Bool→Prop:=(fun i0 l1 i2 i3 b4=>Q (.exit 0) [(3,.v (.int .i64 i0)),(6,.v (.data l1)),(7,.v (.int .i64 i2)),(8,.v (.int .i64 i3)),(9,.v (.bool b4))] [])
def pt10:Pat Frm:=fV 6 vD (fV 7 pt0 (fV 8 pt0 fN))
def yhp (Q:Qx):List St:=[⟨(pS hN (fV 3 pt0 pt10) fN),ybH (ymq Q) (ymr Q)⟩]
def yiA:LP:=lpS [(38508400,yhp)]
def yfN (e:Es):SE:=sE (E e) [] (yiA)
theorem yig (e:Es) (he:EG e):SEOk (Uni (E e)) (yfN e):=yaz (Sub.uni _) trivial trivial he.ok
theorem ylz (e:Es):yct (yfN e) 5 a yrr false (yhp):=fun _=>⟨fun _=>by kernel_rfl,fun _ _=>by kernel_rfl,trivial⟩
theorem ylA (e:Es) (he:EG e):LpT (Uni (E e)) (yiA) [] 38508400 (.loop 38508400 yrr):=fun _ _ _=>yof.st (Sub.uni _) (ya3 (yig e he) 5) (YOk.no _ _) (yaq (by kernel_rfl)) (ylz e _)
theorem yp3 (e:Es):EqW (yfN e) 6 yjx ycV yfM:=fun _ _=>by kernel_rfl
theorem yp4 (e:Es) (he:EG e):OkF (E e) (ycV.pw yei) yec:=okU he (yp3 e) (yig e he) ynq.flat (ybq (l:=[(38508400,.loop 38508400 yrr)]) ⟨ylA e he,trivial⟩ (by kernel_rfl))
abbrev yaI:Type:=Int→Int→Int→Int→(Int→Prop)→Prop
def yjA (a0:yay) (a1:yaF) (p0 p1 p2 p3:Int) (K:Int→Prop):Prop :=
 (a0 p0 p1 (fun a =>
 (a0 p2 p3 (fun b =>
 (a1 ([(.int .i64 a),(.int .i64 b)]:Ls) (fun c =>
 (K c)))))))
def yc1:yaI:=yjA ybu yei
def pt11:LPt:=lC pt7 pt8
def yjB:Sg:=⟨pt11,Int→Prop,fun K=>(fun r0=>K (.int .i64 r0))⟩
def yxW (e:Es) (a0:yay) (a1:yaF):SE:=sE (E e) [(ydD,yor.pw a0),(yec,ycV.pw a1)] lp0
theorem yxX (e:Es) (a0 a1):EqW (yxW e a0 a1) 6 yyV yjB (yjA a0 a1):=fun _ _=>by kernel_rfl
theorem ye8 (e:Es) (he:EG e):OkF (E e) (yjB.pw yc1) yc0:=okU he (yxX e _ _) (yaz (Sub.uni _) ⟨(ye7 e he),(yp4 e he),trivial⟩ trivial he.ok) ynq.flat (yaq (by kernel_rfl))
abbrev ybV:Type:=Int→Int→(Int→Int→Prop)→Prop
def yrU (p0 p1:Int) (K:Int→Int→Prop):Prop :=
 (K (IntKind.u64.wrap ((IntKind.u64.wrap ((IntKind.u64.wrap ((Int.fdiv p0 4294967296)*(Int.fdiv p1 4294967296)))+(Int.fdiv (IntKind.u64.wrap ((IntKind.u64.wrap ((Int.fdiv p0 4294967296)*(IntKind.u64.wrap (BitVec.ofInt IntKind.u64.bits p1&&&BitVec.ofInt IntKind.u64.bits (4294967295:Int)).toNat)))+(Int.fdiv (IntKind.u64.wrap ((IntKind.u64.wrap (BitVec.ofInt IntKind.u64.bits p0&&&BitVec.ofInt IntKind.u64.bits (4294967295:Int)).toNat)*(IntKind.u64.wrap (BitVec.ofInt IntKind.u64.bits p1&&&BitVec.ofInt IntKind.u64.bits (4294967295:Int)).toNat))) 4294967296))) 4294967296)))+(Int.fdiv (IntKind.u64.wrap ((IntKind.u64.wrap (BitVec.ofInt IntKind.u64.bits (IntKind.u64.wrap ((IntKind.u64.wrap ((Int.fdiv p0 4294967296)*(IntKind.u64.wrap (BitVec.ofInt IntKind.u64.bits p1&&&BitVec.ofInt IntKind.u64.bits (4294967295:Int)).toNat)))+(Int.fdiv (IntKind.u64.wrap ((IntKind.u64.wrap (BitVec.ofInt IntKind.u64.bits p0&&&BitVec.ofInt IntKind.u64.bits (4294967295:Int)).toNat)*(IntKind.u64.wrap (BitVec.ofInt IntKind.u64.bits p1&&&BitVec.ofInt IntKind.u64.bits (4294967295:Int)).toNat))) 4294967296)))&&&BitVec.ofInt IntKind.u64.bits (4294967295:Int)).toNat)+(IntKind.u64.wrap ((IntKind.u64.wrap (BitVec.ofInt IntKind.u64.bits p0&&&BitVec.ofInt IntKind.u64.bits (4294967295:Int)).toNat)*(Int.fdiv p1 4294967296))))) 4294967296))) (IntKind.u64.wrap (p0*p1)))
def yfu:ybV:=yrU
def yE3:Sg:=⟨pt4,Int→Int→Prop,fun K=>(fun r0 r1=>K (.tup [(.int .u64 r0),(.int .u64 r1)]))⟩
def yE4 (e:Es):SE:=sE (E e) [] lp0
theorem yE5 (e:Es):EqW (yE4 e) 6 yHr yE3 yrU:=fun _ _=>by kernel_rfl
theorem yrV (e:Es) (he:EG e):OkF (E e) (yE3.pw yfu) yjf:=okU he (yE5 e) (yaz (Sub.uni _) trivial trivial he.ok) ynq.flat (yaq (by kernel_rfl))
abbrev ye9:Type:=Bool→Int→Int→(Int→Int→Int→Prop)→Prop
def yir (p0:Bool) (p1 p2:Int) (K:Int→Int→Int→Prop):Prop :=
 (cbr (decide ((if p2>p1 then p2 else p1)>(1000000000000000000:Int)))
 (K (0:Int) (0:Int) (16:Int))
 (cbr p0
 (K (IntKind.i64.wrap ((0:Int)-(IntKind.i64.wrap p1))) (IntKind.i64.wrap p2) (0:Int))
 (K (IntKind.i64.wrap p1) (IntKind.i64.wrap p2) (0:Int))))
def ycC:ye9:=yir
def yv3:Sg:=⟨(lC vB pt4),Int→Int→Int→Prop,fun K=>(fun r0 r1 r2=>K (.tup [(.agg [(.int .i64 r0),(.int .i64 r1)]),(.int .i64 r2)]))⟩
def yv4 (e:Es):SE:=sE (E e) [] lp0
theorem yv5 (e:Es):EqW (yv4 e) 6 yxQ yv3 yir:=fun _ _=>by kernel_rfl
theorem ynx (e:Es) (he:EG e):OkF (E e) (yv3.pw ycC) yeY:=okU he (yv5 e) (yaz (Sub.uni _) trivial trivial he.ok) ynq.flat (yaq (by kernel_rfl))
abbrev yal:Type:=Int→Int→Int→Int→(Int→Int→Int→Prop)→Prop
def yms (a0:yaI) (a1:yaJ) (a2:yay) (a3:ybV) (a4:ye9) (p0 p1 p2 p3:Int) (K:Int→Int→Int→Prop):Prop :=
 (a0 p0 p1 p2 p3 (fun d =>
 (cbr (d !=(0:Int))
 (K (0:Int) (0:Int) d)
 (a1 p0 (fun e =>
 (a1 p2 (fun f =>
 (a2 e (IntKind.u64.wrap p3) (fun a =>
 (a2 f (IntKind.u64.wrap p1) (fun b =>
 (asr (!(decide (a=(0:Int))))
 (asr (!(decide (b=(0:Int))))
 (a3 (IntKind.u64.wrap (Int.tdiv e a)) (IntKind.u64.wrap (Int.tdiv f b)) (fun h c =>
 (asr (!(decide (b=(0:Int))))
 (asr (!(decide (a=(0:Int))))
 (a3 (IntKind.u64.wrap (Int.tdiv (IntKind.u64.wrap p1) b)) (IntKind.u64.wrap (Int.tdiv (IntKind.u64.wrap p3) a)) (fun i g =>
 (cbr (decide ((IntKind.u64.wrap (h+i))>(0:Int)))
 (K (0:Int) (0:Int) (16:Int))
 (cbr (decide (c>(0:Int)))
 (a4 ((decide (p0<(0:Int))) !=(decide (p2<(0:Int)))) c g (fun j k l =>
 (K j k l)))
 (a4 false c g (fun m n o =>
 (K m n o))))))))))))))))))))))))
def ybh:yal:=yms yc1 yeh ycB yfu ycC
def yej:Sg:=⟨pt11,Int→Int→Int→Prop,fun K=>(fun r0 r1 r2=>K (.tup [(.agg [(.int .i64 r0),(.int .i64 r1)]),(.int .i64 r2)]))⟩
def yBc (e:Es) (a0:yaI) (a1:yaJ) (a2:yay) (a3:ybV) (a4:ye9):SE:=sE (E e) [(yc0,yjB.pw a0),(yeb,yqF.pw a1),(ygw,ys3.pw a2),(yjf,yE3.pw a3),(yeY,yv3.pw a4)] lp0
theorem yBd (e:Es) (a0 a1 a2 a3 a4):EqW (yBc e a0 a1 a2 a3 a4) 6 yDo yej (yms a0 a1 a2 a3 a4):=fun _ _=>by kernel_rfl
theorem yfv (e:Es) (he:EG e):OkF (E e) (yej.pw ybh) yd4:=okU he (yBd e _ _ _ _ _) (yaz (Sub.uni _) ⟨(ye8 e he),(yh3 e he),(ymp e he),(yrV e he),(ynx e he),trivial⟩ trivial he.ok) ynq.flat (yaq (by kernel_rfl))
abbrev ycJ:Type:=Int→(Bool→Prop)→Prop
def yge (p0:Int) (K:Bool→Prop):Prop :=
 (K (p0 != p0))
def yg2:ycJ:=yge
def yrW:Sg:=⟨pt1,Bool→Prop,fun K=>(fun r0=>K (.bool r0))⟩
def yrX (e:Es):SE:=sE (E e) [] lp0
theorem yrY (e:Es):EqW (yrX e) 6 ysY yrW yge:=fun _ _=>by kernel_rfl
theorem yrZ (e:Es) (he:EG e):OkF (E e) (yrW.pw yg2) yeN:=okU he (yrY e) (yaz (Sub.uni _) trivial trivial he.ok) ynq.flat (yaq (by kernel_rfl))
def yfa (a0:ycJ) (p0 p1:Int) (K:Int→Prop):Prop :=
 (a0 p0 (fun b =>
 (a0 p1 (fun a =>
 (cbr b
 (cbr a
 (K (0:Int))
 (K (-1:Int)))
 (cbr a
 (K (1:Int))
 (cbr (decide (p0<p1))
 (K (-1:Int))
 (cbr (decide (p0>p1))
 (K (1:Int))
 (K (0:Int))))))))))
def ydM:yay:=yfa yg2
def yih:Sg:=⟨pt6,Int→Prop,fun K=>(fun r0=>K (.int .i64 r0))⟩
def yos (e:Es) (a0:ycJ):SE:=sE (E e) [(yeN,yrW.pw a0)] lp0
theorem yot (e:Es) (a0):EqW (yos e a0) 6 yp1 yih (yfa a0):=fun _ _=>by kernel_rfl
theorem you (e:Es) (he:EG e):OkF (E e) (yih.pw ydM) ydL:=okU he (yot e _) (yaz (Sub.uni _) ⟨(yrZ e he),trivial⟩ trivial he.ok) ynq.flat (yaq (by kernel_rfl))
def yfO (p0:Int) (K:Bool→Prop):Prop :=
 (K (p0 != p0))
def ygf:ycJ:=yfO
def yp5:Sg:=⟨pt3,Bool→Prop,fun K=>(fun r0=>K (.bool r0))⟩
def yp6 (e:Es):SE:=sE (E e) [] lp0
theorem yp7 (e:Es):EqW (yp6 e) 6 yrs yp5 yfO:=fun _ _=>by kernel_rfl
theorem yp8 (e:Es) (he:EG e):OkF (E e) (yp5.pw ygf) yee:=okU he (yp7 e) (yaz (Sub.uni _) trivial trivial he.ok) ynq.flat (yaq (by kernel_rfl))
def yeD (a0:ycJ) (p0 p1:Int) (K:Int→Prop):Prop :=
 (a0 p0 (fun b =>
 (a0 p1 (fun a =>
 (cbr b
 (cbr a
 (K (0:Int))
 (K (-1:Int)))
 (cbr a
 (K (1:Int))
 (cbr (decide (p0<p1))
 (K (-1:Int))
 (cbr (decide (p0>p1))
 (K (1:Int))
 (K (0:Int))))))))))
def ydz:yay:=yeD ygf
def ynN:Sg:=⟨pt4,Int→Prop,fun K=>(fun r0=>K (.int .i64 r0))⟩
def ynO (e:Es) (a0:ycJ):SE:=sE (E e) [(yee,yp5.pw a0)] lp0
theorem ynP (e:Es) (a0):EqW (ynO e a0) 6 yon ynN (yeD a0):=fun _ _=>by kernel_rfl
theorem ynQ (e:Es) (he:EG e):OkF (E e) (ynN.pw ydz) ydw:=okU he (ynP e _) (yaz (Sub.uni _) ⟨(yp8 e he),trivial⟩ trivial he.ok) ynq.flat (yaq (by kernel_rfl))
def yc8 (x0:Int→Prop) (x1:Int→Ls→Int→Int→Bool→Prop):Nat→Int→Ls→Int→Int→Prop
 | 0,_,_,_,_=>False
 | n+1,i0,l1,i2,i3 =>
 (cbr (decide (i3<i2))
 (asr (decide ((0:Int)≤i3))
 (asr (decide (i3<(((List.length l1):Nat):Int)))
 (asr (conf zI (List.getD l1 (i3.toNat) .nils))
 (cbr ((yaa (List.getD l1 (i3.toNat) .nils)) != i0)
 (x0 (yaa (List.getD l1 (i3.toNat) .nils)))
 (yc8 x0 x1 n i0 l1 i2 (IntKind.i64.wrap (i3+(1:Int))))))))
 (x1 i0 l1 i2 i3 false))
def ykQ (p0:Ls) (K:Int→Prop):Prop :=
 (∃ n:Nat,yc8
 (fun a=>(K a))
 (fun b _ _ _ _=>(K b))
 n (0:Int) p0 (((List.length p0):Nat):Int) (0:Int))
def yiS:yaF:=ykQ
def yux (Q:Qx):Int→Prop:=(fun i0=>Q .ret [(2,.v (.int .i64 i0))] [])
def yuy (Q:Qx):Int→Ls→Int→Int→Bool→Prop:=(fun i0 l1 i2 i3 b4=>Q (.exit 0) [(3,.v (.int .i64 i0)),(6,.v (.data l1)),(7,.v (.int .i64 i2)),(8,.v (.int .i64 i3)),(9,.v (.bool b4))] [])
def yny (Q:Qx):List St:=[⟨(pS hN (fV 3 pt0 pt10) fN),yc8 (yux Q) (yuy Q)⟩]
def yqH:LP:=lpS [(53260600,yny)]
def ykR (e:Es):SE:=sE (E e) [] (yqH)
theorem yov (e:Es) (he:EG e):SEOk (Uni (E e)) (ykR e):=yaz (Sub.uni _) trivial trivial he.ok
theorem ys5 (e:Es):yct (ykR e) 5 a yrt false (yny):=fun _=>⟨fun _=>by kernel_rfl,fun _ _=>by kernel_rfl,trivial⟩
theorem ys6 (e:Es) (he:EG e):LpT (Uni (E e)) (yqH) [] 53260600 (.loop 53260600 yrt):=fun _ _ _=>yof.st (Sub.uni _) (ya3 (yov e he) 5) (YOk.no _ _) (yaq (by kernel_rfl)) (ys5 e _)
theorem yy0 (e:Es):EqW (ykR e) 6 ysZ ycV ykQ:=fun _ _=>by kernel_rfl
theorem yy1 (e:Es) (he:EG e):OkF (E e) (ycV.pw yiS) yiO:=okU he (yy0 e) (yov e he) ynq.flat (ybq (l:=[(53260600,.loop 53260600 yrt)]) ⟨ys6 e he,trivial⟩ (by kernel_rfl))
abbrev yaV:Type:=Int→Int→Int→Int→(Int→Int→Prop)→Prop
def ymt (a0:yaI) (a1:yay) (a2:yaJ) (a3:ybV) (a4:yay) (a5:yaF) (p0 p1 p2 p3:Int) (K:Int→Int→Prop):Prop :=
 (a0 p0 p1 p2 p3 (fun a =>
 (cbr (a !=(0:Int))
 (K (0:Int) a)
 (cbr ((decide (p0<(0:Int))) !=(decide (p2<(0:Int))))
 (a1 p0 p2 (fun c =>
 (K c (0:Int))))
 (a2 p0 (fun d =>
 (a3 d (IntKind.u64.wrap p3) (fun e f =>
 (a2 p2 (fun g =>
 (a3 g (IntKind.u64.wrap p1) (fun h i =>
 (a4 e h (fun j =>
 (a4 f i (fun k =>
 (a5 ([(.int .i64 j),(.int .i64 k)]:Ls) (fun b =>
 (cbr (decide (p0<(0:Int)))
 (K (IntKind.i64.wrap ((0:Int)-b)) (0:Int))
 (K b (0:Int)))))))))))))))))))))
def ybW:yaV:=ymt yc1 ydM yeh yfu ydz yiS
def yBe:Sg:=⟨pt11,Int→Int→Prop,fun K=>(fun r0 r1=>K (.tup [(.int .i64 r0),(.int .i64 r1)]))⟩
def yBf (e:Es) (a0:yaI) (a1:yay) (a2:yaJ) (a3:ybV) (a4:yay) (a5:yaF):SE:=sE (E e) [(yc0,yjB.pw a0),(ydL,yih.pw a1),(yeb,yqF.pw a2),(yjf,yE3.pw a3),(ydw,ynN.pw a4),(yiO,ycV.pw a5)] lp0
theorem yBg (e:Es) (a0 a1 a2 a3 a4 a5):EqW (yBf e a0 a1 a2 a3 a4 a5) 6 yDp yBe (ymt a0 a1 a2 a3 a4 a5):=fun _ _=>by kernel_rfl
theorem yg3 (e:Es) (he:EG e):OkF (E e) (yBe.pw ybW) yeZ:=okU he (yBg e _ _ _ _ _ _) (yaz (Sub.uni _) ⟨(ye8 e he),(you e he),(yh3 e he),(yrV e he),(ynQ e he),(yy1 e he),trivial⟩ trivial he.ok) ynq.flat (yaq (by kernel_rfl))
def yr0 (p0:Int) (K:Int→Prop):Prop :=
 (cbr (decide (p0≥(4294967296:Int)))
 (cbr (decide ((Int.fdiv p0 4294967296)≥(65536:Int)))
 (cbr (decide ((Int.fdiv (Int.fdiv p0 4294967296) 65536)≥(256:Int)))
 (asr (decide ((0:Int)≤(IntKind.u8.wrap (Int.fdiv (Int.fdiv (Int.fdiv p0 4294967296) 65536) 256))))
 (asr (decide ((IntKind.u8.wrap (Int.fdiv (Int.fdiv (Int.fdiv p0 4294967296) 65536) 256))<(256:Int)))
 (K (IntKind.i64.wrap ((56:Int)+(IntKind.i64.wrap (yaa (List.getD ygU ((IntKind.u8.wrap (Int.fdiv (Int.fdiv (Int.fdiv p0 4294967296) 65536) 256)).toNat) .nils))))))))
 (asr (decide ((0:Int)≤(IntKind.u8.wrap (Int.fdiv (Int.fdiv p0 4294967296) 65536))))
 (asr (decide ((IntKind.u8.wrap (Int.fdiv (Int.fdiv p0 4294967296) 65536))<(256:Int)))
 (K (IntKind.i64.wrap ((48:Int)+(IntKind.i64.wrap (yaa (List.getD ygU ((IntKind.u8.wrap (Int.fdiv (Int.fdiv p0 4294967296) 65536)).toNat) .nils)))))))))
 (cbr (decide ((Int.fdiv p0 4294967296)≥(256:Int)))
 (asr (decide ((0:Int)≤(IntKind.u8.wrap (Int.fdiv (Int.fdiv p0 4294967296) 256))))
 (asr (decide ((IntKind.u8.wrap (Int.fdiv (Int.fdiv p0 4294967296) 256))<(256:Int)))
 (K (IntKind.i64.wrap ((40:Int)+(IntKind.i64.wrap (yaa (List.getD ygU ((IntKind.u8.wrap (Int.fdiv (Int.fdiv p0 4294967296) 256)).toNat) .nils))))))))
 (asr (decide ((0:Int)≤(IntKind.u8.wrap (Int.fdiv p0 4294967296))))
 (asr (decide ((IntKind.u8.wrap (Int.fdiv p0 4294967296))<(256:Int)))
 (K (IntKind.i64.wrap ((32:Int)+(IntKind.i64.wrap (yaa (List.getD ygU ((IntKind.u8.wrap (Int.fdiv p0 4294967296)).toNat) .nils))))))))))
 (cbr (decide (p0≥(65536:Int)))
 (cbr (decide ((Int.fdiv p0 65536)≥(256:Int)))
 (asr (decide ((0:Int)≤(IntKind.u8.wrap (Int.fdiv (Int.fdiv p0 65536) 256))))
 (asr (decide ((IntKind.u8.wrap (Int.fdiv (Int.fdiv p0 65536) 256))<(256:Int)))
 (K (IntKind.i64.wrap ((24:Int)+(IntKind.i64.wrap (yaa (List.getD ygU ((IntKind.u8.wrap (Int.fdiv (Int.fdiv p0 65536) 256)).toNat) .nils))))))))
 (asr (decide ((0:Int)≤(IntKind.u8.wrap (Int.fdiv p0 65536))))
 (asr (decide ((IntKind.u8.wrap (Int.fdiv p0 65536))<(256:Int)))
 (K (IntKind.i64.wrap ((16:Int)+(IntKind.i64.wrap (yaa (List.getD ygU ((IntKind.u8.wrap (Int.fdiv p0 65536)).toNat) .nils)))))))))
 (cbr (decide (p0≥(256:Int)))
 (asr (decide ((0:Int)≤(IntKind.u8.wrap (Int.fdiv p0 256))))
 (asr (decide ((IntKind.u8.wrap (Int.fdiv p0 256))<(256:Int)))
 (K (IntKind.i64.wrap ((8:Int)+(IntKind.i64.wrap (yaa (List.getD ygU ((IntKind.u8.wrap (Int.fdiv p0 256)).toNat) .nils))))))))
 (asr (decide ((0:Int)≤(IntKind.u8.wrap p0)))
 (asr (decide ((IntKind.u8.wrap p0)<(256:Int)))
 (K (IntKind.i64.wrap ((0:Int)+(IntKind.i64.wrap (yaa (List.getD ygU ((IntKind.u8.wrap p0).toNat) .nils)))))))))))
def ypR:yaJ:=yr0
def yxY:Sg:=⟨pt3,Int→Prop,fun K=>(fun r0=>K (.int .i64 r0))⟩
def yE6 (e:Es):SE:=sE (E e) [] lp0
theorem yE7 (e:Es):EqW (yE6 e) 6 yHs yxY yr0:=fun _ _=>by kernel_rfl
theorem yE8 (e:Es) (he:EG e):OkF (E e) (yxY.pw ypR) ypM:=okU he (yE7 e) (yaz (Sub.uni _) trivial trivial he.ok) ynq.flat (yaq (by kernel_rfl))
def yfP (a0:yaJ) (p0:Int) (K:Int→Prop):Prop :=
 (a0 p0 (fun a =>
 (K (IntKind.i64.wrap ((64:Int)-a)))))
def ybF:yaJ:=yfP ypR
def yp9 (e:Es) (a0:yaJ):SE:=sE (E e) [(ypM,yxY.pw a0)] lp0
theorem yqa (e:Es) (a0):EqW (yp9 e a0) 6 yru yxY (yfP a0):=fun _ _=>by kernel_rfl
theorem yqb (e:Es) (he:EG e):OkF (E e) (yxY.pw ybF) yef:=okU he (yqa e _) (yaz (Sub.uni _) ⟨(yE8 e he),trivial⟩ trivial he.ok) ynq.flat (yaq (by kernel_rfl))
abbrev ya5:Type:=Int→Int→Int→(Int→Int→Prop)→Prop
mutual
def yh4 (a0:yaJ) (a:Int→Int→Int→Int→Int→Int→Int→Int→Int→Bool→Prop) (b:Int→Int→Int→Int→Int→Int→Int→Int→Int→Bool→Prop):Nat→Int→Int→Int→Int→Int→Int→Int→Int→Int→Prop
 | 0,_,_,_,_,_,_,_,_,_=>False
 | c+1,i0,i1,i2,i3,i4,i5,i6,i7,i8 =>
 (cbr (decide (i7≥(4294967296:Int)))
 (cbr (decide ((IntKind.u64.wrap (i8+i2))≥(4294967296:Int)))
 (a i0 i1 i2 i3 i4 i5 i6 (IntKind.u64.wrap (i7-(1:Int))) (IntKind.u64.wrap (i8+i2)) true)
 (yc2 a0 a b c i0 i1 i2 i3 i4 i5 i6 (IntKind.u64.wrap (i7-(1:Int))) (IntKind.u64.wrap (i8+i2)) false))
 (cbr (decide ((IntKind.u64.wrap (i7*i3))>(IntKind.u64.wrap ((IntKind.u64.wrap ((4294967296:Int)*i8))+i5))))
 (cbr (decide ((IntKind.u64.wrap (i8+i2))≥(4294967296:Int)))
 (a i0 i1 i2 i3 i4 i5 i6 (IntKind.u64.wrap (i7-(1:Int))) (IntKind.u64.wrap (i8+i2)) true)
 (yc2 a0 a b c i0 i1 i2 i3 i4 i5 i6 (IntKind.u64.wrap (i7-(1:Int))) (IntKind.u64.wrap (i8+i2)) false))
 (b i0 i1 i2 i3 i4 i5 i6 i7 i8 false)))
def yc2 (a0:yaJ) (a:Int→Int→Int→Int→Int→Int→Int→Int→Int→Bool→Prop) (b:Int→Int→Int→Int→Int→Int→Int→Int→Int→Bool→Prop):Nat→Int→Int→Int→Int→Int→Int→Int→Int→Int→Bool→Prop
 | 0,_,_,_,_,_,_,_,_,_,_=>False
 | c+1,i0,i1,i2,i3,i4,i5,i6,i7,i8,_ =>
 (cbr (decide (i7≥(4294967296:Int)))
 (cbr (decide ((IntKind.u64.wrap (i8+i2))≥(4294967296:Int)))
 (a i0 i1 i2 i3 i4 i5 i6 (IntKind.u64.wrap (i7-(1:Int))) (IntKind.u64.wrap (i8+i2)) true)
 (yc2 a0 a b c i0 i1 i2 i3 i4 i5 i6 (IntKind.u64.wrap (i7-(1:Int))) (IntKind.u64.wrap (i8+i2)) false))
 (cbr (decide ((IntKind.u64.wrap (i7*i3))>(IntKind.u64.wrap ((IntKind.u64.wrap ((4294967296:Int)*i8))+i5))))
 (cbr (decide ((IntKind.u64.wrap (i8+i2))≥(4294967296:Int)))
 (a i0 i1 i2 i3 i4 i5 i6 (IntKind.u64.wrap (i7-(1:Int))) (IntKind.u64.wrap (i8+i2)) true)
 (yc2 a0 a b c i0 i1 i2 i3 i4 i5 i6 (IntKind.u64.wrap (i7-(1:Int))) (IntKind.u64.wrap (i8+i2)) false))
 (b i0 i1 i2 i3 i4 i5 i6 i7 i8 false)))
end
mutual
def yex (a0:yaJ) (a:Int→Int→Int→Int→Int→Int→Int→Int→Int→Bool→Prop) (b:Int→Int→Int→Int→Int→Int→Int→Int→Int→Bool→Prop):Nat→Int→Int→Int→Int→Int→Int→Int→Int→Int→Prop
 | 0,_,_,_,_,_,_,_,_,_=>False
 | c+1,i0,i1,i2,i3,i4,i5,i6,i7,i8 =>
 (cbr (decide (i8≥(4294967296:Int)))
 (cbr (decide ((IntKind.u64.wrap (i6+i2))≥(4294967296:Int)))
 (a i0 i1 i2 i3 i4 i5 (IntKind.u64.wrap (i6+i2)) i7 (IntKind.u64.wrap (i8-(1:Int))) true)
 (yc3 a0 a b c i0 i1 i2 i3 i4 i5 (IntKind.u64.wrap (i6+i2)) i7 (IntKind.u64.wrap (i8-(1:Int))) false))
 (cbr (decide ((IntKind.u64.wrap (i8*i3))>(IntKind.u64.wrap ((IntKind.u64.wrap ((4294967296:Int)*i6))+i4))))
 (cbr (decide ((IntKind.u64.wrap (i6+i2))≥(4294967296:Int)))
 (a i0 i1 i2 i3 i4 i5 (IntKind.u64.wrap (i6+i2)) i7 (IntKind.u64.wrap (i8-(1:Int))) true)
 (yc3 a0 a b c i0 i1 i2 i3 i4 i5 (IntKind.u64.wrap (i6+i2)) i7 (IntKind.u64.wrap (i8-(1:Int))) false))
 (b i0 i1 i2 i3 i4 i5 i6 i7 i8 false)))
def yc3 (a0:yaJ) (a:Int→Int→Int→Int→Int→Int→Int→Int→Int→Bool→Prop) (b:Int→Int→Int→Int→Int→Int→Int→Int→Int→Bool→Prop):Nat→Int→Int→Int→Int→Int→Int→Int→Int→Int→Bool→Prop
 | 0,_,_,_,_,_,_,_,_,_,_=>False
 | c+1,i0,i1,i2,i3,i4,i5,i6,i7,i8,_ =>
 (cbr (decide (i8≥(4294967296:Int)))
 (cbr (decide ((IntKind.u64.wrap (i6+i2))≥(4294967296:Int)))
 (a i0 i1 i2 i3 i4 i5 (IntKind.u64.wrap (i6+i2)) i7 (IntKind.u64.wrap (i8-(1:Int))) true)
 (yc3 a0 a b c i0 i1 i2 i3 i4 i5 (IntKind.u64.wrap (i6+i2)) i7 (IntKind.u64.wrap (i8-(1:Int))) false))
 (cbr (decide ((IntKind.u64.wrap (i8*i3))>(IntKind.u64.wrap ((IntKind.u64.wrap ((4294967296:Int)*i6))+i4))))
 (cbr (decide ((IntKind.u64.wrap (i6+i2))≥(4294967296:Int)))
 (a i0 i1 i2 i3 i4 i5 (IntKind.u64.wrap (i6+i2)) i7 (IntKind.u64.wrap (i8-(1:Int))) true)
 (yc3 a0 a b c i0 i1 i2 i3 i4 i5 (IntKind.u64.wrap (i6+i2)) i7 (IntKind.u64.wrap (i8-(1:Int))) false))
 (b i0 i1 i2 i3 i4 i5 i6 i7 i8 false)))
end
def yr2 (a0:yaJ) (p0 p1 p2:Int) (K:Int→Int→Prop):Prop :=
 (cbr (p2 ==(0:Int))
 False
 (cbr (decide (p2≤p0))
 False
 (cbr (p0 ==(0:Int))
 (asr (!(decide (p2=(0:Int))))
 (asr (!(decide (p2=(0:Int))))
 (K (IntKind.u64.wrap (Int.tdiv p1 p2)) (Int.tmod p1 p2))))
 (a0 p2 (fun a =>
 (asr (!(decide ((IntKind.u64.wrap a)<(0:Int))))
 (asr (!(decide ((IntKind.u64.wrap a)<(0:Int))))
 (asr (!(decide ((IntKind.u64.wrap ((64:Int)-(IntKind.u64.wrap a)))<(0:Int))))
 (asr (!(decide ((IntKind.u64.wrap a)<(0:Int))))
 (asr (!(decide ((Int.fdiv (IntKind.u64.wrap (p2*2 ^ (min (IntKind.u64.wrap a).toNat IntKind.u64.bits))) 4294967296)=(0:Int))))
 (∃ u:Nat,yh4 a0
 (fun b v c w h i x d _ _=>(asr (!(decide (c=(0:Int))))
 (∃ l:Nat,yex a0
 (fun y m _ _ z A _ B n _=>(asr (!(decide (m<(0:Int))))
 (K (IntKind.u64.wrap ((IntKind.u64.wrap (A*(4294967296:Int)))+n)) (Int.fdiv (IntKind.u64.wrap ((IntKind.u64.wrap ((IntKind.u64.wrap (B*(4294967296:Int)))+z))-(IntKind.u64.wrap (n*y)))) (2 ^ (min m.toNat IntKind.u64.bits))))))
 (fun C o _ _ D E _ F p _=>(asr (!(decide (o<(0:Int))))
 (K (IntKind.u64.wrap ((IntKind.u64.wrap (E*(4294967296:Int)))+p)) (Int.fdiv (IntKind.u64.wrap ((IntKind.u64.wrap ((IntKind.u64.wrap (F*(4294967296:Int)))+D))-(IntKind.u64.wrap (p*C)))) (2 ^ (min o.toNat IntKind.u64.bits))))))
 l b v c w x d (IntKind.u64.wrap ((IntKind.u64.wrap ((IntKind.u64.wrap ((IntKind.u64.wrap (h*(4294967296:Int)))+i))-(IntKind.u64.wrap (d*b))))-(IntKind.u64.wrap ((IntKind.u64.wrap (Int.tdiv (IntKind.u64.wrap ((IntKind.u64.wrap ((IntKind.u64.wrap (h*(4294967296:Int)))+i))-(IntKind.u64.wrap (d*b)))) c))*c)))) (IntKind.u64.wrap ((IntKind.u64.wrap ((IntKind.u64.wrap (h*(4294967296:Int)))+i))-(IntKind.u64.wrap (d*b)))) (IntKind.u64.wrap (Int.tdiv (IntKind.u64.wrap ((IntKind.u64.wrap ((IntKind.u64.wrap (h*(4294967296:Int)))+i))-(IntKind.u64.wrap (d*b)))) c)))))
 (fun e G f H j k I g _ _=>(asr (!(decide (f=(0:Int))))
 (∃ l:Nat,yex a0
 (fun J q _ _ L M _ N r _=>(asr (!(decide (q<(0:Int))))
 (K (IntKind.u64.wrap ((IntKind.u64.wrap (M*(4294967296:Int)))+r)) (Int.fdiv (IntKind.u64.wrap ((IntKind.u64.wrap ((IntKind.u64.wrap (N*(4294967296:Int)))+L))-(IntKind.u64.wrap (r*J)))) (2 ^ (min q.toNat IntKind.u64.bits))))))
 (fun O s _ _ Q R _ S t _=>(asr (!(decide (s<(0:Int))))
 (K (IntKind.u64.wrap ((IntKind.u64.wrap (R*(4294967296:Int)))+t)) (Int.fdiv (IntKind.u64.wrap ((IntKind.u64.wrap ((IntKind.u64.wrap (S*(4294967296:Int)))+Q))-(IntKind.u64.wrap (t*O)))) (2 ^ (min s.toNat IntKind.u64.bits))))))
 l e G f H I g (IntKind.u64.wrap ((IntKind.u64.wrap ((IntKind.u64.wrap ((IntKind.u64.wrap (j*(4294967296:Int)))+k))-(IntKind.u64.wrap (g*e))))-(IntKind.u64.wrap ((IntKind.u64.wrap (Int.tdiv (IntKind.u64.wrap ((IntKind.u64.wrap ((IntKind.u64.wrap (j*(4294967296:Int)))+k))-(IntKind.u64.wrap (g*e)))) f))*f)))) (IntKind.u64.wrap ((IntKind.u64.wrap ((IntKind.u64.wrap (j*(4294967296:Int)))+k))-(IntKind.u64.wrap (g*e)))) (IntKind.u64.wrap (Int.tdiv (IntKind.u64.wrap ((IntKind.u64.wrap ((IntKind.u64.wrap (j*(4294967296:Int)))+k))-(IntKind.u64.wrap (g*e)))) f)))))
 u (IntKind.u64.wrap (p2*2 ^ (min (IntKind.u64.wrap a).toNat IntKind.u64.bits))) (IntKind.u64.wrap a) (Int.fdiv (IntKind.u64.wrap (p2*2 ^ (min (IntKind.u64.wrap a).toNat IntKind.u64.bits))) 4294967296) (IntKind.u64.wrap (BitVec.ofInt IntKind.u64.bits (IntKind.u64.wrap (p2*2 ^ (min (IntKind.u64.wrap a).toNat IntKind.u64.bits)))&&&BitVec.ofInt IntKind.u64.bits (4294967295:Int)).toNat) (IntKind.u64.wrap (BitVec.ofInt IntKind.u64.bits (IntKind.u64.wrap (p0*2 ^ (min (IntKind.u64.wrap a).toNat IntKind.u64.bits)))|||BitVec.ofInt IntKind.u64.bits (Int.fdiv p1 (2 ^ (min (IntKind.u64.wrap ((64:Int)-(IntKind.u64.wrap a))).toNat IntKind.u64.bits)))).toNat) (Int.fdiv (IntKind.u64.wrap (p1*2 ^ (min (IntKind.u64.wrap a).toNat IntKind.u64.bits))) 4294967296) (IntKind.u64.wrap (BitVec.ofInt IntKind.u64.bits (IntKind.u64.wrap (p1*2 ^ (min (IntKind.u64.wrap a).toNat IntKind.u64.bits)))&&&BitVec.ofInt IntKind.u64.bits (4294967295:Int)).toNat) (IntKind.u64.wrap (Int.tdiv (IntKind.u64.wrap (BitVec.ofInt IntKind.u64.bits (IntKind.u64.wrap (p0*2 ^ (min (IntKind.u64.wrap a).toNat IntKind.u64.bits)))|||BitVec.ofInt IntKind.u64.bits (Int.fdiv p1 (2 ^ (min (IntKind.u64.wrap ((64:Int)-(IntKind.u64.wrap a))).toNat IntKind.u64.bits)))).toNat) (Int.fdiv (IntKind.u64.wrap (p2*2 ^ (min (IntKind.u64.wrap a).toNat IntKind.u64.bits))) 4294967296))) (IntKind.u64.wrap ((IntKind.u64.wrap (BitVec.ofInt IntKind.u64.bits (IntKind.u64.wrap (p0*2 ^ (min (IntKind.u64.wrap a).toNat IntKind.u64.bits)))|||BitVec.ofInt IntKind.u64.bits (Int.fdiv p1 (2 ^ (min (IntKind.u64.wrap ((64:Int)-(IntKind.u64.wrap a))).toNat IntKind.u64.bits)))).toNat)-(IntKind.u64.wrap ((IntKind.u64.wrap (Int.tdiv (IntKind.u64.wrap (BitVec.ofInt IntKind.u64.bits (IntKind.u64.wrap (p0*2 ^ (min (IntKind.u64.wrap a).toNat IntKind.u64.bits)))|||BitVec.ofInt IntKind.u64.bits (Int.fdiv p1 (2 ^ (min (IntKind.u64.wrap ((64:Int)-(IntKind.u64.wrap a))).toNat IntKind.u64.bits)))).toNat) (Int.fdiv (IntKind.u64.wrap (p2*2 ^ (min (IntKind.u64.wrap a).toNat IntKind.u64.bits))) 4294967296)))*(Int.fdiv (IntKind.u64.wrap (p2*2 ^ (min (IntKind.u64.wrap a).toNat IntKind.u64.bits))) 4294967296))))))))))))))))
def ygA:ya5:=yr2 ybF
def yE9:Sg:=⟨(lC pt2 pt4),Int→Int→Prop,fun K=>(fun r0 r1=>K (.tup [(.int .u64 r0),(.int .u64 r1)]))⟩
def yqI (Q:Qx):Int→Int→Int→Int→Int→Int→Int→Int→Int→Bool→Prop:=(fun i0 i1 i2 i3 i4 i5 i6 i7 i8 b9=>Q (.exit 0) [(2,.v (.int .u64 i0)),(8,.v (.int .u64 i1)),(9,.v (.int .u64 i2)),(10,.v (.int .u64 i3)),(11,.v (.int .u64 i4)),(13,.v (.int .u64 i5)),(14,.v (.int .u64 i6)),(15,.v (.int .u64 i7)),(16,.v (.int .u64 i8)),(85,.v (.bool b9))] [])
def yqJ (Q:Qx):Int→Int→Int→Int→Int→Int→Int→Int→Int→Bool→Prop:=(fun i0 i1 i2 i3 i4 i5 i6 i7 i8 b9=>Q (.exit 0) [(2,.v (.int .u64 i0)),(8,.v (.int .u64 i1)),(9,.v (.int .u64 i2)),(10,.v (.int .u64 i3)),(11,.v (.int .u64 i4)),(13,.v (.int .u64 i5)),(14,.v (.int .u64 i6)),(15,.v (.int .u64 i7)),(16,.v (.int .u64 i8)),(78,.v (.bool b9))] [])
def yqK (Q:Qx):Int→Int→Int→Int→Int→Int→Int→Int→Int→Bool→Prop:=(fun i0 i1 i2 i3 i4 i5 i6 i7 i8 b9=>Q (.exit 2) [(2,.v (.int .u64 i0)),(8,.v (.int .u64 i1)),(9,.v (.int .u64 i2)),(10,.v (.int .u64 i3)),(14,.v (.int .u64 i4)),(15,.v (.int .u64 i5)),(16,.v (.int .u64 i6)),(17,.v (.int .u64 i7)),(18,.v (.int .u64 i8)),(120,.v (.bool b9))] [])
def yqL (Q:Qx):Int→Int→Int→Int→Int→Int→Int→Int→Int→Bool→Prop:=(fun i0 i1 i2 i3 i4 i5 i6 i7 i8 b9=>Q (.exit 2) [(2,.v (.int .u64 i0)),(8,.v (.int .u64 i1)),(9,.v (.int .u64 i2)),(10,.v (.int .u64 i3)),(14,.v (.int .u64 i4)),(15,.v (.int .u64 i5)),(16,.v (.int .u64 i6)),(17,.v (.int .u64 i7)),(18,.v (.int .u64 i8)),(113,.v (.bool b9))] [])
def ys7 (a0:yaJ) (Q:Qx):List St:=[⟨(pS hN (fV 2 pt2 (fV 8 pt2 (fV 9 pt2 (fV 10 pt2 (fV 11 pt2 (fV 13 pt2 (fV 14 pt2 (fV 15 pt2 (fV 16 pt2 fN))))))))) fN),yh4 a0 (yqI Q) (yqJ Q)⟩,⟨(pS hN (fV 2 pt2 (fV 8 pt2 (fV 9 pt2 (fV 10 pt2 (fV 11 pt2 (fV 13 pt2 (fV 14 pt2 (fV 15 pt2 (fV 16 pt2 (fV 85 vB fN)))))))))) fN),yc2 a0 (yqI Q) (yqJ Q)⟩]
def ys8 (a0:yaJ) (Q:Qx):List St:=[⟨(pS hN (fV 2 pt2 (fV 8 pt2 (fV 9 pt2 (fV 10 pt2 (fV 14 pt2 (fV 15 pt2 (fV 16 pt2 (fV 17 pt2 (fV 18 pt2 fN))))))))) fN),yex a0 (yqK Q) (yqL Q)⟩,⟨(pS hN (fV 2 pt2 (fV 8 pt2 (fV 9 pt2 (fV 10 pt2 (fV 14 pt2 (fV 15 pt2 (fV 16 pt2 (fV 17 pt2 (fV 18 pt2 (fV 120 vB fN)))))))))) fN),yc3 a0 (yqK Q) (yqL Q)⟩]
def yr4 (a0:yaJ):LP:=lpS [(60530100,ys7 a0),(60530101,ys8 a0)]
def ymu (e:Es) (a0:yaJ):SE:=sE (E e) [(yef,yxY.pw a0)] (yr4 a0)
theorem yow (e:Es) (he:EG e):SEOk (Uni (E e)) (ymu e ybF):=yaz (Sub.uni _) ⟨(yqb e he),trivial⟩ trivial he.ok
theorem yxZ (e:Es) (a0):yct (ymu e a0) 5 a yrv false (ys7 a0):=fun _=>⟨fun _=>by kernel_rfl,fun _ _=>by kernel_rfl,fun _=>by kernel_rfl,fun _ _=>by kernel_rfl,trivial⟩
theorem yx0 (e:Es) (he:EG e):LpT (Uni (E e)) (yr4 ybF) [] 60530100 (.loop 60530100 yrv):=fun _ _ _=>yof.st (Sub.uni _) (ya3 (yow e he) 5) (YOk.no _ _) (yaq (by kernel_rfl)) (yxZ e _ _)
theorem yx1 (e:Es) (a0):yct (ymu e a0) 5 a yrw false (ys8 a0):=fun _=>⟨fun _=>by kernel_rfl,fun _ _=>by kernel_rfl,fun _=>by kernel_rfl,fun _ _=>by kernel_rfl,trivial⟩
theorem yx2 (e:Es) (he:EG e):LpT (Uni (E e)) (yr4 ybF) [] 60530101 (.loop 60530101 yrw):=fun _ _ _=>yof.st (Sub.uni _) (ya3 (yow e he) 5) (YOk.no _ _) (yaq (by kernel_rfl)) (yx1 e _ _)
theorem yFa (e:Es) (a0):EqW (ymu e a0) 6 yur yE9 (yr2 a0):=fun _ _=>by kernel_rfl
theorem yx3 (e:Es) (he:EG e):OkF (E e) (yE9.pw ygA) yls:=okU he (yFa e _) (yow e he) ynq.flat (ybq (l:=[(60530100,.loop 60530100 yrv),(60530101,.loop 60530101 yrw)]) ⟨yx0 e he,yx2 e he,trivial⟩ (by kernel_rfl))
abbrev yuz:Type:=Int→Int→Int→(Int→Prop)→Prop
def yr5 (a0:ya5) (p0 p1 p2:Int) (K:Int→Prop):Prop :=
 (asr (!(decide (p2=(0:Int))))
 (a0 (Int.tmod p0 p2) p1 p2 (fun _ a =>
 (K a))))
def yhM:yuz:=yr5 ygA
def yFb:Sg:=⟨(lC pt2 pt4),Int→Prop,fun K=>(fun r0=>K (.int .u64 r0))⟩
def yFc (e:Es) (a0:ya5):SE:=sE (E e) [(yls,yE9.pw a0)] lp0
theorem yFd (e:Es) (a0):EqW (yFc e a0) 6 yHt yFb (yr5 a0):=fun _ _=>by kernel_rfl
theorem yFe (e:Es) (he:EG e):OkF (E e) (yFb.pw yhM) ypN:=okU he (yFd e _) (yaz (Sub.uni _) ⟨(yx3 e he),trivial⟩ trivial he.ok) ynq.flat (yaq (by kernel_rfl))
def ymv (a0:yaI) (a1:yay) (a2:yaJ) (a3:ybV) (a4:yz9) (a5:yuz) (a6:ya5) (a7:ye9) (a8:yAa) (p0 p1 p2 p3:Int) (K:Int→Int→Int→Prop):Prop :=
 (a0 p0 p1 p2 p3 (fun z =>
 (cbr (z !=(0:Int))
 (K (0:Int) (0:Int) z)
 (a1 (IntKind.u64.wrap p1) (IntKind.u64.wrap p3) (fun a =>
 (a2 p0 (fun A =>
 (asr (!(decide (a=(0:Int))))
 (a3 A (IntKind.u64.wrap (Int.tdiv (IntKind.u64.wrap p3) a)) (fun b i =>
 (a2 p2 (fun B =>
 (asr (!(decide (a=(0:Int))))
 (a3 B (IntKind.u64.wrap (Int.tdiv (IntKind.u64.wrap p1) a)) (fun c j =>
 (cbr ((decide (p0<(0:Int))) ==(decide (p2<(0:Int))))
 (a4 i j (0:Int) (fun k C =>
 (a4 b c C (fun d _ =>
 (cbr (d ==(0:Int))
 (cbr (k ==(0:Int))
 (K (0:Int) (1:Int) (0:Int))
 (a5 d k a (fun D =>
 (a1 D a (fun p =>
 (cbr (decide (d≥p))
 (K (0:Int) (0:Int) (16:Int))
 (a6 d k p (fun E _ =>
 (asr (!(decide (a=(0:Int))))
 (asr (!(decide (p=(0:Int))))
 (a3 (IntKind.u64.wrap (Int.tdiv (IntKind.u64.wrap p1) a)) (IntKind.u64.wrap (Int.tdiv (IntKind.u64.wrap p3) p)) (fun F G =>
 (cbr (decide (F>(0:Int)))
 (K (0:Int) (0:Int) (16:Int))
 (a7 (decide (p0<(0:Int))) E G (fun H I J =>
 (K H I J))))))))))))))))
 (a5 d k a (fun L =>
 (a1 L a (fun q =>
 (cbr (decide (d≥q))
 (K (0:Int) (0:Int) (16:Int))
 (a6 d k q (fun M _ =>
 (asr (!(decide (a=(0:Int))))
 (asr (!(decide (q=(0:Int))))
 (a3 (IntKind.u64.wrap (Int.tdiv (IntKind.u64.wrap p1) a)) (IntKind.u64.wrap (Int.tdiv (IntKind.u64.wrap p3) q)) (fun N O =>
 (cbr (decide (N>(0:Int)))
 (K (0:Int) (0:Int) (16:Int))
 (a7 (decide (p0<(0:Int))) M O (fun Q R S =>
 (K Q R S))))))))))))))))))))
 (cbr (decide (b<c))
 (a8 j i (0:Int) (fun l T =>
 (a8 c b T (fun e _ =>
 (cbr (e ==(0:Int))
 (cbr (l ==(0:Int))
 (K (0:Int) (1:Int) (0:Int))
 (a5 e l a (fun U =>
 (a1 U a (fun r =>
 (cbr (decide (e≥r))
 (K (0:Int) (0:Int) (16:Int))
 (a6 e l r (fun V _ =>
 (asr (!(decide (a=(0:Int))))
 (asr (!(decide (r=(0:Int))))
 (a3 (IntKind.u64.wrap (Int.tdiv (IntKind.u64.wrap p1) a)) (IntKind.u64.wrap (Int.tdiv (IntKind.u64.wrap p3) r)) (fun W X =>
 (cbr (decide (W>(0:Int)))
 (K (0:Int) (0:Int) (16:Int))
 (a7 (!(decide (p0<(0:Int)))) V X (fun Y Z va =>
 (K Y Z va))))))))))))))))
 (a5 e l a (fun vb =>
 (a1 vb a (fun s =>
 (cbr (decide (e≥s))
 (K (0:Int) (0:Int) (16:Int))
 (a6 e l s (fun vc _ =>
 (asr (!(decide (a=(0:Int))))
 (asr (!(decide (s=(0:Int))))
 (a3 (IntKind.u64.wrap (Int.tdiv (IntKind.u64.wrap p1) a)) (IntKind.u64.wrap (Int.tdiv (IntKind.u64.wrap p3) s)) (fun vd ve =>
 (cbr (decide (vd>(0:Int)))
 (K (0:Int) (0:Int) (16:Int))
 (a7 (!(decide (p0<(0:Int)))) vc ve (fun vf vg vh =>
 (K vf vg vh))))))))))))))))))))
 (cbr (b == c)
 (cbr (decide (i<j))
 (a8 j i (0:Int) (fun m vi =>
 (a8 c b vi (fun f _ =>
 (cbr (f ==(0:Int))
 (cbr (m ==(0:Int))
 (K (0:Int) (1:Int) (0:Int))
 (a5 f m a (fun vj =>
 (a1 vj a (fun t =>
 (cbr (decide (f≥t))
 (K (0:Int) (0:Int) (16:Int))
 (a6 f m t (fun vk _ =>
 (asr (!(decide (a=(0:Int))))
 (asr (!(decide (t=(0:Int))))
 (a3 (IntKind.u64.wrap (Int.tdiv (IntKind.u64.wrap p1) a)) (IntKind.u64.wrap (Int.tdiv (IntKind.u64.wrap p3) t)) (fun vl vm =>
 (cbr (decide (vl>(0:Int)))
 (K (0:Int) (0:Int) (16:Int))
 (a7 (!(decide (p0<(0:Int)))) vk vm (fun vn vo vp =>
 (K vn vo vp))))))))))))))))
 (a5 f m a (fun vq =>
 (a1 vq a (fun u =>
 (cbr (decide (f≥u))
 (K (0:Int) (0:Int) (16:Int))
 (a6 f m u (fun vr _ =>
 (asr (!(decide (a=(0:Int))))
 (asr (!(decide (u=(0:Int))))
 (a3 (IntKind.u64.wrap (Int.tdiv (IntKind.u64.wrap p1) a)) (IntKind.u64.wrap (Int.tdiv (IntKind.u64.wrap p3) u)) (fun vs vt =>
 (cbr (decide (vs>(0:Int)))
 (K (0:Int) (0:Int) (16:Int))
 (a7 (!(decide (p0<(0:Int)))) vr vt (fun vu vv vw =>
 (K vu vv vw))))))))))))))))))))
 (a8 i j (0:Int) (fun n vx =>
 (a8 b c vx (fun g _ =>
 (cbr (g ==(0:Int))
 (cbr (n ==(0:Int))
 (K (0:Int) (1:Int) (0:Int))
 (a5 g n a (fun vy =>
 (a1 vy a (fun v =>
 (cbr (decide (g≥v))
 (K (0:Int) (0:Int) (16:Int))
 (a6 g n v (fun vz _ =>
 (asr (!(decide (a=(0:Int))))
 (asr (!(decide (v=(0:Int))))
 (a3 (IntKind.u64.wrap (Int.tdiv (IntKind.u64.wrap p1) a)) (IntKind.u64.wrap (Int.tdiv (IntKind.u64.wrap p3) v)) (fun vA vB =>
 (cbr (decide (vA>(0:Int)))
 (K (0:Int) (0:Int) (16:Int))
 (a7 (decide (p0<(0:Int))) vz vB (fun vC vD vE =>
 (K vC vD vE))))))))))))))))
 (a5 g n a (fun vF =>
 (a1 vF a (fun w =>
 (cbr (decide (g≥w))
 (K (0:Int) (0:Int) (16:Int))
 (a6 g n w (fun vG _ =>
 (asr (!(decide (a=(0:Int))))
 (asr (!(decide (w=(0:Int))))
 (a3 (IntKind.u64.wrap (Int.tdiv (IntKind.u64.wrap p1) a)) (IntKind.u64.wrap (Int.tdiv (IntKind.u64.wrap p3) w)) (fun vH vI =>
 (cbr (decide (vH>(0:Int)))
 (K (0:Int) (0:Int) (16:Int))
 (a7 (decide (p0<(0:Int))) vG vI (fun vJ vK vL =>
 (K vJ vK vL)))))))))))))))))))))
 (a8 i j (0:Int) (fun o vM =>
 (a8 b c vM (fun h _ =>
 (cbr (h ==(0:Int))
 (cbr (o ==(0:Int))
 (K (0:Int) (1:Int) (0:Int))
 (a5 h o a (fun vN =>
 (a1 vN a (fun x =>
 (cbr (decide (h≥x))
 (K (0:Int) (0:Int) (16:Int))
 (a6 h o x (fun vO _ =>
 (asr (!(decide (a=(0:Int))))
 (asr (!(decide (x=(0:Int))))
 (a3 (IntKind.u64.wrap (Int.tdiv (IntKind.u64.wrap p1) a)) (IntKind.u64.wrap (Int.tdiv (IntKind.u64.wrap p3) x)) (fun vP vQ =>
 (cbr (decide (vP>(0:Int)))
 (K (0:Int) (0:Int) (16:Int))
 (a7 (decide (p0<(0:Int))) vO vQ (fun vR vS vT =>
 (K vR vS vT))))))))))))))))
 (a5 h o a (fun vU =>
 (a1 vU a (fun y =>
 (cbr (decide (h≥y))
 (K (0:Int) (0:Int) (16:Int))
 (a6 h o y (fun vV _ =>
 (asr (!(decide (a=(0:Int))))
 (asr (!(decide (y=(0:Int))))
 (a3 (IntKind.u64.wrap (Int.tdiv (IntKind.u64.wrap p1) a)) (IntKind.u64.wrap (Int.tdiv (IntKind.u64.wrap p3) y)) (fun vW vX =>
 (cbr (decide (vW>(0:Int)))
 (K (0:Int) (0:Int) (16:Int))
 (a7 (decide (p0<(0:Int))) vV vX (fun vY vZ v0 =>
 (K vY vZ v0))))))))))))))))))))))))))))))))))))))
def ybx:yal:=ymv yc1 ycB yeh yfu yjd yhM ygA ycC yje
def yBh (e:Es) (a0:yaI) (a1:yay) (a2:yaJ) (a3:ybV) (a4:yz9) (a5:yuz) (a6:ya5) (a7:ye9) (a8:yAa):SE:=sE (E e) [(yc0,yjB.pw a0),(ygw,ys3.pw a1),(yeb,yqF.pw a2),(yjf,yE3.pw a3),(yhF,yre a4),(ypN,yFb.pw a5),(yls,yE9.pw a6),(yeY,yv3.pw a7),(yhG,yrg a8)] lp0
theorem yBi (e:Es) (a0 a1 a2 a3 a4 a5 a6 a7 a8):EqW (yBh e a0 a1 a2 a3 a4 a5 a6 a7 a8) 6 yDr yej (ymv a0 a1 a2 a3 a4 a5 a6 a7 a8):=fun _ _=>by kernel_rfl
theorem yg4 (e:Es) (he:EG e):OkF (E e) (yej.pw ybx) ye1:=okU he (yBi e _ _ _ _ _ _ _ _ _) (yaz (Sub.uni _) ⟨(ye8 e he),(ymp e he),(yh3 e he),(yrV e he),(yE1 e he),(yFe e he),(yx3 e he),(ynx e he),(yE2 e he),trivial⟩ trivial he.ok) ynq.flat (yaq (by kernel_rfl))
def ymw (a0:yaI) (a1:yal) (p0 p1 p2 p3:Int) (K:Int→Int→Int→Prop):Prop :=
 (a0 p0 p1 p2 p3 (fun a =>
 (cbr (a !=(0:Int))
 (K (0:Int) (0:Int) a)
 (a1 p0 p1 (IntKind.i64.wrap ((0:Int)-p2)) p3 (fun b c d =>
 (K b c d))))))
def yaD:yal:=ymw yc1 ybx
def yBj (e:Es) (a0:yaI) (a1:yal):SE:=sE (E e) [(yc0,yjB.pw a0),(ye1,yej.pw a1)] lp0
theorem yBk (e:Es) (a0 a1):EqW (yBj e a0 a1) 6 yDs yej (ymw a0 a1):=fun _ _=>by kernel_rfl
theorem yfw (e:Es) (he:EG e):OkF (E e) (yej.pw yaD) yd5:=okU he (yBk e _ _) (yaz (Sub.uni _) ⟨(ye8 e he),(yg4 e he),trivial⟩ trivial he.ok) ynq.flat (yaq (by kernel_rfl))
def ymx (a0:yaI) (a1:yal) (p0 p1 p2 p3:Int) (K:Int→Int→Int→Prop):Prop :=
 (a0 p0 p1 p2 p3 (fun a =>
 (cbr (a !=(0:Int))
 (K (0:Int) (0:Int) a)
 (cbr (p2 ==(0:Int))
 (K (0:Int) (0:Int) (18:Int))
 (cbr (decide (p2<(0:Int)))
 (a1 p0 p1 (IntKind.i64.wrap ((0:Int)-p3)) (IntKind.i64.wrap ((0:Int)-p2)) (fun b c d =>
 (K b c d)))
 (a1 p0 p1 p3 p2 (fun e f g =>
 (K e f g))))))))
def ycD:yal:=ymx yc1 ybh
def yBl (e:Es) (a0:yaI) (a1:yal):SE:=sE (E e) [(yc0,yjB.pw a0),(yd4,yej.pw a1)] lp0
theorem yBm (e:Es) (a0 a1):EqW (yBl e a0 a1) 6 yDt yej (ymx a0 a1):=fun _ _=>by kernel_rfl
theorem ymy (e:Es) (he:EG e):OkF (E e) (yej.pw ycD) yif:=okU he (yBm e _ _) (yaz (Sub.uni _) ⟨(ye8 e he),(yfv e he),trivial⟩ trivial he.ok) ynq.flat (yaq (by kernel_rfl))
set_option linter.unusedVariables false
theorem yv6 (p0:Int) (p1:Int) (r0:Int) (h:∀ K:Int→Prop,K r0→ybu p0 p1 K) (K:Int→Prop):ybu p0 p1 K=K r0 :=
 propext ⟨fun k=>detC (ye7 [] ybm) (az:=[(.agg [(.int .i64 p0),(.int .i64 p1)])]) (x:=(.int .i64 r0)) (fun K' k'=>h (fun r0=>K' (.int .i64 r0)) k') (K:=fun x=>match x with | (.int .i64 r0)=>K r0 | _=>False) k,h K⟩
theorem yy2 (p0:Int) (p1:Int) (p2:Int) (p3:Int) (r0:Int) (r1:Int) (r2:Int) (h:∀ K:Int→Int→Int→Prop,K r0 r1 r2→ybh p0 p1 p2 p3 K) (K:Int→Int→Int→Prop):ybh p0 p1 p2 p3 K=K r0 r1 r2 :=
 propext ⟨fun k=>detC (yfv [] ybm) (az:=[(.agg [(.int .i64 p0),(.int .i64 p1)]),(.agg [(.int .i64 p2),(.int .i64 p3)])]) (x:=(.tup [(.agg [(.int .i64 r0),(.int .i64 r1)]),(.int .i64 r2)])) (fun K' k'=>h (fun r0 r1 r2=>K' (.tup [(.agg [(.int .i64 r0),(.int .i64 r1)]),(.int .i64 r2)])) k') (K:=fun x=>match x with | (.tup [(.agg [(.int .i64 r0),(.int .i64 r1)]),(.int .i64 r2)])=>K r0 r1 r2 | _=>False) k,h K⟩
theorem yy3 (p0:Int) (p1:Int) (p2:Int) (p3:Int) (r0:Int) (r1:Int) (h:∀ K:Int→Int→Prop,K r0 r1→ybW p0 p1 p2 p3 K) (K:Int→Int→Prop):ybW p0 p1 p2 p3 K=K r0 r1 :=
 propext ⟨fun k=>detC (yg3 [] ybm) (az:=[(.agg [(.int .i64 p0),(.int .i64 p1)]),(.agg [(.int .i64 p2),(.int .i64 p3)])]) (x:=(.tup [(.int .i64 r0),(.int .i64 r1)])) (fun K' k'=>h (fun r0 r1=>K' (.tup [(.int .i64 r0),(.int .i64 r1)])) k') (K:=fun x=>match x with | (.tup [(.int .i64 r0),(.int .i64 r1)])=>K r0 r1 | _=>False) k,h K⟩
theorem yy4 (p0:Int) (p1:Int) (p2:Int) (p3:Int) (r0:Int) (r1:Int) (r2:Int) (h:∀ K:Int→Int→Int→Prop,K r0 r1 r2→ybx p0 p1 p2 p3 K) (K:Int→Int→Int→Prop):ybx p0 p1 p2 p3 K=K r0 r1 r2 :=
 propext ⟨fun k=>detC (yg4 [] ybm) (az:=[(.agg [(.int .i64 p0),(.int .i64 p1)]),(.agg [(.int .i64 p2),(.int .i64 p3)])]) (x:=(.tup [(.agg [(.int .i64 r0),(.int .i64 r1)]),(.int .i64 r2)])) (fun K' k'=>h (fun r0 r1 r2=>K' (.tup [(.agg [(.int .i64 r0),(.int .i64 r1)]),(.int .i64 r2)])) k') (K:=fun x=>match x with | (.tup [(.agg [(.int .i64 r0),(.int .i64 r1)]),(.int .i64 r2)])=>K r0 r1 r2 | _=>False) k,h K⟩
theorem yy5 (p0:Int) (p1:Int) (p2:Int) (p3:Int) (r0:Int) (r1:Int) (r2:Int) (h:∀ K:Int→Int→Int→Prop,K r0 r1 r2→yaD p0 p1 p2 p3 K) (K:Int→Int→Int→Prop):yaD p0 p1 p2 p3 K=K r0 r1 r2 :=
 propext ⟨fun k=>detC (yfw [] ybm) (az:=[(.agg [(.int .i64 p0),(.int .i64 p1)]),(.agg [(.int .i64 p2),(.int .i64 p3)])]) (x:=(.tup [(.agg [(.int .i64 r0),(.int .i64 r1)]),(.int .i64 r2)])) (fun K' k'=>h (fun r0 r1 r2=>K' (.tup [(.agg [(.int .i64 r0),(.int .i64 r1)]),(.int .i64 r2)])) k') (K:=fun x=>match x with | (.tup [(.agg [(.int .i64 r0),(.int .i64 r1)]),(.int .i64 r2)])=>K r0 r1 r2 | _=>False) k,h K⟩
theorem yy6 (p0:Int) (p1:Int) (p2:Int) (p3:Int) (r0:Int) (r1:Int) (r2:Int) (h:∀ K:Int→Int→Int→Prop,K r0 r1 r2→ycD p0 p1 p2 p3 K) (K:Int→Int→Int→Prop):ycD p0 p1 p2 p3 K=K r0 r1 r2 :=
 propext ⟨fun k=>detC (ymy [] ybm) (az:=[(.agg [(.int .i64 p0),(.int .i64 p1)]),(.agg [(.int .i64 p2),(.int .i64 p3)])]) (x:=(.tup [(.agg [(.int .i64 r0),(.int .i64 r1)]),(.int .i64 r2)])) (fun K' k'=>h (fun r0 r1 r2=>K' (.tup [(.agg [(.int .i64 r0),(.int .i64 r1)]),(.int .i64 r2)])) k') (K:=fun x=>match x with | (.tup [(.agg [(.int .i64 r0),(.int .i64 r1)]),(.int .i64 r2)])=>K r0 r1 r2 | _=>False) k,h K⟩
def ycf (x0:Ls→Int→Int→Bool→Prop):Nat→Ls→Int→Int→Prop
 | 0,_,_,_=>False
 | n+1,l0,i1,i2 =>
 (cbr (decide (i2<(((List.length l0):Nat):Int)))
 (asr (decide ((0:Int)≤i2))
 (asr (decide (i2<(((List.length l0):Nat):Int)))
 (asr (conf zI (List.getD l0 (i2.toNat) .nils))
 (ycf x0 n l0 (if (yaa (List.getD l0 (i2.toNat) .nils))<i1 then (yaa (List.getD l0 (i2.toNat) .nils)) else i1) (IntKind.i64.wrap (i2+(1:Int)))))))
 (x0 l0 i1 i2 false))
def yhN (p0:Ls) (K:Int→Prop):Prop :=
 (cbr (decide ((((List.length p0):Nat):Int)<(1:Int)))
 False
 (asr (decide ((0:Int)<(((List.length p0):Nat):Int)))
 (asr (conf zI (List.getD p0 0 .nils))
 (∃ n:Nat,ycf
 (fun b a c d=>(K a))
 n p0 (yaa (List.getD p0 0 .nils)) (1:Int)))))
def ydl:yaF:=yhN
def yqc (Q:Qx):Ls→Int→Int→Bool→Prop:=(fun l0 i1 i2 b3=>Q (.exit 0) [(0,.v (.data l0)),(3,.v (.int .i64 i1)),(4,.v (.int .i64 i2)),(15,.v (.bool b3))] [])
def pt12:Pat Sta:=pS hN (fV 0 vD (fV 3 pt0 (fV 4 pt0 fN))) fN
def yjC (Q:Qx):List St:=[⟨pt12,ycf (yqc Q)⟩]
def ylB:LP:=lpS [(10434000,yjC)]
def yhO (e:Es):SE:=sE (E e) [] (ylB)
theorem ykx (e:Es) (he:EG e):SEOk (Uni (E e)) (yhO e):=yaz (Sub.uni _) trivial trivial he.ok
theorem yox (e:Es):yct (yhO e) 5 a yrk false (yjC):=fun _=>⟨fun _=>by kernel_rfl,fun _ _=>by kernel_rfl,trivial⟩
theorem yoy (e:Es) (he:EG e):LpT (Uni (E e)) (ylB) [] 10434000 (.loop 10434000 yrk):=fun _ _ _=>yof.st (Sub.uni _) (ya3 (ykx e he) 5) (YOk.no _ _) (yaq (by kernel_rfl)) (yox e _)
theorem yuA (e:Es):EqW (yhO e) 6 ynu ycV yhN:=fun _ _=>by kernel_rfl
theorem yuB (e:Es) (he:EG e):OkF (E e) (ycV.pw ydl) yf9:=okU he (yuA e) (ykx e he) ynq.flat (ybq (l:=[(10434000,.loop 10434000 yrk)]) ⟨yoy e he,trivial⟩ (by kernel_rfl))
def ycg (x0:Ls→Int→Int→Bool→Prop):Nat→Ls→Int→Int→Prop
 | 0,_,_,_=>False
 | n+1,l0,i1,i2 =>
 (cbr (decide (i2<(((List.length l0):Nat):Int)))
 (asr (decide ((0:Int)≤i2))
 (asr (decide (i2<(((List.length l0):Nat):Int)))
 (asr (conf zI (List.getD l0 (i2.toNat) .nils))
 (ycg x0 n l0 (if (yaa (List.getD l0 (i2.toNat) .nils))>i1 then (yaa (List.getD l0 (i2.toNat) .nils)) else i1) (IntKind.i64.wrap (i2+(1:Int)))))))
 (x0 l0 i1 i2 false))
def yhP (p0:Ls) (K:Int→Prop):Prop :=
 (cbr (decide ((((List.length p0):Nat):Int)<(1:Int)))
 False
 (asr (decide ((0:Int)<(((List.length p0):Nat):Int)))
 (asr (conf zI (List.getD p0 0 .nils))
 (∃ n:Nat,ycg
 (fun b a c d=>(K a))
 n p0 (yaa (List.getD p0 0 .nils)) (1:Int)))))
def ydm:yaF:=yhP
def yqd (Q:Qx):Ls→Int→Int→Bool→Prop:=(fun l0 i1 i2 b3=>Q (.exit 0) [(0,.v (.data l0)),(3,.v (.int .i64 i1)),(4,.v (.int .i64 i2)),(15,.v (.bool b3))] [])
def yjD (Q:Qx):List St:=[⟨pt12,ycg (yqd Q)⟩]
def ylC:LP:=lpS [(64079100,yjD)]
def yhQ (e:Es):SE:=sE (E e) [] (ylC)
theorem yky (e:Es) (he:EG e):SEOk (Uni (E e)) (yhQ e):=yaz (Sub.uni _) trivial trivial he.ok
theorem yoz (e:Es):yct (yhQ e) 5 a yrl false (yjD):=fun _=>⟨fun _=>by kernel_rfl,fun _ _=>by kernel_rfl,trivial⟩
theorem yoA (e:Es) (he:EG e):LpT (Uni (E e)) (ylC) [] 64079100 (.loop 64079100 yrl):=fun _ _ _=>yof.st (Sub.uni _) (ya3 (yky e he) 5) (YOk.no _ _) (yaq (by kernel_rfl)) (yoz e _)
theorem yuC (e:Es):EqW (yhQ e) 6 ynv ycV yhP:=fun _ _=>by kernel_rfl
theorem yuD (e:Es) (he:EG e):OkF (E e) (ycV.pw ydm) yga:=okU he (yuC e) (yky e he) ynq.flat (ybq (l:=[(64079100,.loop 64079100 yrl)]) ⟨yoA e he,trivial⟩ (by kernel_rfl))
abbrev yav:Type:=Int→Ls→Ls→(Int→Prop)→Prop
def yc9 (a0:yaF) (a1:yaF) (x0:Int→Prop) (x1:Int→Ls→Ls→Int→Int→Bool→Prop):Nat→Int→Ls→Ls→Int→Int→Prop
 | 0,_,_,_,_,_=>False
 | n+1,i0,l1,l2,i3,i4 =>
 (cbr (decide (i4<i3))
 (asr (decide ((0:Int)≤i4))
 (asr (decide (i4<(((List.length l1):Nat):Int)))
 (asr (conf zI (List.getD l1 (i4.toNat) .nils))
 (asr (decide ((0:Int)≤(IntKind.i64.wrap (i4+(1:Int)))))
 (asr (decide ((IntKind.i64.wrap (i4+(1:Int)))<(((List.length l1):Nat):Int)))
 (asr (conf zI (List.getD l1 ((IntKind.i64.wrap (i4+(1:Int))).toNat) .nils))
 (cbr (decide ((yaa (List.getD l1 (i4.toNat) .nils))≥(yaa (List.getD l1 ((IntKind.i64.wrap (i4+(1:Int))).toNat) .nils))))
 (x0 (8:Int))
 (yc9 a0 a1 x0 x1 n i0 l1 l2 i3 (IntKind.i64.wrap (i4+(1:Int)))))))))))
 (x1 i0 l1 l2 i3 i4 false))
def ykS (a0:yaF) (a1:yaF) (p0:Int) (p1 p2:Ls) (K:Int→Prop):Prop :=
 (cbr (decide (p0>(1000:Int)))
 (K (4:Int))
 (cbr (decide ((((List.length p1):Nat):Int)>(40:Int)))
 (K (4:Int))
 (cbr (decide (p0<(1:Int)))
 (K (8:Int))
 (cbr (decide ((((List.length p1):Nat):Int)<(2:Int)))
 (K (8:Int))
 (cbr ((((List.length p2):Nat):Int) !=(IntKind.i64.wrap ((((List.length p1):Nat):Int)-(1:Int))))
 (K (8:Int))
 (asr (decide ((0:Int)<(((List.length p1):Nat):Int)))
 (asr (conf zI (List.getD p1 0 .nils))
 (cbr ((yaa (List.getD p1 0 .nils)) !=(0:Int))
 (K (8:Int))
 (asr (decide ((0:Int)≤(IntKind.i64.wrap ((((List.length p1):Nat):Int)-(1:Int)))))
 (asr (decide ((IntKind.i64.wrap ((((List.length p1):Nat):Int)-(1:Int)))<(((List.length p1):Nat):Int)))
 (asr (conf zI (List.getD p1 ((IntKind.i64.wrap ((((List.length p1):Nat):Int)-(1:Int))).toNat) .nils))
 (cbr ((yaa (List.getD p1 ((IntKind.i64.wrap ((((List.length p1):Nat):Int)-(1:Int))).toNat) .nils)) != p0)
 (K (8:Int))
 (∃ n:Nat,yc9 a0 a1
 (fun b=>(K b))
 (fun f g a h i j=>(a0 a (fun c =>
 (cbr (decide (c<(0:Int)))
 (K (8:Int))
 (a1 a (fun d =>
 (cbr (decide (d>(12:Int)))
 (K (8:Int))
 (a1 a (fun e =>
 (cbr (e ==(0:Int))
 (K (8:Int))
 (K (0:Int))))))))))))
 n p0 p1 p2 (IntKind.i64.wrap ((((List.length p1):Nat):Int)-(1:Int))) (0:Int))))))))))))))
def yaZ:yav:=ykS ydl ydm
def pt13:VPt:=vA (lC pt0 (lC vD pt9))
def pt14:LPt:=lC pt13 lN
def ykT:Sg:=⟨pt14,Int→Prop,fun K=>(fun r0=>K (.int .i64 r0))⟩
def yuE (Q:Qx):Int→Prop:=(fun i0=>Q .ret [(2,.v (.int .i64 i0))] [])
def yuF (Q:Qx):Int→Ls→Ls→Int→Int→Bool→Prop:=(fun i0 l1 l2 i3 i4 b5=>Q (.exit 0) [(1,.box (.agg [(.int .i64 i0),(.data l1),(.data l2)])),(49,.v (.int .i64 i3)),(50,.v (.int .i64 i4)),(51,.v (.bool b5))] [])
def ynz (a0:yaF) (a1:yaF) (Q:Qx):List St:=[⟨(pS hN (fX 1 pt13 (fV 49 pt0 (fV 50 pt0 fN))) fN),yc9 a0 a1 (yuE Q) (yuF Q)⟩]
def yqM (a0:yaF) (a1:yaF):LP:=lpS [(87419700,ynz a0 a1)]
def ykU (e:Es) (a0:yaF) (a1:yaF):SE:=sE (E e) [(yf9,ycV.pw a0),(yga,ycV.pw a1)] (yqM a0 a1)
end Go.Pf.Vc
